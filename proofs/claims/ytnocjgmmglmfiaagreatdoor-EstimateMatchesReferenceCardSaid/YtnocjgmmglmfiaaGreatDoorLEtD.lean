/-
  Contracts and plain lemmas. By an AI agent.
-/
import Derived.Test.YtnocjgmmglmfiaaGreatDoorEng
import Derived.Test.YtnocjgmmglmfiaaGreatDoorProg
set_option linter.unusedSimpArgs false
set_option linter.unusedVariables false
set_option linter.unusedSectionVars false
namespace Go.Proofs.YtnocjgmmglmfiaaGreatDoor
open Go Go.Eng Go.Shelf
set_option maxRecDepth 100000
set_option linter.unusedVariables false
def s_law16_EstimateMatchesReference (P : Program) (t0 t1 t2 : Value) (w : World) (R : Ending → World → Prop) : Prop :=
 Cl P 11 #[] w (Pk R) fun t32 w =>
 Un P .not t32 w fun t33 w =>
 If t33
 (R (.returned (.bool false)) w)
 (Cl P 12 #[t0, (.int .i64 20)] w (Pk R) fun t36 w =>
 Ex t36 0 w fun t37 w =>
 Ex t36 1 w fun t38 w =>
 Cl P 12 #[t0, (.int .i64 4)] w (Pk R) fun t41 w =>
 Ex t41 0 w fun t42 w =>
 Ex t41 1 w fun t43 w =>
 Cl P 13 #[t1] w (Pk R) fun t46 w =>
 Bs P 28 4 [(0, t37), (1, t46), (2, t42), (3, t37)] w fun t49 w =>
 Cl P 13 #[t2] w (Pk R) fun t52 w =>
 Cl P 13 #[t2] w (Pk R) fun t55 w =>
 Bs P 28 4 [(0, t38), (1, t52), (2, t43), (3, t55)] w fun t56 w =>
 Lp1 (.int .i64 0) w (fun t13 w k1 =>
 Bt P .len #[28] 3 #[t49] w fun t59 w =>
 Bn P .lss 3 false t13 t59 w fun t60 w =>
 If t60
 (Jn3 (fun k2 =>
 Dv P true (Instr.indexAt 28 t49 t13) w.drew fun t66 =>
 Dv P false (Instr.loadAt 23 t66) w.drew fun t67 =>
 Dv P true (Instr.indexAt 28 t56 t13) w.drew fun t70 =>
 Dv P false (Instr.loadAt 23 t70) w.drew fun t71 =>
 (Cl P 14 #[t67, t71] w.drew (Pk R) fun t72 w =>
 ExP t72 0 fun t73 =>
 ExP t72 1 fun t74 =>
 ExP t72 2 fun t75 =>
 (Al P 30 w fun t14 w =>
 Ke P (Instr.loadAt 23 t66) t67 w <|
 Ke P (Instr.loadAt 23 t70) t71 w <|
 Al P 30 w fun t15 w =>
 Ke P (Instr.loadAt 23 t66) t67 w <|
 Ke P (Instr.loadAt 23 t70) t71 w <|
 Sto P 30 t14 t73 w fun w =>
 Sto P 30 t15 t74 w fun w =>
 k2 t14 t15 t75 w) ∧
 (Al P 30 w fun t15x1 w =>
 Ke P (Instr.loadAt 23 t66) t67 w <|
 Ke P (Instr.loadAt 23 t70) t71 w <|
 Al P 30 w fun t14x1 w =>
 Ke P (Instr.loadAt 23 t66) t67 w <|
 Ke P (Instr.loadAt 23 t70) t71 w <|
 Sto P 30 t14x1 t73 w fun w =>
 Sto P 30 t15x1 t74 w fun w =>
 k2 t14x1 t15x1 t75 w)) ∧
 ((Al P 30 w.drew fun t14x2 w =>
 Ke P (Instr.loadAt 23 t66) t67 w <|
 Ke P (Instr.loadAt 23 t70) t71 w <|
 (Cl P 14 #[t67, t71] w (Pk R) fun t72x1 w =>
 ExP t72x1 0 fun t73x1 =>
 ExP t72x1 1 fun t74x1 =>
 ExP t72x1 2 fun t75x1 =>
 Al P 30 w fun t15x2 w =>
 Ke P (Instr.loadAt 23 t66) t67 w <|
 Ke P (Instr.loadAt 23 t70) t71 w <|
 Sto P 30 t14x2 t73x1 w fun w =>
 Sto P 30 t15x2 t74x1 w fun w =>
 k2 t14x2 t15x2 t75x1 w) ∧
 (Al P 30 w fun t15x3 w =>
 Ke P (Instr.loadAt 23 t66) t67 w <|
 Ke P (Instr.loadAt 23 t70) t71 w <|
 Cl P 14 #[t67, t71] w (Pk R) fun t72x2 w =>
 ExP t72x2 0 fun t73x2 =>
 ExP t72x2 1 fun t74x2 =>
 ExP t72x2 2 fun t75x2 =>
 Sto P 30 t14x2 t73x2 w fun w =>
 Sto P 30 t15x3 t74x2 w fun w =>
 k2 t14x2 t15x3 t75x2 w)) ∧
 (Al P 30 w.drew fun t15x4 w =>
 Ke P (Instr.loadAt 23 t66) t67 w <|
 Ke P (Instr.loadAt 23 t70) t71 w <|
 (Cl P 14 #[t67, t71] w (Pk R) fun t72x3 w =>
 ExP t72x3 0 fun t73x3 =>
 ExP t72x3 1 fun t74x3 =>
 ExP t72x3 2 fun t75x3 =>
 Al P 30 w fun t14x3 w =>
 Ke P (Instr.loadAt 23 t66) t67 w <|
 Ke P (Instr.loadAt 23 t70) t71 w <|
 Sto P 30 t14x3 t73x3 w fun w =>
 Sto P 30 t15x4 t74x3 w fun w =>
 k2 t14x3 t15x4 t75x3 w) ∧
 (Al P 30 w fun t14x4 w =>
 Ke P (Instr.loadAt 23 t66) t67 w <|
 Ke P (Instr.loadAt 23 t70) t71 w <|
 Cl P 14 #[t67, t71] w (Pk R) fun t72x4 w =>
 ExP t72x4 0 fun t73x4 =>
 ExP t72x4 1 fun t74x4 =>
 ExP t72x4 2 fun t75x4 =>
 Sto P 30 t14x4 t73x4 w fun w =>
 Sto P 30 t15x4 t74x4 w fun w =>
 k2 t14x4 t15x4 t75x4 w))))
 (fun t14x5 t15x5 t16 w =>
 Jn3 (fun k3 =>
 Dv P true (Instr.indexAt 28 t49 t13) w.drew fun t79 =>
 Dv P false (Instr.loadAt 23 t79) w.drew fun t80 =>
 Dv P true (Instr.indexAt 28 t56 t13) w.drew fun t83 =>
 Dv P false (Instr.loadAt 23 t83) w.drew fun t84 =>
 (Cl P 15 #[t80, t84] w.drew (Pk R) fun t85 w =>
 ExP t85 0 fun t86 =>
 ExP t85 1 fun t87 =>
 ExP t85 2 fun t88 =>
 (Al P 30 w fun t17 w =>
 Ke P (Instr.loadAt 23 t79) t80 w <|
 Ke P (Instr.loadAt 23 t83) t84 w <|
 Al P 30 w fun t18 w =>
 Ke P (Instr.loadAt 23 t79) t80 w <|
 Ke P (Instr.loadAt 23 t83) t84 w <|
 Sto P 30 t17 t86 w fun w =>
 Sto P 30 t18 t87 w fun w =>
 k3 t17 t18 t88 w) ∧
 (Al P 30 w fun t18x1 w =>
 Ke P (Instr.loadAt 23 t79) t80 w <|
 Ke P (Instr.loadAt 23 t83) t84 w <|
 Al P 30 w fun t17x1 w =>
 Ke P (Instr.loadAt 23 t79) t80 w <|
 Ke P (Instr.loadAt 23 t83) t84 w <|
 Sto P 30 t17x1 t86 w fun w =>
 Sto P 30 t18x1 t87 w fun w =>
 k3 t17x1 t18x1 t88 w)) ∧
 ((Al P 30 w.drew fun t17x2 w =>
 Ke P (Instr.loadAt 23 t79) t80 w <|
 Ke P (Instr.loadAt 23 t83) t84 w <|
 (Cl P 15 #[t80, t84] w (Pk R) fun t85x1 w =>
 ExP t85x1 0 fun t86x1 =>
 ExP t85x1 1 fun t87x1 =>
 ExP t85x1 2 fun t88x1 =>
 Al P 30 w fun t18x2 w =>
 Ke P (Instr.loadAt 23 t79) t80 w <|
 Ke P (Instr.loadAt 23 t83) t84 w <|
 Sto P 30 t17x2 t86x1 w fun w =>
 Sto P 30 t18x2 t87x1 w fun w =>
 k3 t17x2 t18x2 t88x1 w) ∧
 (Al P 30 w fun t18x3 w =>
 Ke P (Instr.loadAt 23 t79) t80 w <|
 Ke P (Instr.loadAt 23 t83) t84 w <|
 Cl P 15 #[t80, t84] w (Pk R) fun t85x2 w =>
 ExP t85x2 0 fun t86x2 =>
 ExP t85x2 1 fun t87x2 =>
 ExP t85x2 2 fun t88x2 =>
 Sto P 30 t17x2 t86x2 w fun w =>
 Sto P 30 t18x3 t87x2 w fun w =>
 k3 t17x2 t18x3 t88x2 w)) ∧
 (Al P 30 w.drew fun t18x4 w =>
 Ke P (Instr.loadAt 23 t79) t80 w <|
 Ke P (Instr.loadAt 23 t83) t84 w <|
 (Cl P 15 #[t80, t84] w (Pk R) fun t85x3 w =>
 ExP t85x3 0 fun t86x3 =>
 ExP t85x3 1 fun t87x3 =>
 ExP t85x3 2 fun t88x3 =>
 Al P 30 w fun t17x3 w =>
 Ke P (Instr.loadAt 23 t79) t80 w <|
 Ke P (Instr.loadAt 23 t83) t84 w <|
 Sto P 30 t17x3 t86x3 w fun w =>
 Sto P 30 t18x4 t87x3 w fun w =>
 k3 t17x3 t18x4 t88x3 w) ∧
 (Al P 30 w fun t17x4 w =>
 Ke P (Instr.loadAt 23 t79) t80 w <|
 Ke P (Instr.loadAt 23 t83) t84 w <|
 Cl P 15 #[t80, t84] w (Pk R) fun t85x4 w =>
 ExP t85x4 0 fun t86x4 =>
 ExP t85x4 1 fun t87x4 =>
 ExP t85x4 2 fun t88x4 =>
 Sto P 30 t17x4 t86x4 w fun w =>
 Sto P 30 t18x4 t87x4 w fun w =>
 k3 t17x4 t18x4 t88x4 w))))
 (fun t17x5 t18x5 t19 w =>
 Jn2 (fun k4 =>
 Dv P true (Instr.indexAt 28 t49 t13) w.drew fun t92 =>
 Dv P false (Instr.loadAt 23 t92) w.drew fun t93 =>
 Dv P true (Instr.indexAt 28 t56 t13) w.drew fun t96 =>
 Dv P false (Instr.loadAt 23 t96) w.drew fun t97 =>
 (Cl P 16 #[t93, t97] w.drew (Pk R) fun t98 w =>
 ExP t98 0 fun t99 =>
 ExP t98 1 fun t100 =>
 Al P 30 w fun t20 w =>
 Ke P (Instr.loadAt 23 t92) t93 w <|
 Ke P (Instr.loadAt 23 t96) t97 w <|
 Sto P 30 t20 t99 w fun w =>
 k4 t20 t100 w) ∧
 (Al P 30 w.drew fun t20x1 w =>
 Ke P (Instr.loadAt 23 t92) t93 w <|
 Ke P (Instr.loadAt 23 t96) t97 w <|
 Cl P 16 #[t93, t97] w (Pk R) fun t98x1 w =>
 ExP t98x1 0 fun t99x1 =>
 ExP t98x1 1 fun t100x1 =>
 Sto P 30 t20x1 t99x1 w fun w =>
 k4 t20x1 t100x1 w))
 (fun t20x2 t21 w =>
 Jn2 (fun k5 =>
 Dv P true (Instr.indexAt 28 t49 t13) w.drew fun t104 =>
 Dv P false (Instr.loadAt 23 t104) w.drew fun t105 =>
 Dv P true (Instr.indexAt 28 t56 t13) w.drew fun t108 =>
 Dv P false (Instr.loadAt 23 t108) w.drew fun t109 =>
 (Cl P 17 #[t105, t109] w.drew (Pk R) fun t110 w =>
 ExP t110 0 fun t111 =>
 ExP t110 1 fun t112 =>
 Al P 30 w fun t22 w =>
 Ke P (Instr.loadAt 23 t104) t105 w <|
 Ke P (Instr.loadAt 23 t108) t109 w <|
 Sto P 30 t22 t111 w fun w =>
 k5 t22 t112 w) ∧
 (Al P 30 w.drew fun t22x1 w =>
 Ke P (Instr.loadAt 23 t104) t105 w <|
 Ke P (Instr.loadAt 23 t108) t109 w <|
 Cl P 17 #[t105, t109] w (Pk R) fun t110x1 w =>
 ExP t110x1 0 fun t111x1 =>
 ExP t110x1 1 fun t112x1 =>
 Sto P 30 t22x1 t111x1 w fun w =>
 k5 t22x1 t112x1 w))
 (fun t22x2 t23 w =>
 Bn P .neq 31 false t16 t19 w fun t115 w =>
 Gd t115 false (fun k => Ld P 30 t14x5 w k) w fun t117 w =>
 Gd t115 false (fun k => Ld P 30 t17x5 w k) w fun t118 w =>
 Gd t115 false (fun k => Bn P .neq 30 false t117 t118 w k) w fun t119 w =>
 Pick t115 (.bool true) t119 w fun t120 w =>
 Gd t120 false (fun k => Ld P 30 t15x5 w k) w fun t122 w =>
 Gd t120 false (fun k => Ld P 30 t18x5 w k) w fun t123 w =>
 Gd t120 false (fun k => Bn P .neq 30 false t122 t123 w k) w fun t124 w =>
 Pick t120 (.bool true) t124 w fun t125 w =>
 Gd t125 false (fun k => k t21 w) w fun t127 w =>
 Gd t125 false (fun k => k t23 w) w fun t128 w =>
 Gd t125 false (fun k => Bn P .neq 31 false t127 t128 w k) w fun t129 w =>
 Pick t125 (.bool true) t129 w fun t130 w =>
 Gd t130 false (fun k => Ld P 30 t20x2 w k) w fun t132 w =>
 Gd t130 false (fun k => Ld P 30 t22x2 w k) w fun t133 w =>
 Gd t130 false (fun k => Bn P .neq 30 false t132 t133 w k) w fun t134 w =>
 Pick t130 (.bool true) t134 w fun t135 w =>
 If t135
 (R (.returned (.bool false)) w)
 (Ia P 28 t49 t13 w fun t138 w =>
 Ld P 23 t138 w fun t139 w =>
 Bt P .len #[23] 3 #[t139] w fun t140 w =>
 Bn P .gtr 3 true t140 (.int .i64 5) w fun t141 w =>
 Gd t141 true (fun k => k t49 w) w fun t143 w =>
 Gd t141 true (fun k => k t13 w) w fun t144 w =>
 Gd t141 true (fun k => Ia P 28 t143 t144 w k) w fun t145 w =>
 Gd t141 true (fun k => Ld P 23 t145 w k) w fun t146 w =>
 Gd t141 true (fun k => Bt P .len #[23] 3 #[t146] w k) w fun t147 w =>
 Gd t141 true (fun k => Bn P .leq 3 true t147 (.int .i64 10) w k) w fun t148 w =>
 Pick t141 t148 (.bool false) w fun t149 w =>
 If t149
 (Bn P .add 3 true t13 (.int .i64 1) w fun t62 w =>
 k1 t62 w)
 (Jn4 (fun k6 =>
 Dv P true (Instr.indexAt 28 t49 t13) w.drew fun t153 =>
 Dv P false (Instr.loadAt 23 t153) w.drew fun t154 =>
 Dv P true (Instr.indexAt 28 t56 t13) w.drew fun t157 =>
 Dv P false (Instr.loadAt 23 t157) w.drew fun t158 =>
 (Cl P 18 #[t154, t158] w.drew (Pk R) fun t159 w =>
 ExP t159 0 fun t160 =>
 ExP t159 1 fun t161 =>
 ExP t159 2 fun t162 =>
 ExP t159 3 fun t163 =>
 (Al P 30 w fun t24 w =>
 Ke P (Instr.loadAt 23 t153) t154 w <|
 Ke P (Instr.loadAt 23 t157) t158 w <|
 (Al P 30 w fun t25 w =>
 Ke P (Instr.loadAt 23 t153) t154 w <|
 Ke P (Instr.loadAt 23 t157) t158 w <|
 Al P 30 w fun t26 w =>
 Ke P (Instr.loadAt 23 t153) t154 w <|
 Ke P (Instr.loadAt 23 t157) t158 w <|
 Sto P 30 t24 t160 w fun w =>
 Sto P 30 t25 t161 w fun w =>
 Sto P 30 t26 t162 w fun w =>
 k6 t24 t25 t26 t163 w) ∧
 (Al P 30 w fun t26x1 w =>
 Ke P (Instr.loadAt 23 t153) t154 w <|
 Ke P (Instr.loadAt 23 t157) t158 w <|
 Al P 30 w fun t25x1 w =>
 Ke P (Instr.loadAt 23 t153) t154 w <|
 Ke P (Instr.loadAt 23 t157) t158 w <|
 Sto P 30 t24 t160 w fun w =>
 Sto P 30 t25x1 t161 w fun w =>
 Sto P 30 t26x1 t162 w fun w =>
 k6 t24 t25x1 t26x1 t163 w)) ∧
 ((Al P 30 w fun t25x2 w =>
 Ke P (Instr.loadAt 23 t153) t154 w <|
 Ke P (Instr.loadAt 23 t157) t158 w <|
 (Al P 30 w fun t24x1 w =>
 Ke P (Instr.loadAt 23 t153) t154 w <|
 Ke P (Instr.loadAt 23 t157) t158 w <|
 Al P 30 w fun t26x2 w =>
 Ke P (Instr.loadAt 23 t153) t154 w <|
 Ke P (Instr.loadAt 23 t157) t158 w <|
 Sto P 30 t24x1 t160 w fun w =>
 Sto P 30 t25x2 t161 w fun w =>
 Sto P 30 t26x2 t162 w fun w =>
 k6 t24x1 t25x2 t26x2 t163 w) ∧
 (Al P 30 w fun t26x3 w =>
 Ke P (Instr.loadAt 23 t153) t154 w <|
 Ke P (Instr.loadAt 23 t157) t158 w <|
 Al P 30 w fun t24x2 w =>
 Ke P (Instr.loadAt 23 t153) t154 w <|
 Ke P (Instr.loadAt 23 t157) t158 w <|
 Sto P 30 t24x2 t160 w fun w =>
 Sto P 30 t25x2 t161 w fun w =>
 Sto P 30 t26x3 t162 w fun w =>
 k6 t24x2 t25x2 t26x3 t163 w)) ∧
 (Al P 30 w fun t26x4 w =>
 Ke P (Instr.loadAt 23 t153) t154 w <|
 Ke P (Instr.loadAt 23 t157) t158 w <|
 (Al P 30 w fun t24x3 w =>
 Ke P (Instr.loadAt 23 t153) t154 w <|
 Ke P (Instr.loadAt 23 t157) t158 w <|
 Al P 30 w fun t25x3 w =>
 Ke P (Instr.loadAt 23 t153) t154 w <|
 Ke P (Instr.loadAt 23 t157) t158 w <|
 Sto P 30 t24x3 t160 w fun w =>
 Sto P 30 t25x3 t161 w fun w =>
 Sto P 30 t26x4 t162 w fun w =>
 k6 t24x3 t25x3 t26x4 t163 w) ∧
 (Al P 30 w fun t25x4 w =>
 Ke P (Instr.loadAt 23 t153) t154 w <|
 Ke P (Instr.loadAt 23 t157) t158 w <|
 Al P 30 w fun t24x4 w =>
 Ke P (Instr.loadAt 23 t153) t154 w <|
 Ke P (Instr.loadAt 23 t157) t158 w <|
 Sto P 30 t24x4 t160 w fun w =>
 Sto P 30 t25x4 t161 w fun w =>
 Sto P 30 t26x4 t162 w fun w =>
 k6 t24x4 t25x4 t26x4 t163 w)))) ∧
 ((Al P 30 w.drew fun t24x5 w =>
 Ke P (Instr.loadAt 23 t153) t154 w <|
 Ke P (Instr.loadAt 23 t157) t158 w <|
 (Cl P 18 #[t154, t158] w (Pk R) fun t159x1 w =>
 ExP t159x1 0 fun t160x1 =>
 ExP t159x1 1 fun t161x1 =>
 ExP t159x1 2 fun t162x1 =>
 ExP t159x1 3 fun t163x1 =>
 (Al P 30 w fun t25x5 w =>
 Ke P (Instr.loadAt 23 t153) t154 w <|
 Ke P (Instr.loadAt 23 t157) t158 w <|
 Al P 30 w fun t26x5 w =>
 Ke P (Instr.loadAt 23 t153) t154 w <|
 Ke P (Instr.loadAt 23 t157) t158 w <|
 Sto P 30 t24x5 t160x1 w fun w =>
 Sto P 30 t25x5 t161x1 w fun w =>
 Sto P 30 t26x5 t162x1 w fun w =>
 k6 t24x5 t25x5 t26x5 t163x1 w) ∧
 (Al P 30 w fun t26x6 w =>
 Ke P (Instr.loadAt 23 t153) t154 w <|
 Ke P (Instr.loadAt 23 t157) t158 w <|
 Al P 30 w fun t25x6 w =>
 Ke P (Instr.loadAt 23 t153) t154 w <|
 Ke P (Instr.loadAt 23 t157) t158 w <|
 Sto P 30 t24x5 t160x1 w fun w =>
 Sto P 30 t25x6 t161x1 w fun w =>
 Sto P 30 t26x6 t162x1 w fun w =>
 k6 t24x5 t25x6 t26x6 t163x1 w)) ∧
 ((Al P 30 w fun t25x7 w =>
 Ke P (Instr.loadAt 23 t153) t154 w <|
 Ke P (Instr.loadAt 23 t157) t158 w <|
 (Cl P 18 #[t154, t158] w (Pk R) fun t159x2 w =>
 ExP t159x2 0 fun t160x2 =>
 ExP t159x2 1 fun t161x2 =>
 ExP t159x2 2 fun t162x2 =>
 ExP t159x2 3 fun t163x2 =>
 Al P 30 w fun t26x7 w =>
 Ke P (Instr.loadAt 23 t153) t154 w <|
 Ke P (Instr.loadAt 23 t157) t158 w <|
 Sto P 30 t24x5 t160x2 w fun w =>
 Sto P 30 t25x7 t161x2 w fun w =>
 Sto P 30 t26x7 t162x2 w fun w =>
 k6 t24x5 t25x7 t26x7 t163x2 w) ∧
 (Al P 30 w fun t26x8 w =>
 Ke P (Instr.loadAt 23 t153) t154 w <|
 Ke P (Instr.loadAt 23 t157) t158 w <|
 Cl P 18 #[t154, t158] w (Pk R) fun t159x3 w =>
 ExP t159x3 0 fun t160x3 =>
 ExP t159x3 1 fun t161x3 =>
 ExP t159x3 2 fun t162x3 =>
 ExP t159x3 3 fun t163x3 =>
 Sto P 30 t24x5 t160x3 w fun w =>
 Sto P 30 t25x7 t161x3 w fun w =>
 Sto P 30 t26x8 t162x3 w fun w =>
 k6 t24x5 t25x7 t26x8 t163x3 w)) ∧
 (Al P 30 w fun t26x9 w =>
 Ke P (Instr.loadAt 23 t153) t154 w <|
 Ke P (Instr.loadAt 23 t157) t158 w <|
 (Cl P 18 #[t154, t158] w (Pk R) fun t159x4 w =>
 ExP t159x4 0 fun t160x4 =>
 ExP t159x4 1 fun t161x4 =>
 ExP t159x4 2 fun t162x4 =>
 ExP t159x4 3 fun t163x4 =>
 Al P 30 w fun t25x8 w =>
 Ke P (Instr.loadAt 23 t153) t154 w <|
 Ke P (Instr.loadAt 23 t157) t158 w <|
 Sto P 30 t24x5 t160x4 w fun w =>
 Sto P 30 t25x8 t161x4 w fun w =>
 Sto P 30 t26x9 t162x4 w fun w =>
 k6 t24x5 t25x8 t26x9 t163x4 w) ∧
 (Al P 30 w fun t25x9 w =>
 Ke P (Instr.loadAt 23 t153) t154 w <|
 Ke P (Instr.loadAt 23 t157) t158 w <|
 Cl P 18 #[t154, t158] w (Pk R) fun t159x5 w =>
 ExP t159x5 0 fun t160x5 =>
 ExP t159x5 1 fun t161x5 =>
 ExP t159x5 2 fun t162x5 =>
 ExP t159x5 3 fun t163x5 =>
 Sto P 30 t24x5 t160x5 w fun w =>
 Sto P 30 t25x9 t161x5 w fun w =>
 Sto P 30 t26x9 t162x5 w fun w =>
 k6 t24x5 t25x9 t26x9 t163x5 w)))) ∧
 ((Al P 30 w.drew fun t25x10 w =>
 Ke P (Instr.loadAt 23 t153) t154 w <|
 Ke P (Instr.loadAt 23 t157) t158 w <|
 (Cl P 18 #[t154, t158] w (Pk R) fun t159x6 w =>
 ExP t159x6 0 fun t160x6 =>
 ExP t159x6 1 fun t161x6 =>
 ExP t159x6 2 fun t162x6 =>
 ExP t159x6 3 fun t163x6 =>
 (Al P 30 w fun t24x6 w =>
 Ke P (Instr.loadAt 23 t153) t154 w <|
 Ke P (Instr.loadAt 23 t157) t158 w <|
 Al P 30 w fun t26x10 w =>
 Ke P (Instr.loadAt 23 t153) t154 w <|
 Ke P (Instr.loadAt 23 t157) t158 w <|
 Sto P 30 t24x6 t160x6 w fun w =>
 Sto P 30 t25x10 t161x6 w fun w =>
 Sto P 30 t26x10 t162x6 w fun w =>
 k6 t24x6 t25x10 t26x10 t163x6 w) ∧
 (Al P 30 w fun t26x11 w =>
 Ke P (Instr.loadAt 23 t153) t154 w <|
 Ke P (Instr.loadAt 23 t157) t158 w <|
 Al P 30 w fun t24x7 w =>
 Ke P (Instr.loadAt 23 t153) t154 w <|
 Ke P (Instr.loadAt 23 t157) t158 w <|
 Sto P 30 t24x7 t160x6 w fun w =>
 Sto P 30 t25x10 t161x6 w fun w =>
 Sto P 30 t26x11 t162x6 w fun w =>
 k6 t24x7 t25x10 t26x11 t163x6 w)) ∧
 ((Al P 30 w fun t24x8 w =>
 Ke P (Instr.loadAt 23 t153) t154 w <|
 Ke P (Instr.loadAt 23 t157) t158 w <|
 (Cl P 18 #[t154, t158] w (Pk R) fun t159x7 w =>
 ExP t159x7 0 fun t160x7 =>
 ExP t159x7 1 fun t161x7 =>
 ExP t159x7 2 fun t162x7 =>
 ExP t159x7 3 fun t163x7 =>
 Al P 30 w fun t26x12 w =>
 Ke P (Instr.loadAt 23 t153) t154 w <|
 Ke P (Instr.loadAt 23 t157) t158 w <|
 Sto P 30 t24x8 t160x7 w fun w =>
 Sto P 30 t25x10 t161x7 w fun w =>
 Sto P 30 t26x12 t162x7 w fun w =>
 k6 t24x8 t25x10 t26x12 t163x7 w) ∧
 (Al P 30 w fun t26x13 w =>
 Ke P (Instr.loadAt 23 t153) t154 w <|
 Ke P (Instr.loadAt 23 t157) t158 w <|
 Cl P 18 #[t154, t158] w (Pk R) fun t159x8 w =>
 ExP t159x8 0 fun t160x8 =>
 ExP t159x8 1 fun t161x8 =>
 ExP t159x8 2 fun t162x8 =>
 ExP t159x8 3 fun t163x8 =>
 Sto P 30 t24x8 t160x8 w fun w =>
 Sto P 30 t25x10 t161x8 w fun w =>
 Sto P 30 t26x13 t162x8 w fun w =>
 k6 t24x8 t25x10 t26x13 t163x8 w)) ∧
 (Al P 30 w fun t26x14 w =>
 Ke P (Instr.loadAt 23 t153) t154 w <|
 Ke P (Instr.loadAt 23 t157) t158 w <|
 (Cl P 18 #[t154, t158] w (Pk R) fun t159x9 w =>
 ExP t159x9 0 fun t160x9 =>
 ExP t159x9 1 fun t161x9 =>
 ExP t159x9 2 fun t162x9 =>
 ExP t159x9 3 fun t163x9 =>
 Al P 30 w fun t24x9 w =>
 Ke P (Instr.loadAt 23 t153) t154 w <|
 Ke P (Instr.loadAt 23 t157) t158 w <|
 Sto P 30 t24x9 t160x9 w fun w =>
 Sto P 30 t25x10 t161x9 w fun w =>
 Sto P 30 t26x14 t162x9 w fun w =>
 k6 t24x9 t25x10 t26x14 t163x9 w) ∧
 (Al P 30 w fun t24x10 w =>
 Ke P (Instr.loadAt 23 t153) t154 w <|
 Ke P (Instr.loadAt 23 t157) t158 w <|
 Cl P 18 #[t154, t158] w (Pk R) fun t159x10 w =>
 ExP t159x10 0 fun t160x10 =>
 ExP t159x10 1 fun t161x10 =>
 ExP t159x10 2 fun t162x10 =>
 ExP t159x10 3 fun t163x10 =>
 Sto P 30 t24x10 t160x10 w fun w =>
 Sto P 30 t25x10 t161x10 w fun w =>
 Sto P 30 t26x14 t162x10 w fun w =>
 k6 t24x10 t25x10 t26x14 t163x10 w)))) ∧
 (Al P 30 w.drew fun t26x15 w =>
 Ke P (Instr.loadAt 23 t153) t154 w <|
 Ke P (Instr.loadAt 23 t157) t158 w <|
 (Cl P 18 #[t154, t158] w (Pk R) fun t159x11 w =>
 ExP t159x11 0 fun t160x11 =>
 ExP t159x11 1 fun t161x11 =>
 ExP t159x11 2 fun t162x11 =>
 ExP t159x11 3 fun t163x11 =>
 (Al P 30 w fun t24x11 w =>
 Ke P (Instr.loadAt 23 t153) t154 w <|
 Ke P (Instr.loadAt 23 t157) t158 w <|
 Al P 30 w fun t25x11 w =>
 Ke P (Instr.loadAt 23 t153) t154 w <|
 Ke P (Instr.loadAt 23 t157) t158 w <|
 Sto P 30 t24x11 t160x11 w fun w =>
 Sto P 30 t25x11 t161x11 w fun w =>
 Sto P 30 t26x15 t162x11 w fun w =>
 k6 t24x11 t25x11 t26x15 t163x11 w) ∧
 (Al P 30 w fun t25x12 w =>
 Ke P (Instr.loadAt 23 t153) t154 w <|
 Ke P (Instr.loadAt 23 t157) t158 w <|
 Al P 30 w fun t24x12 w =>
 Ke P (Instr.loadAt 23 t153) t154 w <|
 Ke P (Instr.loadAt 23 t157) t158 w <|
 Sto P 30 t24x12 t160x11 w fun w =>
 Sto P 30 t25x12 t161x11 w fun w =>
 Sto P 30 t26x15 t162x11 w fun w =>
 k6 t24x12 t25x12 t26x15 t163x11 w)) ∧
 ((Al P 30 w fun t24x13 w =>
 Ke P (Instr.loadAt 23 t153) t154 w <|
 Ke P (Instr.loadAt 23 t157) t158 w <|
 (Cl P 18 #[t154, t158] w (Pk R) fun t159x12 w =>
 ExP t159x12 0 fun t160x12 =>
 ExP t159x12 1 fun t161x12 =>
 ExP t159x12 2 fun t162x12 =>
 ExP t159x12 3 fun t163x12 =>
 Al P 30 w fun t25x13 w =>
 Ke P (Instr.loadAt 23 t153) t154 w <|
 Ke P (Instr.loadAt 23 t157) t158 w <|
 Sto P 30 t24x13 t160x12 w fun w =>
 Sto P 30 t25x13 t161x12 w fun w =>
 Sto P 30 t26x15 t162x12 w fun w =>
 k6 t24x13 t25x13 t26x15 t163x12 w) ∧
 (Al P 30 w fun t25x14 w =>
 Ke P (Instr.loadAt 23 t153) t154 w <|
 Ke P (Instr.loadAt 23 t157) t158 w <|
 Cl P 18 #[t154, t158] w (Pk R) fun t159x13 w =>
 ExP t159x13 0 fun t160x13 =>
 ExP t159x13 1 fun t161x13 =>
 ExP t159x13 2 fun t162x13 =>
 ExP t159x13 3 fun t163x13 =>
 Sto P 30 t24x13 t160x13 w fun w =>
 Sto P 30 t25x14 t161x13 w fun w =>
 Sto P 30 t26x15 t162x13 w fun w =>
 k6 t24x13 t25x14 t26x15 t163x13 w)) ∧
 (Al P 30 w fun t25x15 w =>
 Ke P (Instr.loadAt 23 t153) t154 w <|
 Ke P (Instr.loadAt 23 t157) t158 w <|
 (Cl P 18 #[t154, t158] w (Pk R) fun t159x14 w =>
 ExP t159x14 0 fun t160x14 =>
 ExP t159x14 1 fun t161x14 =>
 ExP t159x14 2 fun t162x14 =>
 ExP t159x14 3 fun t163x14 =>
 Al P 30 w fun t24x14 w =>
 Ke P (Instr.loadAt 23 t153) t154 w <|
 Ke P (Instr.loadAt 23 t157) t158 w <|
 Sto P 30 t24x14 t160x14 w fun w =>
 Sto P 30 t25x15 t161x14 w fun w =>
 Sto P 30 t26x15 t162x14 w fun w =>
 k6 t24x14 t25x15 t26x15 t163x14 w) ∧
 (Al P 30 w fun t24x15 w =>
 Ke P (Instr.loadAt 23 t153) t154 w <|
 Ke P (Instr.loadAt 23 t157) t158 w <|
 Cl P 18 #[t154, t158] w (Pk R) fun t159x15 w =>
 ExP t159x15 0 fun t160x15 =>
 ExP t159x15 1 fun t161x15 =>
 ExP t159x15 2 fun t162x15 =>
 ExP t159x15 3 fun t163x15 =>
 Sto P 30 t24x15 t160x15 w fun w =>
 Sto P 30 t25x15 t161x15 w fun w =>
 Sto P 30 t26x15 t162x15 w fun w =>
 k6 t24x15 t25x15 t26x15 t163x15 w)))))))
 (fun t24x16 t25x16 t26x16 t27 w =>
 Jn4 (fun k7 =>
 Dv P true (Instr.indexAt 28 t49 t13) w.drew fun t167 =>
 Dv P false (Instr.loadAt 23 t167) w.drew fun t168 =>
 Dv P true (Instr.indexAt 28 t56 t13) w.drew fun t171 =>
 Dv P false (Instr.loadAt 23 t171) w.drew fun t172 =>
 (Cl P 19 #[t168, t172] w.drew (Pk R) fun t173 w =>
 ExP t173 0 fun t174 =>
 ExP t173 1 fun t175 =>
 ExP t173 2 fun t176 =>
 ExP t173 3 fun t177 =>
 (Al P 30 w fun t28 w =>
 Ke P (Instr.loadAt 23 t167) t168 w <|
 Ke P (Instr.loadAt 23 t171) t172 w <|
 (Al P 30 w fun t29 w =>
 Ke P (Instr.loadAt 23 t167) t168 w <|
 Ke P (Instr.loadAt 23 t171) t172 w <|
 Al P 30 w fun t30 w =>
 Ke P (Instr.loadAt 23 t167) t168 w <|
 Ke P (Instr.loadAt 23 t171) t172 w <|
 Sto P 30 t28 t174 w fun w =>
 Sto P 30 t29 t175 w fun w =>
 Sto P 30 t30 t176 w fun w =>
 k7 t28 t29 t30 t177 w) ∧
 (Al P 30 w fun t30x1 w =>
 Ke P (Instr.loadAt 23 t167) t168 w <|
 Ke P (Instr.loadAt 23 t171) t172 w <|
 Al P 30 w fun t29x1 w =>
 Ke P (Instr.loadAt 23 t167) t168 w <|
 Ke P (Instr.loadAt 23 t171) t172 w <|
 Sto P 30 t28 t174 w fun w =>
 Sto P 30 t29x1 t175 w fun w =>
 Sto P 30 t30x1 t176 w fun w =>
 k7 t28 t29x1 t30x1 t177 w)) ∧
 ((Al P 30 w fun t29x2 w =>
 Ke P (Instr.loadAt 23 t167) t168 w <|
 Ke P (Instr.loadAt 23 t171) t172 w <|
 (Al P 30 w fun t28x1 w =>
 Ke P (Instr.loadAt 23 t167) t168 w <|
 Ke P (Instr.loadAt 23 t171) t172 w <|
 Al P 30 w fun t30x2 w =>
 Ke P (Instr.loadAt 23 t167) t168 w <|
 Ke P (Instr.loadAt 23 t171) t172 w <|
 Sto P 30 t28x1 t174 w fun w =>
 Sto P 30 t29x2 t175 w fun w =>
 Sto P 30 t30x2 t176 w fun w =>
 k7 t28x1 t29x2 t30x2 t177 w) ∧
 (Al P 30 w fun t30x3 w =>
 Ke P (Instr.loadAt 23 t167) t168 w <|
 Ke P (Instr.loadAt 23 t171) t172 w <|
 Al P 30 w fun t28x2 w =>
 Ke P (Instr.loadAt 23 t167) t168 w <|
 Ke P (Instr.loadAt 23 t171) t172 w <|
 Sto P 30 t28x2 t174 w fun w =>
 Sto P 30 t29x2 t175 w fun w =>
 Sto P 30 t30x3 t176 w fun w =>
 k7 t28x2 t29x2 t30x3 t177 w)) ∧
 (Al P 30 w fun t30x4 w =>
 Ke P (Instr.loadAt 23 t167) t168 w <|
 Ke P (Instr.loadAt 23 t171) t172 w <|
 (Al P 30 w fun t28x3 w =>
 Ke P (Instr.loadAt 23 t167) t168 w <|
 Ke P (Instr.loadAt 23 t171) t172 w <|
 Al P 30 w fun t29x3 w =>
 Ke P (Instr.loadAt 23 t167) t168 w <|
 Ke P (Instr.loadAt 23 t171) t172 w <|
 Sto P 30 t28x3 t174 w fun w =>
 Sto P 30 t29x3 t175 w fun w =>
 Sto P 30 t30x4 t176 w fun w =>
 k7 t28x3 t29x3 t30x4 t177 w) ∧
 (Al P 30 w fun t29x4 w =>
 Ke P (Instr.loadAt 23 t167) t168 w <|
 Ke P (Instr.loadAt 23 t171) t172 w <|
 Al P 30 w fun t28x4 w =>
 Ke P (Instr.loadAt 23 t167) t168 w <|
 Ke P (Instr.loadAt 23 t171) t172 w <|
 Sto P 30 t28x4 t174 w fun w =>
 Sto P 30 t29x4 t175 w fun w =>
 Sto P 30 t30x4 t176 w fun w =>
 k7 t28x4 t29x4 t30x4 t177 w)))) ∧
 ((Al P 30 w.drew fun t28x5 w =>
 Ke P (Instr.loadAt 23 t167) t168 w <|
 Ke P (Instr.loadAt 23 t171) t172 w <|
 (Cl P 19 #[t168, t172] w (Pk R) fun t173x1 w =>
 ExP t173x1 0 fun t174x1 =>
 ExP t173x1 1 fun t175x1 =>
 ExP t173x1 2 fun t176x1 =>
 ExP t173x1 3 fun t177x1 =>
 (Al P 30 w fun t29x5 w =>
 Ke P (Instr.loadAt 23 t167) t168 w <|
 Ke P (Instr.loadAt 23 t171) t172 w <|
 Al P 30 w fun t30x5 w =>
 Ke P (Instr.loadAt 23 t167) t168 w <|
 Ke P (Instr.loadAt 23 t171) t172 w <|
 Sto P 30 t28x5 t174x1 w fun w =>
 Sto P 30 t29x5 t175x1 w fun w =>
 Sto P 30 t30x5 t176x1 w fun w =>
 k7 t28x5 t29x5 t30x5 t177x1 w) ∧
 (Al P 30 w fun t30x6 w =>
 Ke P (Instr.loadAt 23 t167) t168 w <|
 Ke P (Instr.loadAt 23 t171) t172 w <|
 Al P 30 w fun t29x6 w =>
 Ke P (Instr.loadAt 23 t167) t168 w <|
 Ke P (Instr.loadAt 23 t171) t172 w <|
 Sto P 30 t28x5 t174x1 w fun w =>
 Sto P 30 t29x6 t175x1 w fun w =>
 Sto P 30 t30x6 t176x1 w fun w =>
 k7 t28x5 t29x6 t30x6 t177x1 w)) ∧
 ((Al P 30 w fun t29x7 w =>
 Ke P (Instr.loadAt 23 t167) t168 w <|
 Ke P (Instr.loadAt 23 t171) t172 w <|
 (Cl P 19 #[t168, t172] w (Pk R) fun t173x2 w =>
 ExP t173x2 0 fun t174x2 =>
 ExP t173x2 1 fun t175x2 =>
 ExP t173x2 2 fun t176x2 =>
 ExP t173x2 3 fun t177x2 =>
 Al P 30 w fun t30x7 w =>
 Ke P (Instr.loadAt 23 t167) t168 w <|
 Ke P (Instr.loadAt 23 t171) t172 w <|
 Sto P 30 t28x5 t174x2 w fun w =>
 Sto P 30 t29x7 t175x2 w fun w =>
 Sto P 30 t30x7 t176x2 w fun w =>
 k7 t28x5 t29x7 t30x7 t177x2 w) ∧
 (Al P 30 w fun t30x8 w =>
 Ke P (Instr.loadAt 23 t167) t168 w <|
 Ke P (Instr.loadAt 23 t171) t172 w <|
 Cl P 19 #[t168, t172] w (Pk R) fun t173x3 w =>
 ExP t173x3 0 fun t174x3 =>
 ExP t173x3 1 fun t175x3 =>
 ExP t173x3 2 fun t176x3 =>
 ExP t173x3 3 fun t177x3 =>
 Sto P 30 t28x5 t174x3 w fun w =>
 Sto P 30 t29x7 t175x3 w fun w =>
 Sto P 30 t30x8 t176x3 w fun w =>
 k7 t28x5 t29x7 t30x8 t177x3 w)) ∧
 (Al P 30 w fun t30x9 w =>
 Ke P (Instr.loadAt 23 t167) t168 w <|
 Ke P (Instr.loadAt 23 t171) t172 w <|
 (Cl P 19 #[t168, t172] w (Pk R) fun t173x4 w =>
 ExP t173x4 0 fun t174x4 =>
 ExP t173x4 1 fun t175x4 =>
 ExP t173x4 2 fun t176x4 =>
 ExP t173x4 3 fun t177x4 =>
 Al P 30 w fun t29x8 w =>
 Ke P (Instr.loadAt 23 t167) t168 w <|
 Ke P (Instr.loadAt 23 t171) t172 w <|
 Sto P 30 t28x5 t174x4 w fun w =>
 Sto P 30 t29x8 t175x4 w fun w =>
 Sto P 30 t30x9 t176x4 w fun w =>
 k7 t28x5 t29x8 t30x9 t177x4 w) ∧
 (Al P 30 w fun t29x9 w =>
 Ke P (Instr.loadAt 23 t167) t168 w <|
 Ke P (Instr.loadAt 23 t171) t172 w <|
 Cl P 19 #[t168, t172] w (Pk R) fun t173x5 w =>
 ExP t173x5 0 fun t174x5 =>
 ExP t173x5 1 fun t175x5 =>
 ExP t173x5 2 fun t176x5 =>
 ExP t173x5 3 fun t177x5 =>
 Sto P 30 t28x5 t174x5 w fun w =>
 Sto P 30 t29x9 t175x5 w fun w =>
 Sto P 30 t30x9 t176x5 w fun w =>
 k7 t28x5 t29x9 t30x9 t177x5 w)))) ∧
 ((Al P 30 w.drew fun t29x10 w =>
 Ke P (Instr.loadAt 23 t167) t168 w <|
 Ke P (Instr.loadAt 23 t171) t172 w <|
 (Cl P 19 #[t168, t172] w (Pk R) fun t173x6 w =>
 ExP t173x6 0 fun t174x6 =>
 ExP t173x6 1 fun t175x6 =>
 ExP t173x6 2 fun t176x6 =>
 ExP t173x6 3 fun t177x6 =>
 (Al P 30 w fun t28x6 w =>
 Ke P (Instr.loadAt 23 t167) t168 w <|
 Ke P (Instr.loadAt 23 t171) t172 w <|
 Al P 30 w fun t30x10 w =>
 Ke P (Instr.loadAt 23 t167) t168 w <|
 Ke P (Instr.loadAt 23 t171) t172 w <|
 Sto P 30 t28x6 t174x6 w fun w =>
 Sto P 30 t29x10 t175x6 w fun w =>
 Sto P 30 t30x10 t176x6 w fun w =>
 k7 t28x6 t29x10 t30x10 t177x6 w) ∧
 (Al P 30 w fun t30x11 w =>
 Ke P (Instr.loadAt 23 t167) t168 w <|
 Ke P (Instr.loadAt 23 t171) t172 w <|
 Al P 30 w fun t28x7 w =>
 Ke P (Instr.loadAt 23 t167) t168 w <|
 Ke P (Instr.loadAt 23 t171) t172 w <|
 Sto P 30 t28x7 t174x6 w fun w =>
 Sto P 30 t29x10 t175x6 w fun w =>
 Sto P 30 t30x11 t176x6 w fun w =>
 k7 t28x7 t29x10 t30x11 t177x6 w)) ∧
 ((Al P 30 w fun t28x8 w =>
 Ke P (Instr.loadAt 23 t167) t168 w <|
 Ke P (Instr.loadAt 23 t171) t172 w <|
 (Cl P 19 #[t168, t172] w (Pk R) fun t173x7 w =>
 ExP t173x7 0 fun t174x7 =>
 ExP t173x7 1 fun t175x7 =>
 ExP t173x7 2 fun t176x7 =>
 ExP t173x7 3 fun t177x7 =>
 Al P 30 w fun t30x12 w =>
 Ke P (Instr.loadAt 23 t167) t168 w <|
 Ke P (Instr.loadAt 23 t171) t172 w <|
 Sto P 30 t28x8 t174x7 w fun w =>
 Sto P 30 t29x10 t175x7 w fun w =>
 Sto P 30 t30x12 t176x7 w fun w =>
 k7 t28x8 t29x10 t30x12 t177x7 w) ∧
 (Al P 30 w fun t30x13 w =>
 Ke P (Instr.loadAt 23 t167) t168 w <|
 Ke P (Instr.loadAt 23 t171) t172 w <|
 Cl P 19 #[t168, t172] w (Pk R) fun t173x8 w =>
 ExP t173x8 0 fun t174x8 =>
 ExP t173x8 1 fun t175x8 =>
 ExP t173x8 2 fun t176x8 =>
 ExP t173x8 3 fun t177x8 =>
 Sto P 30 t28x8 t174x8 w fun w =>
 Sto P 30 t29x10 t175x8 w fun w =>
 Sto P 30 t30x13 t176x8 w fun w =>
 k7 t28x8 t29x10 t30x13 t177x8 w)) ∧
 (Al P 30 w fun t30x14 w =>
 Ke P (Instr.loadAt 23 t167) t168 w <|
 Ke P (Instr.loadAt 23 t171) t172 w <|
 (Cl P 19 #[t168, t172] w (Pk R) fun t173x9 w =>
 ExP t173x9 0 fun t174x9 =>
 ExP t173x9 1 fun t175x9 =>
 ExP t173x9 2 fun t176x9 =>
 ExP t173x9 3 fun t177x9 =>
 Al P 30 w fun t28x9 w =>
 Ke P (Instr.loadAt 23 t167) t168 w <|
 Ke P (Instr.loadAt 23 t171) t172 w <|
 Sto P 30 t28x9 t174x9 w fun w =>
 Sto P 30 t29x10 t175x9 w fun w =>
 Sto P 30 t30x14 t176x9 w fun w =>
 k7 t28x9 t29x10 t30x14 t177x9 w) ∧
 (Al P 30 w fun t28x10 w =>
 Ke P (Instr.loadAt 23 t167) t168 w <|
 Ke P (Instr.loadAt 23 t171) t172 w <|
 Cl P 19 #[t168, t172] w (Pk R) fun t173x10 w =>
 ExP t173x10 0 fun t174x10 =>
 ExP t173x10 1 fun t175x10 =>
 ExP t173x10 2 fun t176x10 =>
 ExP t173x10 3 fun t177x10 =>
 Sto P 30 t28x10 t174x10 w fun w =>
 Sto P 30 t29x10 t175x10 w fun w =>
 Sto P 30 t30x14 t176x10 w fun w =>
 k7 t28x10 t29x10 t30x14 t177x10 w)))) ∧
 (Al P 30 w.drew fun t30x15 w =>
 Ke P (Instr.loadAt 23 t167) t168 w <|
 Ke P (Instr.loadAt 23 t171) t172 w <|
 (Cl P 19 #[t168, t172] w (Pk R) fun t173x11 w =>
 ExP t173x11 0 fun t174x11 =>
 ExP t173x11 1 fun t175x11 =>
 ExP t173x11 2 fun t176x11 =>
 ExP t173x11 3 fun t177x11 =>
 (Al P 30 w fun t28x11 w =>
 Ke P (Instr.loadAt 23 t167) t168 w <|
 Ke P (Instr.loadAt 23 t171) t172 w <|
 Al P 30 w fun t29x11 w =>
 Ke P (Instr.loadAt 23 t167) t168 w <|
 Ke P (Instr.loadAt 23 t171) t172 w <|
 Sto P 30 t28x11 t174x11 w fun w =>
 Sto P 30 t29x11 t175x11 w fun w =>
 Sto P 30 t30x15 t176x11 w fun w =>
 k7 t28x11 t29x11 t30x15 t177x11 w) ∧
 (Al P 30 w fun t29x12 w =>
 Ke P (Instr.loadAt 23 t167) t168 w <|
 Ke P (Instr.loadAt 23 t171) t172 w <|
 Al P 30 w fun t28x12 w =>
 Ke P (Instr.loadAt 23 t167) t168 w <|
 Ke P (Instr.loadAt 23 t171) t172 w <|
 Sto P 30 t28x12 t174x11 w fun w =>
 Sto P 30 t29x12 t175x11 w fun w =>
 Sto P 30 t30x15 t176x11 w fun w =>
 k7 t28x12 t29x12 t30x15 t177x11 w)) ∧
 ((Al P 30 w fun t28x13 w =>
 Ke P (Instr.loadAt 23 t167) t168 w <|
 Ke P (Instr.loadAt 23 t171) t172 w <|
 (Cl P 19 #[t168, t172] w (Pk R) fun t173x12 w =>
 ExP t173x12 0 fun t174x12 =>
 ExP t173x12 1 fun t175x12 =>
 ExP t173x12 2 fun t176x12 =>
 ExP t173x12 3 fun t177x12 =>
 Al P 30 w fun t29x13 w =>
 Ke P (Instr.loadAt 23 t167) t168 w <|
 Ke P (Instr.loadAt 23 t171) t172 w <|
 Sto P 30 t28x13 t174x12 w fun w =>
 Sto P 30 t29x13 t175x12 w fun w =>
 Sto P 30 t30x15 t176x12 w fun w =>
 k7 t28x13 t29x13 t30x15 t177x12 w) ∧
 (Al P 30 w fun t29x14 w =>
 Ke P (Instr.loadAt 23 t167) t168 w <|
 Ke P (Instr.loadAt 23 t171) t172 w <|
 Cl P 19 #[t168, t172] w (Pk R) fun t173x13 w =>
 ExP t173x13 0 fun t174x13 =>
 ExP t173x13 1 fun t175x13 =>
 ExP t173x13 2 fun t176x13 =>
 ExP t173x13 3 fun t177x13 =>
 Sto P 30 t28x13 t174x13 w fun w =>
 Sto P 30 t29x14 t175x13 w fun w =>
 Sto P 30 t30x15 t176x13 w fun w =>
 k7 t28x13 t29x14 t30x15 t177x13 w)) ∧
 (Al P 30 w fun t29x15 w =>
 Ke P (Instr.loadAt 23 t167) t168 w <|
 Ke P (Instr.loadAt 23 t171) t172 w <|
 (Cl P 19 #[t168, t172] w (Pk R) fun t173x14 w =>
 ExP t173x14 0 fun t174x14 =>
 ExP t173x14 1 fun t175x14 =>
 ExP t173x14 2 fun t176x14 =>
 ExP t173x14 3 fun t177x14 =>
 Al P 30 w fun t28x14 w =>
 Ke P (Instr.loadAt 23 t167) t168 w <|
 Ke P (Instr.loadAt 23 t171) t172 w <|
 Sto P 30 t28x14 t174x14 w fun w =>
 Sto P 30 t29x15 t175x14 w fun w =>
 Sto P 30 t30x15 t176x14 w fun w =>
 k7 t28x14 t29x15 t30x15 t177x14 w) ∧
 (Al P 30 w fun t28x15 w =>
 Ke P (Instr.loadAt 23 t167) t168 w <|
 Ke P (Instr.loadAt 23 t171) t172 w <|
 Cl P 19 #[t168, t172] w (Pk R) fun t173x15 w =>
 ExP t173x15 0 fun t174x15 =>
 ExP t173x15 1 fun t175x15 =>
 ExP t173x15 2 fun t176x15 =>
 ExP t173x15 3 fun t177x15 =>
 Sto P 30 t28x15 t174x15 w fun w =>
 Sto P 30 t29x15 t175x15 w fun w =>
 Sto P 30 t30x15 t176x15 w fun w =>
 k7 t28x15 t29x15 t30x15 t177x15 w)))))))
 (fun t28x16 t29x16 t30x16 t31 w =>
 Bn P .neq 31 false t27 t31 w fun t180 w =>
 Gd t180 false (fun k => Ld P 30 t24x16 w k) w fun t182 w =>
 Gd t180 false (fun k => Ld P 30 t28x16 w k) w fun t183 w =>
 Gd t180 false (fun k => Bn P .neq 30 false t182 t183 w k) w fun t184 w =>
 Pick t180 (.bool true) t184 w fun t185 w =>
 Gd t185 false (fun k => Ld P 30 t25x16 w k) w fun t187 w =>
 Gd t185 false (fun k => Ld P 30 t29x16 w k) w fun t188 w =>
 Gd t185 false (fun k => Bn P .neq 30 false t187 t188 w k) w fun t189 w =>
 Pick t185 (.bool true) t189 w fun t190 w =>
 Gd t190 false (fun k => Ld P 30 t26x16 w k) w fun t192 w =>
 Gd t190 false (fun k => Ld P 30 t30x16 w k) w fun t193 w =>
 Gd t190 false (fun k => Bn P .neq 30 false t192 t193 w k) w fun t194 w =>
 Pick t190 (.bool true) t194 w fun t195 w =>
 If t195
 (R (.returned (.bool false)) w)
 (Bn P .add 3 true t13 (.int .i64 1) w fun t62x1 w =>
 k1 t62x1 w))))))))))
 (R (.returned (.bool true)) w)))
theorem e_law16_EstimateMatchesReference {t0 t1 t2 : Value} {w : World} {R : Ending → World → Prop} (h : s_law16_EstimateMatchesReference Tryz.prog t0 t1 t2 w R) : Calls Tryz.prog 3 #[t0, t1, t2] w R :=
 enter (h := (.sq .z (.sq (.sq .z (.cd (.sq .z .z) .z)) (.sq .z (.sq .z (.sq .z (.sq .z (.sq (.sq .z (.bk (.lp [13] [6, 14, 15, 16, 17, 18, 19, 20, 21, 22, 23, 24, 25, 26, 27, 28, 29, 30, 31, 57, 58, 59, 60, 61, 62, 63, 64, 65, 66, 67, 68, 69, 70, 71, 72, 73, 74, 75, 76, 77, 78, 79, 80, 81, 82, 83, 84, 85, 86, 87, 88, 89, 90, 91, 92, 93, 94, 95, 96, 97, 98, 99, 100, 101, 102, 103, 104, 105, 106, 107, 108, 109, 110, 111, 112, 113, 114, 115, 116, 117, 118, 119, 120, 121, 122, 123, 124, 125, 126, 127, 128, 129, 130, 131, 132, 133, 134, 135, 136, 137, 138, 139, 140, 141, 142, 143, 144, 145, 146, 147, 148, 149, 150, 151, 152, 153, 154, 155, 156, 157, 158, 159, 160, 161, 162, 163, 164, 165, 166, 167, 168, 169, 170, 171, 172, 173, 174, 175, 176, 177, 178, 179, 180, 181, 182, 183, 184, 185, 186, 187, 188, 189, 190, 191, 192, 193, 194, 195] (.sq (.sq .z (.cd .z .z)) (.sq (.bk (.jn [14, 15, 16] [63, 64, 65, 66, 67, 68, 69, 70, 71, 72, 73, 74, 75] (.dr (.pur true 0 (.pur true 1 (.pur true 2 (.pur false 3 (.pur true 4 (.pur true 5 (.pur true 6 (.pur false 7 (.alt (.eff 8 [] (.pur true 9 (.pur true 10 (.pur true 11 (.pur true 12 (.alt (.eff 13 [3, 7] (.eff 14 [3, 7] (.eff 15 [] (.eff 16 [] (.pur true 17 .done))))) (.eff 14 [3, 7] (.eff 13 [3, 7] (.eff 15 [] (.eff 16 [] (.pur true 17 .done))))))))))) (.alt (.eff 13 [3, 7] (.alt (.eff 8 [] (.pur true 9 (.pur true 10 (.pur true 11 (.pur true 12 (.eff 14 [3, 7] (.eff 15 [] (.eff 16 [] (.pur true 17 .done))))))))) (.eff 14 [3, 7] (.eff 8 [] (.pur true 9 (.pur true 10 (.pur true 11 (.pur true 12 (.eff 15 [] (.eff 16 [] (.pur true 17 .done))))))))))) (.eff 14 [3, 7] (.alt (.eff 8 [] (.pur true 9 (.pur true 10 (.pur true 11 (.pur true 12 (.eff 13 [3, 7] (.eff 15 [] (.eff 16 [] (.pur true 17 .done))))))))) (.eff 13 [3, 7] (.eff 8 [] (.pur true 9 (.pur true 10 (.pur true 11 (.pur true 12 (.eff 15 [] (.eff 16 [] (.pur true 17 .done)))))))))))))))))))))) (.jn [17, 18, 19] [76, 77, 78, 79, 80, 81, 82, 83, 84, 85, 86, 87, 88] (.dr (.pur true 0 (.pur true 1 (.pur true 2 (.pur false 3 (.pur true 4 (.pur true 5 (.pur true 6 (.pur false 7 (.alt (.eff 8 [] (.pur true 9 (.pur true 10 (.pur true 11 (.pur true 12 (.alt (.eff 13 [3, 7] (.eff 14 [3, 7] (.eff 15 [] (.eff 16 [] (.pur true 17 .done))))) (.eff 14 [3, 7] (.eff 13 [3, 7] (.eff 15 [] (.eff 16 [] (.pur true 17 .done))))))))))) (.alt (.eff 13 [3, 7] (.alt (.eff 8 [] (.pur true 9 (.pur true 10 (.pur true 11 (.pur true 12 (.eff 14 [3, 7] (.eff 15 [] (.eff 16 [] (.pur true 17 .done))))))))) (.eff 14 [3, 7] (.eff 8 [] (.pur true 9 (.pur true 10 (.pur true 11 (.pur true 12 (.eff 15 [] (.eff 16 [] (.pur true 17 .done))))))))))) (.eff 14 [3, 7] (.alt (.eff 8 [] (.pur true 9 (.pur true 10 (.pur true 11 (.pur true 12 (.eff 13 [3, 7] (.eff 15 [] (.eff 16 [] (.pur true 17 .done))))))))) (.eff 13 [3, 7] (.eff 8 [] (.pur true 9 (.pur true 10 (.pur true 11 (.pur true 12 (.eff 15 [] (.eff 16 [] (.pur true 17 .done)))))))))))))))))))))) (.jn [20, 21] [89, 90, 91, 92, 93, 94, 95, 96, 97, 98, 99, 100] (.dr (.pur true 0 (.pur true 1 (.pur true 2 (.pur false 3 (.pur true 4 (.pur true 5 (.pur true 6 (.pur false 7 (.alt (.eff 8 [] (.pur true 9 (.pur true 10 (.pur true 11 (.eff 12 [3, 7] (.eff 13 [] (.pur true 14 .done))))))) (.eff 12 [3, 7] (.eff 8 [] (.pur true 9 (.pur true 10 (.pur true 11 (.eff 13 [] (.pur true 14 .done))))))))))))))))) (.jn [22, 23] [101, 102, 103, 104, 105, 106, 107, 108, 109, 110, 111, 112] (.dr (.pur true 0 (.pur true 1 (.pur true 2 (.pur false 3 (.pur true 4 (.pur true 5 (.pur true 6 (.pur false 7 (.alt (.eff 8 [] (.pur true 9 (.pur true 10 (.pur true 11 (.eff 12 [3, 7] (.eff 13 [] (.pur true 14 .done))))))) (.eff 12 [3, 7] (.eff 8 [] (.pur true 9 (.pur true 10 (.pur true 11 (.eff 13 [] (.pur true 14 .done))))))))))))))))) (.sq (.sq .z (.cd (.sq .z .z) .z)) (.sq (.sq .z (.cd .z .z)) (.jn [24, 25, 26, 27] [150, 151, 152, 153, 154, 155, 156, 157, 158, 159, 160, 161, 162, 163] (.dr (.pur true 0 (.pur true 1 (.pur true 2 (.pur false 3 (.pur true 4 (.pur true 5 (.pur true 6 (.pur false 7 (.alt (.eff 8 [] (.pur true 9 (.pur true 10 (.pur true 11 (.pur true 12 (.pur true 13 (.alt (.eff 14 [3, 7] (.alt (.eff 15 [3, 7] (.eff 16 [3, 7] (.eff 17 [] (.eff 18 [] (.eff 19 [] (.pur true 20 .done)))))) (.eff 16 [3, 7] (.eff 15 [3, 7] (.eff 17 [] (.eff 18 [] (.eff 19 [] (.pur true 20 .done)))))))) (.alt (.eff 15 [3, 7] (.alt (.eff 14 [3, 7] (.eff 16 [3, 7] (.eff 17 [] (.eff 18 [] (.eff 19 [] (.pur true 20 .done)))))) (.eff 16 [3, 7] (.eff 14 [3, 7] (.eff 17 [] (.eff 18 [] (.eff 19 [] (.pur true 20 .done)))))))) (.eff 16 [3, 7] (.alt (.eff 14 [3, 7] (.eff 15 [3, 7] (.eff 17 [] (.eff 18 [] (.eff 19 [] (.pur true 20 .done)))))) (.eff 15 [3, 7] (.eff 14 [3, 7] (.eff 17 [] (.eff 18 [] (.eff 19 [] (.pur true 20 .done)))))))))))))))) (.alt (.eff 14 [3, 7] (.alt (.eff 8 [] (.pur true 9 (.pur true 10 (.pur true 11 (.pur true 12 (.pur true 13 (.alt (.eff 15 [3, 7] (.eff 16 [3, 7] (.eff 17 [] (.eff 18 [] (.eff 19 [] (.pur true 20 .done)))))) (.eff 16 [3, 7] (.eff 15 [3, 7] (.eff 17 [] (.eff 18 [] (.eff 19 [] (.pur true 20 .done))))))))))))) (.alt (.eff 15 [3, 7] (.alt (.eff 8 [] (.pur true 9 (.pur true 10 (.pur true 11 (.pur true 12 (.pur true 13 (.eff 16 [3, 7] (.eff 17 [] (.eff 18 [] (.eff 19 [] (.pur true 20 .done))))))))))) (.eff 16 [3, 7] (.eff 8 [] (.pur true 9 (.pur true 10 (.pur true 11 (.pur true 12 (.pur true 13 (.eff 17 [] (.eff 18 [] (.eff 19 [] (.pur true 20 .done))))))))))))) (.eff 16 [3, 7] (.alt (.eff 8 [] (.pur true 9 (.pur true 10 (.pur true 11 (.pur true 12 (.pur true 13 (.eff 15 [3, 7] (.eff 17 [] (.eff 18 [] (.eff 19 [] (.pur true 20 .done))))))))))) (.eff 15 [3, 7] (.eff 8 [] (.pur true 9 (.pur true 10 (.pur true 11 (.pur true 12 (.pur true 13 (.eff 17 [] (.eff 18 [] (.eff 19 [] (.pur true 20 .done)))))))))))))))) (.alt (.eff 15 [3, 7] (.alt (.eff 8 [] (.pur true 9 (.pur true 10 (.pur true 11 (.pur true 12 (.pur true 13 (.alt (.eff 14 [3, 7] (.eff 16 [3, 7] (.eff 17 [] (.eff 18 [] (.eff 19 [] (.pur true 20 .done)))))) (.eff 16 [3, 7] (.eff 14 [3, 7] (.eff 17 [] (.eff 18 [] (.eff 19 [] (.pur true 20 .done))))))))))))) (.alt (.eff 14 [3, 7] (.alt (.eff 8 [] (.pur true 9 (.pur true 10 (.pur true 11 (.pur true 12 (.pur true 13 (.eff 16 [3, 7] (.eff 17 [] (.eff 18 [] (.eff 19 [] (.pur true 20 .done))))))))))) (.eff 16 [3, 7] (.eff 8 [] (.pur true 9 (.pur true 10 (.pur true 11 (.pur true 12 (.pur true 13 (.eff 17 [] (.eff 18 [] (.eff 19 [] (.pur true 20 .done))))))))))))) (.eff 16 [3, 7] (.alt (.eff 8 [] (.pur true 9 (.pur true 10 (.pur true 11 (.pur true 12 (.pur true 13 (.eff 14 [3, 7] (.eff 17 [] (.eff 18 [] (.eff 19 [] (.pur true 20 .done))))))))))) (.eff 14 [3, 7] (.eff 8 [] (.pur true 9 (.pur true 10 (.pur true 11 (.pur true 12 (.pur true 13 (.eff 17 [] (.eff 18 [] (.eff 19 [] (.pur true 20 .done)))))))))))))))) (.eff 16 [3, 7] (.alt (.eff 8 [] (.pur true 9 (.pur true 10 (.pur true 11 (.pur true 12 (.pur true 13 (.alt (.eff 14 [3, 7] (.eff 15 [3, 7] (.eff 17 [] (.eff 18 [] (.eff 19 [] (.pur true 20 .done)))))) (.eff 15 [3, 7] (.eff 14 [3, 7] (.eff 17 [] (.eff 18 [] (.eff 19 [] (.pur true 20 .done))))))))))))) (.alt (.eff 14 [3, 7] (.alt (.eff 8 [] (.pur true 9 (.pur true 10 (.pur true 11 (.pur true 12 (.pur true 13 (.eff 15 [3, 7] (.eff 17 [] (.eff 18 [] (.eff 19 [] (.pur true 20 .done))))))))))) (.eff 15 [3, 7] (.eff 8 [] (.pur true 9 (.pur true 10 (.pur true 11 (.pur true 12 (.pur true 13 (.eff 17 [] (.eff 18 [] (.eff 19 [] (.pur true 20 .done))))))))))))) (.eff 15 [3, 7] (.alt (.eff 8 [] (.pur true 9 (.pur true 10 (.pur true 11 (.pur true 12 (.pur true 13 (.eff 14 [3, 7] (.eff 17 [] (.eff 18 [] (.eff 19 [] (.pur true 20 .done))))))))))) (.eff 14 [3, 7] (.eff 8 [] (.pur true 9 (.pur true 10 (.pur true 11 (.pur true 12 (.pur true 13 (.eff 17 [] (.eff 18 [] (.eff 19 [] (.pur true 20 .done)))))))))))))))))))))))))))) (.jn [28, 29, 30, 31] [164, 165, 166, 167, 168, 169, 170, 171, 172, 173, 174, 175, 176, 177] (.dr (.pur true 0 (.pur true 1 (.pur true 2 (.pur false 3 (.pur true 4 (.pur true 5 (.pur true 6 (.pur false 7 (.alt (.eff 8 [] (.pur true 9 (.pur true 10 (.pur true 11 (.pur true 12 (.pur true 13 (.alt (.eff 14 [3, 7] (.alt (.eff 15 [3, 7] (.eff 16 [3, 7] (.eff 17 [] (.eff 18 [] (.eff 19 [] (.pur true 20 .done)))))) (.eff 16 [3, 7] (.eff 15 [3, 7] (.eff 17 [] (.eff 18 [] (.eff 19 [] (.pur true 20 .done)))))))) (.alt (.eff 15 [3, 7] (.alt (.eff 14 [3, 7] (.eff 16 [3, 7] (.eff 17 [] (.eff 18 [] (.eff 19 [] (.pur true 20 .done)))))) (.eff 16 [3, 7] (.eff 14 [3, 7] (.eff 17 [] (.eff 18 [] (.eff 19 [] (.pur true 20 .done)))))))) (.eff 16 [3, 7] (.alt (.eff 14 [3, 7] (.eff 15 [3, 7] (.eff 17 [] (.eff 18 [] (.eff 19 [] (.pur true 20 .done)))))) (.eff 15 [3, 7] (.eff 14 [3, 7] (.eff 17 [] (.eff 18 [] (.eff 19 [] (.pur true 20 .done)))))))))))))))) (.alt (.eff 14 [3, 7] (.alt (.eff 8 [] (.pur true 9 (.pur true 10 (.pur true 11 (.pur true 12 (.pur true 13 (.alt (.eff 15 [3, 7] (.eff 16 [3, 7] (.eff 17 [] (.eff 18 [] (.eff 19 [] (.pur true 20 .done)))))) (.eff 16 [3, 7] (.eff 15 [3, 7] (.eff 17 [] (.eff 18 [] (.eff 19 [] (.pur true 20 .done))))))))))))) (.alt (.eff 15 [3, 7] (.alt (.eff 8 [] (.pur true 9 (.pur true 10 (.pur true 11 (.pur true 12 (.pur true 13 (.eff 16 [3, 7] (.eff 17 [] (.eff 18 [] (.eff 19 [] (.pur true 20 .done))))))))))) (.eff 16 [3, 7] (.eff 8 [] (.pur true 9 (.pur true 10 (.pur true 11 (.pur true 12 (.pur true 13 (.eff 17 [] (.eff 18 [] (.eff 19 [] (.pur true 20 .done))))))))))))) (.eff 16 [3, 7] (.alt (.eff 8 [] (.pur true 9 (.pur true 10 (.pur true 11 (.pur true 12 (.pur true 13 (.eff 15 [3, 7] (.eff 17 [] (.eff 18 [] (.eff 19 [] (.pur true 20 .done))))))))))) (.eff 15 [3, 7] (.eff 8 [] (.pur true 9 (.pur true 10 (.pur true 11 (.pur true 12 (.pur true 13 (.eff 17 [] (.eff 18 [] (.eff 19 [] (.pur true 20 .done)))))))))))))))) (.alt (.eff 15 [3, 7] (.alt (.eff 8 [] (.pur true 9 (.pur true 10 (.pur true 11 (.pur true 12 (.pur true 13 (.alt (.eff 14 [3, 7] (.eff 16 [3, 7] (.eff 17 [] (.eff 18 [] (.eff 19 [] (.pur true 20 .done)))))) (.eff 16 [3, 7] (.eff 14 [3, 7] (.eff 17 [] (.eff 18 [] (.eff 19 [] (.pur true 20 .done))))))))))))) (.alt (.eff 14 [3, 7] (.alt (.eff 8 [] (.pur true 9 (.pur true 10 (.pur true 11 (.pur true 12 (.pur true 13 (.eff 16 [3, 7] (.eff 17 [] (.eff 18 [] (.eff 19 [] (.pur true 20 .done))))))))))) (.eff 16 [3, 7] (.eff 8 [] (.pur true 9 (.pur true 10 (.pur true 11 (.pur true 12 (.pur true 13 (.eff 17 [] (.eff 18 [] (.eff 19 [] (.pur true 20 .done))))))))))))) (.eff 16 [3, 7] (.alt (.eff 8 [] (.pur true 9 (.pur true 10 (.pur true 11 (.pur true 12 (.pur true 13 (.eff 14 [3, 7] (.eff 17 [] (.eff 18 [] (.eff 19 [] (.pur true 20 .done))))))))))) (.eff 14 [3, 7] (.eff 8 [] (.pur true 9 (.pur true 10 (.pur true 11 (.pur true 12 (.pur true 13 (.eff 17 [] (.eff 18 [] (.eff 19 [] (.pur true 20 .done)))))))))))))))) (.eff 16 [3, 7] (.alt (.eff 8 [] (.pur true 9 (.pur true 10 (.pur true 11 (.pur true 12 (.pur true 13 (.alt (.eff 14 [3, 7] (.eff 15 [3, 7] (.eff 17 [] (.eff 18 [] (.eff 19 [] (.pur true 20 .done)))))) (.eff 15 [3, 7] (.eff 14 [3, 7] (.eff 17 [] (.eff 18 [] (.eff 19 [] (.pur true 20 .done))))))))))))) (.alt (.eff 14 [3, 7] (.alt (.eff 8 [] (.pur true 9 (.pur true 10 (.pur true 11 (.pur true 12 (.pur true 13 (.eff 15 [3, 7] (.eff 17 [] (.eff 18 [] (.eff 19 [] (.pur true 20 .done))))))))))) (.eff 15 [3, 7] (.eff 8 [] (.pur true 9 (.pur true 10 (.pur true 11 (.pur true 12 (.pur true 13 (.eff 17 [] (.eff 18 [] (.eff 19 [] (.pur true 20 .done))))))))))))) (.eff 15 [3, 7] (.alt (.eff 8 [] (.pur true 9 (.pur true 10 (.pur true 11 (.pur true 12 (.pur true 13 (.eff 14 [3, 7] (.eff 17 [] (.eff 18 [] (.eff 19 [] (.pur true 20 .done))))))))))) (.eff 14 [3, 7] (.eff 8 [] (.pur true 9 (.pur true 10 (.pur true 11 (.pur true 12 (.pur true 13 (.eff 17 [] (.eff 18 [] (.eff 19 [] (.pur true 20 .done)))))))))))))))))))))))))))) (.sq .z (.cd (.sq .z .z) .z))))))))))) .z))))) (.sq .z .z))))))))) (args := [t0, t1, t2]) Tryz.func3 (by kernel_rfl) (by kernel_rfl) (by kernel_rfl) (Eq.mp (by kernel_rfl) h)
end Go.Proofs.YtnocjgmmglmfiaaGreatDoor
