/-
  Formulas of functions. By an AI agent.
-/
import Derived.Test.YtnkmbjedcjcccaaGreatDoorSpecA
import Derived.Test.YtnkmbjedcjcccaaGreatDoorProg
set_option linter.unusedSimpArgs false
set_option linter.unusedVariables false
set_option linter.unusedSectionVars false
namespace Go.Proofs.YtnkmbjedcjcccaaGreatDoor
open Go Go.Eng Go.Shelf
set_option maxRecDepth 100000
variable {t0 t1 t2 t3 : Value} {w : World} {R : Ending → World → Prop}
def s_law28_sane (P : Program) (w : World) (R : Ending → World → Prop) : Prop :=
 Cl P 30 #[(.int .i64 1), (.int .i64 10)] w (Pk R) fun t30 w =>
 Cl P 17 #[t30] w (Pk R) fun t31 w =>
 Ex t31 0 w fun t32 w =>
 Ex t31 1 w fun t33 w =>
 Al P 28 w fun t1 w =>
 Sto P 28 t1 t32 w fun w =>
 Cl P 30 #[(.int .i64 1), (.int .i64 4)] w (Pk R) fun t34 w =>
 Cl P 30 #[(.int .i64 1), (.int .i64 20)] w (Pk R) fun t35 w =>
 Cl P 30 #[(.int .i64 2), (.int .i64 1)] w (Pk R) fun t36 w =>
 Bd P 30 [(0, (.int .i64 1)), (1, (.int .i64 2)), (2, (.int .i64 100)), (3, t34), (4, t35), (5, t36), (6, (.int .i64 (-1)))] w fun t37 w =>
 Al P 30 w fun t3 w =>
 Sto P 30 t3 t37 w fun w =>
 Ld P 28 t1 w fun t39 w =>
 Ld P 30 t3 w fun t40 w =>
 Cl P 22 #[t39, t40] w (Pk R) fun t41 w =>
 Ex t41 0 w fun t42 w =>
 Ex t41 1 w fun t43 w =>
 Al P 28 w fun t4 w =>
 Sto P 28 t4 t42 w fun w =>
 Ld P 28 t4 w fun t45 w =>
 Cl P 19 #[t45] w (Pk R) fun t46 w =>
 Ex t46 0 w fun t47 w =>
 Ex t46 1 w fun t48 w =>
 Al P 25 w fun t6 w =>
 Sto P 25 t6 t47 w fun w =>
 Jn3 (fun k1 =>
 dL P 28 t4 w.drew fun t50 =>
 (Cl P 33 #[(.int .i64 0), (.int .i64 101), (.int .i64 101)] w.drew (Pk R) fun t51 w =>
 kLd P 28 t4 t50 w <|
 (Cl P 33 #[(.int .i64 1), (.int .i64 90), (.int .i64 110)] w (Pk R) fun t52 w =>
 kLd P 28 t4 t50 w <|
 (Bs P 31 2 [(0, t51), (1, t52)] w fun t53 w =>
 kLd P 28 t4 t50 w <|
 (Cl P 24 #[t50, t53] w (Pk R) fun t54 w =>
 ExP t54 0 fun t55 =>
 ExP t54 1 fun t56 =>
 ExP t54 2 fun t57 =>
 Al P 28 w fun t8 w =>
 kLd P 28 t4 t50 w <|
 Sto P 28 t8 t55 w fun w =>
 k1 t8 t56 t57 w) ∧
 (Al P 28 w fun t8x1 w =>
 kLd P 28 t4 t50 w <|
 Cl P 24 #[t50, t53] w (Pk R) fun t54x1 w =>
 ExP t54x1 0 fun t55x1 =>
 ExP t54x1 1 fun t56x1 =>
 ExP t54x1 2 fun t57x1 =>
 Sto P 28 t8x1 t55x1 w fun w =>
 k1 t8x1 t56x1 t57x1 w)) ∧
 (Al P 28 w fun t8x2 w =>
 kLd P 28 t4 t50 w <|
 Bs P 31 2 [(0, t51), (1, t52)] w fun t53x1 w =>
 kLd P 28 t4 t50 w <|
 Cl P 24 #[t50, t53x1] w (Pk R) fun t54x2 w =>
 ExP t54x2 0 fun t55x2 =>
 ExP t54x2 1 fun t56x2 =>
 ExP t54x2 2 fun t57x2 =>
 Sto P 28 t8x2 t55x2 w fun w =>
 k1 t8x2 t56x2 t57x2 w)) ∧
 (Al P 28 w fun t8x3 w =>
 kLd P 28 t4 t50 w <|
 Cl P 33 #[(.int .i64 1), (.int .i64 90), (.int .i64 110)] w (Pk R) fun t52x1 w =>
 kLd P 28 t4 t50 w <|
 Bs P 31 2 [(0, t51), (1, t52x1)] w fun t53x2 w =>
 kLd P 28 t4 t50 w <|
 Cl P 24 #[t50, t53x2] w (Pk R) fun t54x3 w =>
 ExP t54x3 0 fun t55x3 =>
 ExP t54x3 1 fun t56x3 =>
 ExP t54x3 2 fun t57x3 =>
 Sto P 28 t8x3 t55x3 w fun w =>
 k1 t8x3 t56x3 t57x3 w)) ∧
 (Al P 28 w.drew fun t8x4 w =>
 kLd P 28 t4 t50 w <|
 Cl P 33 #[(.int .i64 0), (.int .i64 101), (.int .i64 101)] w (Pk R) fun t51x1 w =>
 kLd P 28 t4 t50 w <|
 Cl P 33 #[(.int .i64 1), (.int .i64 90), (.int .i64 110)] w (Pk R) fun t52x2 w =>
 kLd P 28 t4 t50 w <|
 Bs P 31 2 [(0, t51x1), (1, t52x2)] w fun t53x3 w =>
 kLd P 28 t4 t50 w <|
 Cl P 24 #[t50, t53x3] w (Pk R) fun t54x4 w =>
 ExP t54x4 0 fun t55x4 =>
 ExP t54x4 1 fun t56x4 =>
 ExP t54x4 2 fun t57x4 =>
 Sto P 28 t8x4 t55x4 w fun w =>
 k1 t8x4 t56x4 t57x4 w))
 (fun t8x5 t9 t10 w =>
 Jn3 (fun k2 =>
 dL P 28 t8x5 w.drew fun t59 =>
 (Cl P 33 #[(.int .i64 2), (.int .i64 200), (.int .i64 200)] w.drew (Pk R) fun t60 w =>
 kLd P 28 t8x5 t59 w <|
 (Cl P 33 #[(.int .i64 3), (.int .i64 200), (.int .i64 200)] w (Pk R) fun t61 w =>
 kLd P 28 t8x5 t59 w <|
 (Cl P 33 #[(.int .i64 4), (.int .i64 200), (.int .i64 200)] w (Pk R) fun t62 w =>
 kLd P 28 t8x5 t59 w <|
 (Bs P 31 3 [(0, t60), (1, t61), (2, t62)] w fun t63 w =>
 kLd P 28 t8x5 t59 w <|
 (Cl P 24 #[t59, t63] w (Pk R) fun t64 w =>
 ExP t64 0 fun t65 =>
 ExP t64 1 fun t66 =>
 ExP t64 2 fun t67 =>
 Al P 28 w fun t11 w =>
 kLd P 28 t8x5 t59 w <|
 Sto P 28 t11 t65 w fun w =>
 k2 t11 t66 t67 w) ∧
 (Al P 28 w fun t11x1 w =>
 kLd P 28 t8x5 t59 w <|
 Cl P 24 #[t59, t63] w (Pk R) fun t64x1 w =>
 ExP t64x1 0 fun t65x1 =>
 ExP t64x1 1 fun t66x1 =>
 ExP t64x1 2 fun t67x1 =>
 Sto P 28 t11x1 t65x1 w fun w =>
 k2 t11x1 t66x1 t67x1 w)) ∧
 (Al P 28 w fun t11x2 w =>
 kLd P 28 t8x5 t59 w <|
 Bs P 31 3 [(0, t60), (1, t61), (2, t62)] w fun t63x1 w =>
 kLd P 28 t8x5 t59 w <|
 Cl P 24 #[t59, t63x1] w (Pk R) fun t64x2 w =>
 ExP t64x2 0 fun t65x2 =>
 ExP t64x2 1 fun t66x2 =>
 ExP t64x2 2 fun t67x2 =>
 Sto P 28 t11x2 t65x2 w fun w =>
 k2 t11x2 t66x2 t67x2 w)) ∧
 (Al P 28 w fun t11x3 w =>
 kLd P 28 t8x5 t59 w <|
 Cl P 33 #[(.int .i64 4), (.int .i64 200), (.int .i64 200)] w (Pk R) fun t62x1 w =>
 kLd P 28 t8x5 t59 w <|
 Bs P 31 3 [(0, t60), (1, t61), (2, t62x1)] w fun t63x2 w =>
 kLd P 28 t8x5 t59 w <|
 Cl P 24 #[t59, t63x2] w (Pk R) fun t64x3 w =>
 ExP t64x3 0 fun t65x3 =>
 ExP t64x3 1 fun t66x3 =>
 ExP t64x3 2 fun t67x3 =>
 Sto P 28 t11x3 t65x3 w fun w =>
 k2 t11x3 t66x3 t67x3 w)) ∧
 (Al P 28 w fun t11x4 w =>
 kLd P 28 t8x5 t59 w <|
 Cl P 33 #[(.int .i64 3), (.int .i64 200), (.int .i64 200)] w (Pk R) fun t61x1 w =>
 kLd P 28 t8x5 t59 w <|
 Cl P 33 #[(.int .i64 4), (.int .i64 200), (.int .i64 200)] w (Pk R) fun t62x2 w =>
 kLd P 28 t8x5 t59 w <|
 Bs P 31 3 [(0, t60), (1, t61x1), (2, t62x2)] w fun t63x3 w =>
 kLd P 28 t8x5 t59 w <|
 Cl P 24 #[t59, t63x3] w (Pk R) fun t64x4 w =>
 ExP t64x4 0 fun t65x4 =>
 ExP t64x4 1 fun t66x4 =>
 ExP t64x4 2 fun t67x4 =>
 Sto P 28 t11x4 t65x4 w fun w =>
 k2 t11x4 t66x4 t67x4 w)) ∧
 (Al P 28 w.drew fun t11x5 w =>
 kLd P 28 t8x5 t59 w <|
 Cl P 33 #[(.int .i64 2), (.int .i64 200), (.int .i64 200)] w (Pk R) fun t60x1 w =>
 kLd P 28 t8x5 t59 w <|
 Cl P 33 #[(.int .i64 3), (.int .i64 200), (.int .i64 200)] w (Pk R) fun t61x2 w =>
 kLd P 28 t8x5 t59 w <|
 Cl P 33 #[(.int .i64 4), (.int .i64 200), (.int .i64 200)] w (Pk R) fun t62x3 w =>
 kLd P 28 t8x5 t59 w <|
 Bs P 31 3 [(0, t60x1), (1, t61x2), (2, t62x3)] w fun t63x4 w =>
 kLd P 28 t8x5 t59 w <|
 Cl P 24 #[t59, t63x4] w (Pk R) fun t64x5 w =>
 ExP t64x5 0 fun t65x5 =>
 ExP t64x5 1 fun t66x5 =>
 ExP t64x5 2 fun t67x5 =>
 Sto P 28 t11x5 t65x5 w fun w =>
 k2 t11x5 t66x5 t67x5 w))
 (fun t11x6 t12 t13 w =>
 Jn3 (fun k3 =>
 dL P 28 t11x6 w.drew fun t69 =>
 (Cl P 33 #[(.int .i64 5), (.int .i64 200), (.int .i64 200)] w.drew (Pk R) fun t70 w =>
 kLd P 28 t11x6 t69 w <|
 (Cl P 33 #[(.int .i64 6), (.int .i64 200), (.int .i64 200)] w (Pk R) fun t71 w =>
 kLd P 28 t11x6 t69 w <|
 (Bs P 31 2 [(0, t70), (1, t71)] w fun t72 w =>
 kLd P 28 t11x6 t69 w <|
 (Cl P 24 #[t69, t72] w (Pk R) fun t73 w =>
 ExP t73 0 fun t74 =>
 ExP t73 1 fun t75 =>
 ExP t73 2 fun t76 =>
 Al P 28 w fun t14 w =>
 kLd P 28 t11x6 t69 w <|
 Sto P 28 t14 t74 w fun w =>
 k3 t14 t75 t76 w) ∧
 (Al P 28 w fun t14x1 w =>
 kLd P 28 t11x6 t69 w <|
 Cl P 24 #[t69, t72] w (Pk R) fun t73x1 w =>
 ExP t73x1 0 fun t74x1 =>
 ExP t73x1 1 fun t75x1 =>
 ExP t73x1 2 fun t76x1 =>
 Sto P 28 t14x1 t74x1 w fun w =>
 k3 t14x1 t75x1 t76x1 w)) ∧
 (Al P 28 w fun t14x2 w =>
 kLd P 28 t11x6 t69 w <|
 Bs P 31 2 [(0, t70), (1, t71)] w fun t72x1 w =>
 kLd P 28 t11x6 t69 w <|
 Cl P 24 #[t69, t72x1] w (Pk R) fun t73x2 w =>
 ExP t73x2 0 fun t74x2 =>
 ExP t73x2 1 fun t75x2 =>
 ExP t73x2 2 fun t76x2 =>
 Sto P 28 t14x2 t74x2 w fun w =>
 k3 t14x2 t75x2 t76x2 w)) ∧
 (Al P 28 w fun t14x3 w =>
 kLd P 28 t11x6 t69 w <|
 Cl P 33 #[(.int .i64 6), (.int .i64 200), (.int .i64 200)] w (Pk R) fun t71x1 w =>
 kLd P 28 t11x6 t69 w <|
 Bs P 31 2 [(0, t70), (1, t71x1)] w fun t72x2 w =>
 kLd P 28 t11x6 t69 w <|
 Cl P 24 #[t69, t72x2] w (Pk R) fun t73x3 w =>
 ExP t73x3 0 fun t74x3 =>
 ExP t73x3 1 fun t75x3 =>
 ExP t73x3 2 fun t76x3 =>
 Sto P 28 t14x3 t74x3 w fun w =>
 k3 t14x3 t75x3 t76x3 w)) ∧
 (Al P 28 w.drew fun t14x4 w =>
 kLd P 28 t11x6 t69 w <|
 Cl P 33 #[(.int .i64 5), (.int .i64 200), (.int .i64 200)] w (Pk R) fun t70x1 w =>
 kLd P 28 t11x6 t69 w <|
 Cl P 33 #[(.int .i64 6), (.int .i64 200), (.int .i64 200)] w (Pk R) fun t71x2 w =>
 kLd P 28 t11x6 t69 w <|
 Bs P 31 2 [(0, t70x1), (1, t71x2)] w fun t72x3 w =>
 kLd P 28 t11x6 t69 w <|
 Cl P 24 #[t69, t72x3] w (Pk R) fun t73x4 w =>
 ExP t73x4 0 fun t74x4 =>
 ExP t73x4 1 fun t75x4 =>
 ExP t73x4 2 fun t76x4 =>
 Sto P 28 t14x4 t74x4 w fun w =>
 k3 t14x4 t75x4 t76x4 w))
 (fun t14x5 t15 t16 w =>
 Ld P 28 t14x5 w fun t78 w =>
 Ld P 30 t3 w fun t79 w =>
 Cl P 22 #[t78, t79] w (Pk R) fun t80 w =>
 Ex t80 0 w fun t81 w =>
 Ex t80 1 w fun t82 w =>
 Al P 28 w fun t17 w =>
 Sto P 28 t17 t81 w fun w =>
 Ld P 28 t17 w fun t84 w =>
 Ld P 30 t3 w fun t85 w =>
 Cl P 22 #[t84, t85] w (Pk R) fun t86 w =>
 Ex t86 0 w fun t87 w =>
 Ex t86 1 w fun t88 w =>
 Al P 28 w fun t19 w =>
 Sto P 28 t19 t87 w fun w =>
 Cl P 30 #[(.int .i64 3), (.int .i64 2)] w (Pk R) fun t90 w =>
 Cl P 17 #[t90] w (Pk R) fun t91 w =>
 Ex t91 0 w fun t92 w =>
 Ex t91 1 w fun t93 w =>
 Al P 28 w fun t21 w =>
 Sto P 28 t21 t92 w fun w =>
 Bn P .neq 46 true t33 (.int .i64 0) w fun t95 w =>
 Gd t95 false (fun k => k t43 w) w fun t97 w =>
 Gd t95 false (fun k => Bn P .neq 46 true t97 (.int .i64 0) w k) w fun t98 w =>
 Pick t95 (.bool true) t98 w fun t99 w =>
 Gd t99 false (fun k => k t48 w) w fun t101 w =>
 Gd t99 false (fun k => Bn P .neq 46 true t101 (.int .i64 0) w k) w fun t102 w =>
 Pick t99 (.bool true) t102 w fun t103 w =>
 Gd t103 false (fun k => k t10 w) w fun t105 w =>
 Gd t103 false (fun k => Bn P .neq 46 true t105 (.int .i64 0) w k) w fun t106 w =>
 Pick t103 (.bool true) t106 w fun t107 w =>
 Gd t107 false (fun k => k t13 w) w fun t109 w =>
 Gd t107 false (fun k => Bn P .neq 46 true t109 (.int .i64 0) w k) w fun t110 w =>
 Pick t107 (.bool true) t110 w fun t111 w =>
 Gd t111 false (fun k => k t16 w) w fun t113 w =>
 Gd t111 false (fun k => Bn P .neq 46 true t113 (.int .i64 0) w k) w fun t114 w =>
 Pick t111 (.bool true) t114 w fun t115 w =>
 Gd t115 false (fun k => k t82 w) w fun t117 w =>
 Gd t115 false (fun k => Bn P .neq 46 true t117 (.int .i64 0) w k) w fun t118 w =>
 Pick t115 (.bool true) t118 w fun t119 w =>
 Gd t119 false (fun k => k t88 w) w fun t121 w =>
 Gd t119 false (fun k => Bn P .neq 46 true t121 (.int .i64 280) w k) w fun t122 w =>
 Pick t119 (.bool true) t122 w fun t123 w =>
 Gd t123 false (fun k => k t93 w) w fun t125 w =>
 Gd t123 false (fun k => Bn P .neq 46 true t125 (.int .i64 280) w k) w fun t126 w =>
 Pick t123 (.bool true) t126 w fun t127 w =>
 If t127
 (R (.returned (.bool false)) w)
 (Fa P 28 t8x5 1 w fun t128 w =>
 Ld P 26 t128 w fun t129 w =>
 Bt P .len #[26] 3 #[t129] w fun t130 w =>
 Bn P .neq 3 true t130 (.int .i64 1) w fun t131 w =>
 Gd t131 false (fun k => Fa P 28 t11x6 1 w k) w fun t133 w =>
 Gd t131 false (fun k => Ld P 26 t133 w k) w fun t134 w =>
 Gd t131 false (fun k => Bt P .len #[26] 3 #[t134] w k) w fun t135 w =>
 Gd t131 false (fun k => Bn P .neq 3 true t135 (.int .i64 1) w k) w fun t136 w =>
 Pick t131 (.bool true) t136 w fun t137 w =>
 Gd t137 false (fun k => Fa P 28 t14x5 1 w k) w fun t139 w =>
 Gd t137 false (fun k => Ld P 26 t139 w k) w fun t140 w =>
 Gd t137 false (fun k => Bt P .len #[26] 3 #[t140] w k) w fun t141 w =>
 Gd t137 false (fun k => Bn P .neq 3 true t141 (.int .i64 1) w k) w fun t142 w =>
 Pick t137 (.bool true) t142 w fun t143 w =>
 Gd t143 false (fun k => Fa P 28 t17 1 w k) w fun t145 w =>
 Gd t143 false (fun k => Ld P 26 t145 w k) w fun t146 w =>
 Gd t143 false (fun k => Bt P .len #[26] 3 #[t146] w k) w fun t147 w =>
 Gd t143 false (fun k => Bn P .neq 3 true t147 (.int .i64 2) w k) w fun t148 w =>
 Pick t143 (.bool true) t148 w fun t149 w =>
 Gd t149 false (fun k => k t9 w) w fun t151 w =>
 Gd t149 false (fun k => Bt P .len #[33] 3 #[t151] w k) w fun t152 w =>
 Gd t149 false (fun k => Bn P .gtr 3 true t152 (.int .i64 0) w k) w fun t153 w =>
 Pick t149 (.bool true) t153 w fun t154 w =>
 Gd t154 false (fun k => k t12 w) w fun t156 w =>
 Gd t154 false (fun k => Bt P .len #[33] 3 #[t156] w k) w fun t157 w =>
 Gd t154 false (fun k => Bn P .gtr 3 true t157 (.int .i64 0) w k) w fun t158 w =>
 Pick t154 (.bool true) t158 w fun t159 w =>
 If t159
 (R (.returned (.bool false)) w)
 (dFl P 28 t8x5 1 w.drew fun t160 =>
 dL P 26 t160 w.drew fun t161 =>
 Dv P true (Instr.indexAt 26 t161 (.int .i64 0)) w.drew fun t162 =>
 dFl P 30 t162 9 w.drew fun t163 =>
 dL P 25 t163 w.drew fun t164 =>
 Cl P 30 #[(.int .i64 5), (.int .i64 4)] w.drew (Pk R) fun t165 w =>
 kLd P 26 t160 t161 w <|
 kLd P 25 t163 t164 w <|
 Dv P false (bn .eql 25 false t164 t165) w fun t166 =>
 GdP t166 true (fun k => dFl P 28 t11x6 1 w k) fun t168 =>
 GdP t166 true (fun k => dL P 26 t168 w k) fun t169 =>
 GdP t166 true (fun k => Dv P true (Instr.indexAt 26 t169 (.int .i64 0)) w k) fun t170 =>
 GdP t166 true (fun k => dFl P 30 t170 9 w k) fun t171 =>
 GdP t166 true (fun k => dL P 25 t171 w k) fun t172 =>
 Gd t166 true (fun k => Cl P 30 #[(.int .i64 625), (.int .i64 32)] w (Pk R) k) w fun t173 w =>
 Kg t166 true P (Instr.loadAt 26 t168) t169 w <|
 Kg t166 true P (Instr.loadAt 25 t171) t172 w <|
 GdP t166 true (fun k => Dv P false (bn .eql 25 false t172 t173) w k) fun t174 =>
 PickP t166 t174 (.bool false) fun t175 =>
 GdP t175 true (fun k => dFl P 28 t14x5 1 w k) fun t177 =>
 GdP t175 true (fun k => dL P 26 t177 w k) fun t178 =>
 GdP t175 true (fun k => Dv P true (Instr.indexAt 26 t178 (.int .i64 0)) w k) fun t179 =>
 GdP t175 true (fun k => dFl P 30 t179 9 w k) fun t180 =>
 GdP t175 true (fun k => dL P 25 t180 w k) fun t181 =>
 Gd t175 true (fun k => Cl P 30 #[(.int .i64 3125), (.int .i64 64)] w (Pk R) k) w fun t182 w =>
 Kg t175 true P (Instr.loadAt 26 t177) t178 w <|
 Kg t175 true P (Instr.loadAt 25 t180) t181 w <|
 GdP t175 true (fun k => Dv P false (bn .eql 25 false t181 t182) w k) fun t183 =>
 PickP t175 t183 (.bool false) fun t184 =>
 Fa P 28 t14x5 1 w fun t185 w =>
 Ld P 26 t185 w fun t186 w =>
 Ia P 26 t186 (.int .i64 0) w fun t187 w =>
 Ld P 30 t187 w fun t188 w =>
 Al P 30 w fun t24 w =>
 Sto P 30 t24 t188 w fun w =>
 Cl P 33 #[(.int .i64 0), (.int .i64 101), (.int .i64 101)] w (Pk R) fun t190 w =>
 Cl P 33 #[(.int .i64 1), (.int .i64 90), (.int .i64 110)] w (Pk R) fun t191 w =>
 Cl P 33 #[(.int .i64 2), (.int .i64 5), (.int .i64 6)] w (Pk R) fun t192 w =>
 Bs P 31 3 [(0, t190), (1, t191), (2, t192)] w fun t193 w =>
 Cl P 28 #[t193, (.int .i64 1), (.int .i64 2), (.int .i64 100)] w (Pk R) fun t194 w =>
 Ex t194 0 w fun t195 w =>
 Ex t194 1 w fun t196 w =>
 Ex t194 2 w fun t197 w =>
 Ex t194 3 w fun t198 w =>
 GdP t184 true (fun k => dFl P 30 t24 10 w.drew k) fun t201 =>
 GdP t184 true (fun k => dL P 4 t201 w.drew k) fun t202 =>
 PickP t184 t202 (.bool false) fun t203 =>
 GdP t203 true (fun k => dFl P 30 t24 8 w.drew k) fun t205 =>
 GdP t203 true (fun k => dL P 3 t205 w.drew k) fun t206 =>
 GdP t203 true (fun k => Dv P true (bn .eql 3 true t206 (.int .i64 6)) w.drew k) fun t207 =>
 PickP t203 t207 (.bool false) fun t208 =>
 GdP t208 true (fun k => dFl P 30 t24 7 w.drew k) fun t210 =>
 GdP t208 true (fun k => dL P 3 t210 w.drew k) fun t211 =>
 GdP t208 true (fun k => Dv P true (bn .eql 3 true t211 (.int .i64 6)) w.drew k) fun t212 =>
 PickP t208 t212 (.bool false) fun t213 =>
 GdP t213 true (fun k => k t15) fun t215 =>
 Gd t213 true (fun k => Bs P 33 1 [(0, (.int .i64 0))] w.drew k) w.drew fun t216 w =>
 Gd t213 true (fun k => Cl P 26 #[t215, t216] w (Pk R) k) w fun t217 w =>
 PickP t213 t217 (.bool false) fun t218 =>
 GdP t218 true (fun k => dL P 25 t6 w k) fun t220 =>
 Gd t218 true (fun k => Cl P 30 #[(.int .i64 1), (.int .i64 20)] w (Pk R) k) w fun t221 w =>
 Kg t218 true P (Instr.loadAt 25 t6) t220 w <|
 GdP t218 true (fun k => Dv P false (bn .eql 25 false t220 t221) w k) fun t222 =>
 PickP t218 t222 (.bool false) fun t223 =>
 GdP t223 true (fun k => dFl P 28 t17 1 w k) fun t225 =>
 GdP t223 true (fun k => dL P 26 t225 w k) fun t226 =>
 GdP t223 true (fun k => Dv P true (Instr.indexAt 26 t226 (.int .i64 1)) w k) fun t227 =>
 GdP t223 true (fun k => dFl P 30 t227 6 w k) fun t228 =>
 GdP t223 true (fun k => dL P 3 t228 w k) fun t229 =>
 GdP t223 true (fun k => Dv P true (bn .eql 3 true t229 (.int .i64 6)) w k) fun t230 =>
 PickP t223 t230 (.bool false) fun t231 =>
 GdP t231 true (fun k => dL P 28 t14x5 w k) fun t233 =>
 Gd t231 true (fun k => Cl P 13 #[t233] w (Pk R) k) w fun t234 w =>
 PickP t231 t234 (.bool false) fun t235 =>
 GdP t235 true (fun k => Dv P true (Instr.build 28 #[]) w k) fun t237 =>
 Gd t235 true (fun k => Cl P 13 #[t237] w (Pk R) k) w fun t238 w =>
 GdP t235 true (fun k => Dv P true (Op.unary .not t238) w k) fun t239 =>
 PickP t235 t239 (.bool false) fun t240 =>
 GdP t240 true (fun k => dL P 28 t14x5 w k) fun t242 =>
 GdP t240 true (fun k => dL P 28 t14x5 w k) fun t243 =>
 Gd t240 true (fun k => Cl P 15 #[t242, t243] w (Pk R) k) w fun t244 w =>
 PickP t240 t244 (.bool false) fun t245 =>
 GdP t245 true (fun k => dL P 28 t14x5 w k) fun t247 =>
 GdP t245 true (fun k => dL P 28 t11x6 w k) fun t248 =>
 Gd t245 true (fun k => Cl P 15 #[t247, t248] w (Pk R) k) w fun t249 w =>
 GdP t245 true (fun k => Dv P true (Op.unary .not t249) w k) fun t250 =>
 PickP t245 t250 (.bool false) fun t251 =>
 GdP t251 true (fun k => k t198) fun t253 =>
 GdP t251 true (fun k => Dv P true (bn .eql 46 true t253 (.int .i64 0)) w k) fun t254 =>
 PickP t251 t254 (.bool false) fun t255 =>
 GdP t255 true (fun k => k t195) fun t257 =>
 GdP t255 true (fun k => Dv P true (bn .eql 3 true t257 (.int .i64 1)) w k) fun t258 =>
 PickP t255 t258 (.bool false) fun t259 =>
 GdP t259 true (fun k => k t196) fun t261 =>
 GdP t259 true (fun k => Dv P true (bn .eql 3 true t261 (.int .i64 2)) w k) fun t262 =>
 PickP t259 t262 (.bool false) fun t263 =>
 GdP t263 true (fun k => k t197) fun t265 =>
 GdP t263 true (fun k => Dv P true (bn .eql 3 true t265 (.int .i64 3)) w k) fun t266 =>
 PickP t263 t266 (.bool false) fun t267 =>
 R (.returned t267) w)))))
theorem e_law28_sane (h : s_law28_sane Tryz.prog  w R) : Calls Tryz.prog 9 #[] w R :=
 en1 (.sq .z (.sq .z (.sq .z (.sq .z (.sq .z (.jn [8, 9, 10] [49, 50, 51, 52, 53, 54, 55, 56, 57] (.dr (.pur false 0 (.alt (.eff 1 [0] (.alt (.eff 2 [0] (.alt (.eff 3 [0] (.alt (.eff 4 [] (.pur true 5 (.pur true 6 (.pur true 7 (.pur true 8 (.eff 9 [0] (.eff 10 [] (.pur true 11 (.pur true 12 .done))))))))) (.eff 9 [0] (.eff 4 [] (.pur true 5 (.pur true 6 (.pur true 7 (.pur true 8 (.eff 10 [] (.pur true 11 (.pur true 12 .done))))))))))) (.eff 9 [0] (.eff 3 [0] (.eff 4 [] (.pur true 5 (.pur true 6 (.pur true 7 (.pur true 8 (.eff 10 [] (.pur true 11 (.pur true 12 .done)))))))))))) (.eff 9 [0] (.eff 2 [0] (.eff 3 [0] (.eff 4 [] (.pur true 5 (.pur true 6 (.pur true 7 (.pur true 8 (.eff 10 [] (.pur true 11 (.pur true 12 .done))))))))))))) (.eff 9 [0] (.eff 1 [0] (.eff 2 [0] (.eff 3 [0] (.eff 4 [] (.pur true 5 (.pur true 6 (.pur true 7 (.pur true 8 (.eff 10 [] (.pur true 11 (.pur true 12 .done))))))))))))))) (.jn [11, 12, 13] [58, 59, 60, 61, 62, 63, 64, 65, 66, 67] (.dr (.pur false 0 (.alt (.eff 1 [0] (.alt (.eff 2 [0] (.alt (.eff 3 [0] (.alt (.eff 4 [0] (.alt (.eff 5 [] (.pur true 6 (.pur true 7 (.pur true 8 (.pur true 9 (.eff 10 [0] (.eff 11 [] (.pur true 12 (.pur true 13 .done))))))))) (.eff 10 [0] (.eff 5 [] (.pur true 6 (.pur true 7 (.pur true 8 (.pur true 9 (.eff 11 [] (.pur true 12 (.pur true 13 .done))))))))))) (.eff 10 [0] (.eff 4 [0] (.eff 5 [] (.pur true 6 (.pur true 7 (.pur true 8 (.pur true 9 (.eff 11 [] (.pur true 12 (.pur true 13 .done)))))))))))) (.eff 10 [0] (.eff 3 [0] (.eff 4 [0] (.eff 5 [] (.pur true 6 (.pur true 7 (.pur true 8 (.pur true 9 (.eff 11 [] (.pur true 12 (.pur true 13 .done))))))))))))) (.eff 10 [0] (.eff 2 [0] (.eff 3 [0] (.eff 4 [0] (.eff 5 [] (.pur true 6 (.pur true 7 (.pur true 8 (.pur true 9 (.eff 11 [] (.pur true 12 (.pur true 13 .done)))))))))))))) (.eff 10 [0] (.eff 1 [0] (.eff 2 [0] (.eff 3 [0] (.eff 4 [0] (.eff 5 [] (.pur true 6 (.pur true 7 (.pur true 8 (.pur true 9 (.eff 11 [] (.pur true 12 (.pur true 13 .done)))))))))))))))) (.jn [14, 15, 16] [68, 69, 70, 71, 72, 73, 74, 75, 76] (.dr (.pur false 0 (.alt (.eff 1 [0] (.alt (.eff 2 [0] (.alt (.eff 3 [0] (.alt (.eff 4 [] (.pur true 5 (.pur true 6 (.pur true 7 (.pur true 8 (.eff 9 [0] (.eff 10 [] (.pur true 11 (.pur true 12 .done))))))))) (.eff 9 [0] (.eff 4 [] (.pur true 5 (.pur true 6 (.pur true 7 (.pur true 8 (.eff 10 [] (.pur true 11 (.pur true 12 .done))))))))))) (.eff 9 [0] (.eff 3 [0] (.eff 4 [] (.pur true 5 (.pur true 6 (.pur true 7 (.pur true 8 (.eff 10 [] (.pur true 11 (.pur true 12 .done)))))))))))) (.eff 9 [0] (.eff 2 [0] (.eff 3 [0] (.eff 4 [] (.pur true 5 (.pur true 6 (.pur true 7 (.pur true 8 (.eff 10 [] (.pur true 11 (.pur true 12 .done))))))))))))) (.eff 9 [0] (.eff 1 [0] (.eff 2 [0] (.eff 3 [0] (.eff 4 [] (.pur true 5 (.pur true 6 (.pur true 7 (.pur true 8 (.eff 10 [] (.pur true 11 (.pur true 12 .done))))))))))))))) (.sq .z (.sq .z (.sq .z (.sq (.sq .z (.cd (.sq .z .z) .z)) (.sq (.sq .z (.cd (.sq .z .z) .z)) (.sq (.dr (.pur true 0 (.pur false 1 (.pur true 2 (.pur true 3 (.pur false 4 (.eff 5 [1, 4] (.pur false 6 (.pur true 7 (.pur true 8 (.pur false 9 (.pur true 10 (.pur true 11 (.pur false 12 (.eff 13 [9, 12] (.pur false 14 (.pur true 15 (.pur true 16 (.pur true 17 (.pur false 18 (.pur true 19 (.pur true 20 (.pur false 21 (.eff 22 [18, 21] (.pur false 23 (.pur true 24 (.pur true 25 .done))))))))))))))))))))))))))) (.sq .z (.sq .z (.sq (.dr (.pur true 0 (.pur true 1 (.pur true 2 (.pur false 3 (.pur true 4 (.pur true 5 (.pur true 6 (.pur false 7 (.pur true 8 (.pur true 9 (.pur true 10 (.pur true 11 (.pur false 12 (.pur true 13 (.pur true 14 (.pur true 15 (.pur true 16 (.eff 17 [] (.eff 18 [] (.pur true 19 (.pur true 20 (.pur false 21 (.eff 22 [21] (.pur false 23 (.pur true 24 (.pur true 25 (.pur true 26 (.pur false 27 (.pur true 28 (.pur true 29 (.pur false 30 (.pur true 31 (.pur true 32 (.pur true 33 (.pur false 34 (.eff 35 [] (.pur true 36 (.pur true 37 (.pur true 38 (.eff 39 [] (.pur true 40 (.pur true 41 (.pur true 42 (.pur false 43 (.pur false 44 (.eff 45 [] (.pur true 46 (.pur true 47 (.pur false 48 (.pur false 49 (.eff 50 [] (.pur true 51 (.pur true 52 (.pur true 53 (.pur true 54 (.pur true 55 (.pur true 56 (.pur true 57 (.pur true 58 (.pur true 59 (.pur true 60 (.pur true 61 (.pur true 62 (.pur true 63 (.pur true 64 (.pur true 65 (.pur true 66 (.pur true 67 (.pur true 68 (.pur true 69 .done))))))))))))))))))))))))))))))))))))))))))))))))))))))))))))))))))))))) .z))))))))))))))))) [] Tryz.func9 (by kernel_rfl) (by kernel_rfl) h
theorem n_law28_sane : Enters Tryz.prog 9 := enters_of Tryz.func9 (by kernel_rfl) rfl
def s_law28_begin (P : Program) (t0 t1 : Value) (w : World) (R : Ending → World → Prop) : Prop :=
 Al P 35 w fun t4 w =>
 Cl P 27 #[t0, (.int .i64 20)] w (Pk R) fun t10 w =>
 Bn P .add 3 true (.int .i64 1) t10 w fun t11 w =>
 Cl P 30 #[t11, (.int .i64 20)] w (Pk R) fun t12 w =>
 Cl P 17 #[t12] w (Pk R) fun t13 w =>
 Ex t13 0 w fun t14 w =>
 Ex t13 1 w fun t15 w =>
 Al P 28 w fun t6 w =>
 Sto P 28 t6 t14 w fun w =>
 dL P 28 t6 w.drew fun t16 =>
 Dv P true (bn .eql 46 true t15 (.int .i64 0)) w.drew fun t21 =>
 Cl P 37 #[(.int .i64 0), t1] w.drew (Pk R) fun t18 w =>
 kLd P 28 t6 t16 w <|
 Dv P true (Instr.build 35 #[(0, t16), (1, t18)]) w fun t19 =>
 Sto P 35 t4 t19 w fun w =>
 Rc P 35 t4 w fun r0 =>
 R (.returned (.tuple #[r0, t21])) w
theorem e_law28_begin (h : s_law28_begin Tryz.prog t0 t1 w R) : Calls Tryz.prog 10 #[t0, t1] w R :=
 en1 (.sq .z (.sq .z (.sq (.dr (.pur false 0 (.pur true 1 (.pur true 4 (.pur true 5 (.eff 2 [0] (.pur true 3 (.eff 6 [] (.pur true 7 .done))))))))) .z))) [t0, t1] Tryz.func10 (by kernel_rfl) (by kernel_rfl) h
theorem n_law28_begin : Enters Tryz.prog 10 := enters_of Tryz.func10 (by kernel_rfl) rfl
def s_law28_world_does (P : Program) (t0 t1 : Value) (w : World) (R : Ending → World → Prop) : Prop :=
 Bx P 35 t0 w fun t2 w =>
 Bx P 41 t1 w fun t3 w =>
 Al P 35 w fun t4 w =>
 Fa P 41 t3 0 w fun t13 w =>
 Ld P 3 t13 w fun t14 w =>
 Cl P 27 #[t14, (.int .i64 4)] w (Pk R) fun t15 w =>
 Bn P .eql 3 true t15 (.int .i64 0) w fun t16 w =>
 If t16
 (Jn2 (fun k1 =>
 dFl P 35 t2 0 w.drew fun t18 =>
 dL P 28 t18 w.drew fun t19 =>
 dFl P 41 t3 1 w.drew fun t20 =>
 dL P 39 t20 w.drew fun t21 =>
 (Cl P 21 #[t21] w.drew (Pk R) fun t22 w =>
 kLd P 28 t18 t19 w <|
 (Cl P 22 #[t19, t22] w (Pk R) fun t23 w =>
 ExP t23 0 fun t24 =>
 ExP t23 1 fun t25 =>
 Al P 28 w fun t6 w =>
 kLd P 28 t18 t19 w <|
 kLd P 39 t20 t21 w <|
 Sto P 28 t6 t24 w fun w =>
 k1 t6 t25 w) ∧
 (Al P 28 w fun t6x1 w =>
 kLd P 28 t18 t19 w <|
 kLd P 39 t20 t21 w <|
 Cl P 22 #[t19, t22] w (Pk R) fun t23x1 w =>
 ExP t23x1 0 fun t24x1 =>
 ExP t23x1 1 fun t25x1 =>
 Sto P 28 t6x1 t24x1 w fun w =>
 k1 t6x1 t25x1 w)) ∧
 (Al P 28 w.drew fun t6x2 w =>
 kLd P 28 t18 t19 w <|
 kLd P 39 t20 t21 w <|
 Cl P 21 #[t21] w (Pk R) fun t22x1 w =>
 kLd P 28 t18 t19 w <|
 Cl P 22 #[t19, t22x1] w (Pk R) fun t23x2 w =>
 ExP t23x2 0 fun t24x2 =>
 ExP t23x2 1 fun t25x2 =>
 Sto P 28 t6x2 t24x2 w fun w =>
 k1 t6x2 t25x2 w))
 (fun t6x3 t7 w =>
 Bn P .eql 46 true t7 (.int .i64 0) w fun t27 w =>
 If t27
 (Ld P 28 t6x3 w fun t28 w =>
 Fa P 35 t2 0 w fun t29 w =>
 Sto P 28 t29 t28 w fun w =>
 Ld P 35 t2 w fun t30 w =>
 Sto P 35 t4 t30 w fun w =>
 Rc P 35 t4 w fun r0 =>
 R (.returned (.tuple #[r0, (.bool true)])) w)
 (Ld P 35 t2 w fun t30x1 w =>
 Sto P 35 t4 t30x1 w fun w =>
 Rc P 35 t4 w fun r0 =>
 R (.returned (.tuple #[r0, (.bool true)])) w)))
 (Fa P 35 t2 2 w fun t31 w =>
 Ld P 3 t31 w fun t32 w =>
 dFl P 35 t2 1 w.drew fun t33 =>
 dL P 31 t33 w.drew fun t34 =>
 Dv P true (bV .len #[31] 3 #[t34]) w.drew fun t35 =>
 dFl P 35 t2 2 w.drew fun t36 =>
 dL P 3 t36 w.drew fun t37 =>
 dFl P 41 t3 2 w.drew fun t38 =>
 dL P 3 t38 w.drew fun t39 =>
 Cl P 27 #[t39, (.int .i64 6)] w.drew (Pk R) fun t40 w =>
 kLd P 31 t33 t34 w <|
 kLd P 3 t36 t37 w <|
 Dv P true (bn .add 3 false t37 t40) w fun t41 =>
 Dv P true (bV .min #[3, 3] 3 #[t35, t41]) w fun t42 =>
 Jn2 (fun k2 =>
 Fa P 41 t3 0 w fun t43 w =>
 Ld P 3 t43 w fun t44 w =>
 Cl P 27 #[t44, (.int .i64 4)] w (Pk R) fun t45 w =>
 Bn P .eql 3 true t45 (.int .i64 1) w fun t46 w =>
 If t46
 (Fa P 41 t3 2 w fun t47 w =>
 Ld P 3 t47 w fun t48 w =>
 Fa P 35 t2 2 w fun t49 w =>
 Ld P 3 t49 w fun t50 w =>
 Bn P .add 3 true t50 (.int .i64 1) w fun t51 w =>
 Cl P 27 #[t48, t51] w (Pk R) fun t52 w =>
 Fa P 35 t2 2 w fun t53 w =>
 Ld P 3 t53 w fun t54 w =>
 k2 t52 t54 w)
 (k2 t32 t42 w))
 (fun t8 t9 w =>
 Jn3 (fun k3 =>
 dFl P 35 t2 0 w.drew fun t56 =>
 dL P 28 t56 w.drew fun t57 =>
 dFl P 35 t2 1 w.drew fun t58 =>
 dL P 31 t58 w.drew fun t59 =>
 Dv P true (Instr.sliceAt 31 t59 (some t8) (some t9) none) w.drew fun t62 =>
 (Cl P 24 #[t57, t62] w.drew (Pk R) fun t63 w =>
 ExP t63 0 fun t64 =>
 ExP t63 1 fun t65 =>
 ExP t63 2 fun t66 =>
 Al P 28 w fun t10 w =>
 kLd P 28 t56 t57 w <|
 kLd P 31 t58 t59 w <|
 Sto P 28 t10 t64 w fun w =>
 k3 t10 t65 t66 w) ∧
 (Al P 28 w.drew fun t10x1 w =>
 kLd P 28 t56 t57 w <|
 kLd P 31 t58 t59 w <|
 Cl P 24 #[t57, t62] w (Pk R) fun t63x1 w =>
 ExP t63x1 0 fun t64x1 =>
 ExP t63x1 1 fun t65x1 =>
 ExP t63x1 2 fun t66x1 =>
 Sto P 28 t10x1 t64x1 w fun w =>
 k3 t10x1 t65x1 t66x1 w))
 (fun t10x2 t11 t12 w =>
 Bn P .neq 46 true t12 (.int .i64 0) w fun t68 w =>
 If t68
 (Ld P 35 t2 w fun t69 w =>
 Sto P 35 t4 t69 w fun w =>
 Rc P 35 t4 w fun r0 =>
 R (.returned (.tuple #[r0, (.bool false)])) w)
 (Ld P 28 t10x2 w fun t70 w =>
 Fa P 35 t2 0 w fun t71 w =>
 Sto P 28 t71 t70 w fun w =>
 Fa P 35 t2 2 w fun t72 w =>
 Ld P 3 t72 w fun t73 w =>
 Bt P .max #[3, 3] 3 #[t73, t9] w fun t75 w =>
 Fa P 35 t2 2 w fun t76 w =>
 Sto P 3 t76 t75 w fun w =>
 Bs P 33 0 [] w fun t77 w =>
 Fa P 35 t2 3 w fun t78 w =>
 Ld P 33 t78 w fun t79 w =>
 Bt P .append #[33, 33] 33 #[t77, t79] w fun t80 w =>
 Bt P .append #[33, 33] 33 #[t80, t11] w fun t82 w =>
 Fa P 35 t2 3 w fun t83 w =>
 Sto P 33 t83 t82 w fun w =>
 Ld P 35 t2 w fun t84 w =>
 Sto P 35 t4 t84 w fun w =>
 Rc P 35 t4 w fun r0 =>
 R (.returned (.tuple #[r0, (.bool true)])) w))))
theorem e_law28_world_does (h : s_law28_world_does Tryz.prog t0 t1 w R) : Calls Tryz.prog 11 #[t0, t1] w R :=
 en1 (.sq .z (.sq (.sq .z (.cd (.jn [6, 7] [17, 18, 19, 20, 21, 22, 23, 24, 25] (.dr (.pur true 0 (.pur false 1 (.pur true 2 (.pur false 3 (.alt (.eff 4 [1] (.alt (.eff 5 [] (.pur true 6 (.pur true 7 (.pur true 8 (.eff 9 [1, 3] (.eff 10 [] (.pur true 11 .done))))))) (.eff 9 [1, 3] (.eff 5 [] (.pur true 6 (.pur true 7 (.pur true 8 (.eff 10 [] (.pur true 11 .done))))))))) (.eff 9 [1, 3] (.eff 4 [1] (.eff 5 [] (.pur true 6 (.pur true 7 (.pur true 8 (.eff 10 [] (.pur true 11 .done)))))))))))))) (.sq (.sq .z (.cd .z .z)) (.sq .z .z))) .z)) (.sq .z (.sq (.dr (.pur true 0 (.pur false 1 (.pur true 2 (.pur true 3 (.pur false 4 (.pur true 5 (.pur false 6 (.eff 7 [1, 4] (.pur true 8 (.pur true 9 (.pur true 10 .done)))))))))))) (.jn [8, 9] [43, 44, 45, 46, 47, 48, 49, 50, 51, 52, 53, 54] (.sq .z (.cd (.sq .z .z) .z)) (.jn [10, 11, 12] [55, 56, 57, 58, 59, 60, 61, 62, 63, 64, 65, 66] (.dr (.pur true 0 (.pur false 1 (.pur true 2 (.pur false 3 (.pur true 4 (.pur true 5 (.pur true 6 (.alt (.eff 7 [] (.pur true 8 (.pur true 9 (.pur true 10 (.pur true 11 (.eff 12 [1, 3] (.eff 13 [] (.pur true 14 (.pur true 15 .done))))))))) (.eff 12 [1, 3] (.eff 7 [] (.pur true 8 (.pur true 9 (.pur true 10 (.pur true 11 (.eff 13 [] (.pur true 14 (.pur true 15 .done)))))))))))))))))) (.sq (.sq .z (.cd (.sq .z .z) .z)) (.sq .z (.sq .z (.sq .z (.sq .z .z))))))))))) [t0, t1] Tryz.func11 (by kernel_rfl) (by kernel_rfl) h
theorem n_law28_world_does : Enters Tryz.prog 11 := enters_of Tryz.func11 (by kernel_rfl) rfl
def s_alarm_Same (P : Program) (t0 t1 : Value) (w : World) (R : Ending → World → Prop) : Prop :=
 Bx P 28 t0 w fun t2 w =>
 Bx P 28 t1 w fun t3 w =>
 Fa P 28 t2 0 w fun t5 w =>
 Ld P 25 t5 w fun t6 w =>
 Fa P 28 t3 0 w fun t7 w =>
 Ld P 25 t7 w fun t8 w =>
 Bn P .eql 25 false t6 t8 w fun t9 w =>
 Gd t9 true (fun k => Fa P 28 t2 1 w k) w fun t11 w =>
 Gd t9 true (fun k => Ld P 26 t11 w k) w fun t12 w =>
 Gd t9 true (fun k => Fa P 28 t3 1 w k) w fun t13 w =>
 Gd t9 true (fun k => Ld P 26 t13 w k) w fun t14 w =>
 Gd t9 true (fun k => Cl P 50 #[t12, t14] w (Pk R) k) w fun t15 w =>
 Pick t9 t15 (.bool false) w fun t16 w =>
 R (.returned t16) w
theorem e_alarm_Same (h : s_alarm_Same Tryz.prog t0 t1 w R) : Calls Tryz.prog 15 #[t0, t1] w R :=
 en1 (.sq .z (.sq .z .z)) [t0, t1] Tryz.func15 (by kernel_rfl) (by kernel_rfl) h
theorem n_alarm_Same : Enters Tryz.prog 15 := enters_of Tryz.func15 (by kernel_rfl) rfl
def s_alarm_Open (P : Program) (t0 : Value) (w : World) (R : Ending → World → Prop) : Prop :=
 Bx P 25 t0 w fun t1 w =>
 Al P 28 w fun t2 w =>
 Ld P 25 t1 w fun t4 w =>
 Bd P 28 [(0, t4)] w fun t5 w =>
 Bd P 93 [(0, t5)] w fun t6 w =>
 Bx P 93 t6 w fun t7 w =>
 Cl P 51 #[t7] w (Pk R) fun t8 w =>
 Ex t8 0 w fun t9 w =>
 Ex t8 1 w fun t10 w =>
 Sto P 28 t2 t9 w fun w =>
 Rc P 28 t2 w fun r0 =>
 R (.returned (.tuple #[r0, t10])) w
theorem e_alarm_Open (h : s_alarm_Open Tryz.prog t0 w R) : Calls Tryz.prog 17 #[t0] w R :=
 en1 (.sq .z (.sq .z .z)) [t0] Tryz.func17 (by kernel_rfl) (by kernel_rfl) h
theorem n_alarm_Open : Enters Tryz.prog 17 := enters_of Tryz.func17 (by kernel_rfl) rfl
def s_alarm_Left (P : Program) (t0 : Value) (w : World) (R : Ending → World → Prop) : Prop :=
 Bx P 28 t0 w fun t1 w =>
 Al P 25 w fun t2 w =>
 Ld P 28 t1 w fun t4 w =>
 Cl P 13 #[t4] w (Pk R) fun t5 w =>
 Un P .not t5 w fun t6 w =>
 If t6
 (Bd P 25 [] w fun t7 w =>
 Sto P 25 t2 t7 w fun w =>
 Rc P 25 t2 w fun r0 =>
 R (.returned (.tuple #[r0, (.int .i64 280)])) w)
 (dFl P 28 t1 0 w.drew fun t8 =>
 dL P 25 t8 w.drew fun t9 =>
 dL P 28 t1 w.drew fun t10 =>
 Cl P 45 #[t10] w.drew (Pk R) fun t11 w =>
 kLd P 25 t8 t9 w <|
 Cl P 31 #[t9, t11] w (Pk R) fun t12 w =>
 ExP t12 0 fun t13 =>
 ExP t12 1 fun t14 =>
 Cl P 52 #[t13, t14] w (Pk R) fun t15 w =>
 Sto P 25 t2 t15 w fun w =>
 Rc P 25 t2 w fun r0 =>
 R (.returned (.tuple #[r0, (.int .i64 0)])) w)
theorem e_alarm_Left (h : s_alarm_Left Tryz.prog t0 w R) : Calls Tryz.prog 19 #[t0] w R :=
 en1 (.sq .z (.sq (.sq .z (.cd (.sq .z .z) .z)) (.sq (.dr (.pur true 0 (.pur false 1 (.pur false 2 (.eff 3 [1] (.eff 4 [] (.pur true 5 (.pur true 6 (.eff 7 [] (.eff 8 [] (.pur true 9 .done))))))))))) .z))) [t0] Tryz.func19 (by kernel_rfl) (by kernel_rfl) h
theorem n_alarm_Left : Enters Tryz.prog 19 := enters_of Tryz.func19 (by kernel_rfl) rfl
def s_ref28_Watch (P : Program) (t0 : Value) (w : World) (R : Ending → World → Prop) : Prop :=
 Bx P 39 t0 w fun t1 w =>
 Al P 30 w fun t2 w =>
 Jn1 (fun k1 =>
 Dv P true (Instr.indexAt 39 t1 (.int .i64 0)) w.drew fun t5 =>
 dL P 3 t5 w.drew fun t6 =>
 Dv P true (Instr.indexAt 39 t1 (.int .i64 0)) w.drew fun t8 =>
 dL P 3 t8 w.drew fun t9 =>
 Dv P true (bn .quo 3 true t9 (.int .i64 2)) w.drew fun t10 =>
 Dv P true (Instr.indexAt 39 t1 (.int .i64 1)) w.drew fun t12 =>
 dL P 3 t12 w.drew fun t13 =>
 (Cl P 54 #[t6, (.int .i64 2)] w.drew (Pk R) fun t7 w =>
 kLd P 3 t8 t9 w <|
 kLd P 3 t12 t13 w <|
 (Cl P 54 #[t10, (.int .i64 2)] w (Pk R) fun t11 w =>
 kLd P 3 t12 t13 w <|
 (Cl P 54 #[t13, (.int .i64 40)] w (Pk R) fun t14 w =>
 Dv P true (Instr.build 30 #[(0, t7), (1, t11), (2, t14), (6, (.int .i64 (-1)))]) w fun t15 =>
 Al P 30 w fun t3 w =>
 kLd P 3 t5 t6 w <|
 kLd P 3 t8 t9 w <|
 kLd P 3 t12 t13 w <|
 Sto P 30 t3 t15 w fun w =>
 k1 t3 w) ∧
 (Al P 30 w fun t3x1 w =>
 kLd P 3 t5 t6 w <|
 kLd P 3 t8 t9 w <|
 kLd P 3 t12 t13 w <|
 Cl P 54 #[t13, (.int .i64 40)] w (Pk R) fun t14x1 w =>
 Dv P true (Instr.build 30 #[(0, t7), (1, t11), (2, t14x1), (6, (.int .i64 (-1)))]) w fun t15x1 =>
 Sto P 30 t3x1 t15x1 w fun w =>
 k1 t3x1 w)) ∧
 (Al P 30 w fun t3x2 w =>
 kLd P 3 t5 t6 w <|
 kLd P 3 t8 t9 w <|
 kLd P 3 t12 t13 w <|
 Cl P 54 #[t10, (.int .i64 2)] w (Pk R) fun t11x1 w =>
 kLd P 3 t12 t13 w <|
 Cl P 54 #[t13, (.int .i64 40)] w (Pk R) fun t14x2 w =>
 Dv P true (Instr.build 30 #[(0, t7), (1, t11x1), (2, t14x2), (6, (.int .i64 (-1)))]) w fun t15x2 =>
 Sto P 30 t3x2 t15x2 w fun w =>
 k1 t3x2 w)) ∧
 (Al P 30 w.drew fun t3x3 w =>
 kLd P 3 t5 t6 w <|
 kLd P 3 t8 t9 w <|
 kLd P 3 t12 t13 w <|
 Cl P 54 #[t6, (.int .i64 2)] w (Pk R) fun t7x1 w =>
 kLd P 3 t8 t9 w <|
 kLd P 3 t12 t13 w <|
 Cl P 54 #[t10, (.int .i64 2)] w (Pk R) fun t11x2 w =>
 kLd P 3 t12 t13 w <|
 Cl P 54 #[t13, (.int .i64 40)] w (Pk R) fun t14x3 w =>
 Dv P true (Instr.build 30 #[(0, t7x1), (1, t11x2), (2, t14x3), (6, (.int .i64 (-1)))]) w fun t15x3 =>
 Sto P 30 t3x3 t15x3 w fun w =>
 k1 t3x3 w))
 (fun t3x4 w =>
 Ia P 39 t1 (.int .i64 2) w fun t16 w =>
 Ld P 3 t16 w fun t17 w =>
 Cl P 54 #[t17, (.int .i64 3)] w (Pk R) fun t18 w =>
 Bn P .add 3 true (.int .i64 2) t18 w fun t19 w =>
 Cl P 55 #[(.int .i64 1), t19] w (Pk R) fun t21 w =>
 Fa P 30 t3x4 3 w fun t22 w =>
 Sto P 25 t22 t21 w fun w =>
 Bs P 33 6 [(0, (.int .i64 2)), (1, (.int .i64 3)), (2, (.int .i64 4)), (3, (.int .i64 5)), (4, (.int .i64 10)), (5, (.int .i64 20))] w fun t23 w =>
 Ia P 39 t1 (.int .i64 3) w fun t24 w =>
 Ld P 3 t24 w fun t25 w =>
 Cl P 54 #[t25, (.int .i64 6)] w (Pk R) fun t26 w =>
 Ia P 33 t23 t26 w fun t27 w =>
 Ld P 3 t27 w fun t28 w =>
 Cl P 55 #[(.int .i64 1), t28] w (Pk R) fun t29 w =>
 Fa P 30 t3x4 4 w fun t30 w =>
 Sto P 25 t30 t29 w fun w =>
 Ia P 39 t1 (.int .i64 4) w fun t31 w =>
 Ld P 3 t31 w fun t32 w =>
 Bn P .mul 3 true (.int .i64 2) t19 w fun t34 w =>
 Bn P .add 3 true t34 (.int .i64 1) w fun t35 w =>
 Cl P 54 #[t32, t35] w (Pk R) fun t36 w =>
 Cl P 55 #[t36, (.int .i64 2)] w (Pk R) fun t37 w =>
 Fa P 30 t3x4 5 w fun t38 w =>
 Sto P 25 t38 t37 w fun w =>
 Ia P 39 t1 (.int .i64 5) w fun t39 w =>
 Ld P 3 t39 w fun t40 w =>
 Cl P 54 #[t40, (.int .i64 6)] w (Pk R) fun t41 w =>
 Bn P .eql 3 true t41 (.int .i64 0) w fun t42 w =>
 If t42
 (Ia P 39 t1 (.int .i64 5) w fun t43 w =>
 Ld P 3 t43 w fun t44 w =>
 Bn P .quo 3 true t44 (.int .i64 6) w fun t45 w =>
 Cl P 54 #[t45, (.int .i64 12)] w (Pk R) fun t46 w =>
 Fa P 30 t3x4 6 w fun t47 w =>
 Sto P 3 t47 t46 w fun w =>
 Ld P 30 t3x4 w fun t48 w =>
 Sto P 30 t2 t48 w fun w =>
 Rc P 30 t2 w fun r0 =>
 R (.returned r0) w)
 (Ld P 30 t3x4 w fun t48x1 w =>
 Sto P 30 t2 t48x1 w fun w =>
 Rc P 30 t2 w fun r0 =>
 R (.returned r0) w))
theorem e_ref28_Watch (h : s_ref28_Watch Tryz.prog t0 w R) : Calls Tryz.prog 21 #[t0] w R :=
 en1 (.sq .z (.jn [3] [5, 6, 7, 8, 9, 10, 11, 12, 13, 14, 15] (.dr (.pur true 0 (.pur false 1 (.pur true 3 (.pur false 4 (.pur true 5 (.pur true 7 (.pur false 8 (.alt (.eff 2 [4, 8] (.alt (.eff 6 [8] (.alt (.eff 9 [] (.pur true 10 (.eff 11 [1, 4, 8] (.eff 12 [] .done)))) (.eff 11 [1, 4, 8] (.eff 9 [] (.pur true 10 (.eff 12 [] .done)))))) (.eff 11 [1, 4, 8] (.eff 6 [8] (.eff 9 [] (.pur true 10 (.eff 12 [] .done))))))) (.eff 11 [1, 4, 8] (.eff 2 [4, 8] (.eff 6 [8] (.eff 9 [] (.pur true 10 (.eff 12 [] .done))))))))))))))) (.sq .z (.sq .z (.sq .z (.sq .z (.sq (.sq .z (.cd .z .z)) (.sq .z .z)))))))) [t0] Tryz.func21 (by kernel_rfl) (by kernel_rfl) h
theorem n_ref28_Watch : Enters Tryz.prog 21 := enters_of Tryz.func21 (by kernel_rfl) rfl
def s_alarm_Register (P : Program) (t0 t1 : Value) (w : World) (R : Ending → World → Prop) : Prop :=
 Bx P 28 t0 w fun t2 w =>
 Bx P 30 t1 w fun t3 w =>
 Al P 28 w fun t4 w =>
 Ld P 28 t2 w fun t9 w =>
 Cl P 13 #[t9] w (Pk R) fun t10 w =>
 Un P .not t10 w fun t11 w =>
 If t11
 (Bd P 28 [] w fun t12 w =>
 Sto P 28 t4 t12 w fun w =>
 Rc P 28 t4 w fun r0 =>
 R (.returned (.tuple #[r0, (.int .i64 280)])) w)
 (Ld P 28 t2 w fun t13 w =>
 Cl P 56 #[t13] w (Pk R) fun t14 w =>
 Cl P 57 #[t14] w (Pk R) fun t16 w =>
 Rf2 P t16 w (fun t17 t18 w next lv =>
 dFl P 30 t3 6 w.drew fun t19 =>
 dL P 3 t19 w.drew fun t20 =>
 NcP t18 fun t22 =>
 dFl P 30 t22 7 w.drew fun t23 =>
 dL P 3 t23 w.drew fun t24 =>
 Dv P true (bV .max #[3, 3] 3 #[t20, t24]) w.drew fun t25 =>
 dFl P 30 t3 6 w.drew fun t26 =>
 Sto P 3 t26 t25 w.drew fun w =>
 next w)
 (fun D1 w =>
 dFl P 30 t3 6 w.drew fun t27 =>
 dL P 3 t27 w.drew fun t28 =>
 Dv P false (Instr.loadAt 25 (.pointer (some ⟨0, 0, none⟩))) w.drew fun t29 =>
 dFl P 30 t3 4 w.drew fun t30 =>
 dL P 25 t30 w.drew fun t31 =>
 Dv P false (Instr.loadAt 25 (.pointer (some ⟨0, 0, none⟩))) w.drew fun t32 =>
 Dv P false (bn .eql 25 false t31 t32) w.drew fun t33 =>
 dFl P 30 t3 7 w.drew fun t34 =>
 Sto P 3 t34 t28 w.drew fun w =>
 Ke P (Instr.loadAt 25 (.pointer (some ⟨0, 0, none⟩))) t29 w <|
 Ke P (Instr.loadAt 25 (.pointer (some ⟨0, 0, none⟩))) t32 w <|
 Ke P (bn .eql 25 false t31 t32) t33 w <|
 dFl P 30 t3 8 w fun t35 =>
 Sto P 3 t35 (.int .i64 0) w fun w =>
 Ke P (Instr.loadAt 25 (.pointer (some ⟨0, 0, none⟩))) t29 w <|
 Ke P (Instr.loadAt 25 (.pointer (some ⟨0, 0, none⟩))) t32 w <|
 Ke P (bn .eql 25 false t31 t32) t33 w <|
 dFl P 30 t3 9 w fun t36 =>
 Sto P 25 t36 t29 w fun w =>
 Ke P (Instr.loadAt 25 (.pointer (some ⟨0, 0, none⟩))) t32 w <|
 Ke P (bn .eql 25 false t31 t32) t33 w <|
 dFl P 30 t3 10 w fun t37 =>
 Sto P 4 t37 t33 w fun w =>
 NcP t14 fun t40 =>
 dFl P 93 t40 0 w.drew fun t41 =>
 dFl P 28 t41 1 w.drew fun t42 =>
 dL P 26 t42 w.drew fun t43 =>
 dL P 30 t3 w.drew fun t44 =>
 Bs P 26 1 [(0, t44)] w.drew fun t45 w =>
 kLd P 26 t42 t43 w <|
 Bt P .append #[26, 26] 26 #[t43, t45] w fun t46 w =>
 NcP t14 fun t47 =>
 dFl P 93 t47 0 w fun t48 =>
 dFl P 28 t48 1 w fun t49 =>
 Sto P 26 t49 t46 w fun w =>
 Cl P 51 #[t14] w (fun c w => Tk P D1 w fun w => R (.panicked c) w) fun t51 w =>
 Ex t51 0 w fun t52 w =>
 Ex t51 1 w fun t53 w =>
 Sto P 28 t4 t52 w fun w =>
 Tk P D1 w fun w =>
 Rc P 28 t4 w fun r0 =>
 R (.returned (.tuple #[r0, t53])) w)
 (fun D1 w =>
 Tk P D1 w fun w =>
 Rc P 28 t4 w fun r0 =>
 R (.returned (.tuple #[r0, (.int .i64 0)])) w) [])
theorem e_alarm_Register (h : s_alarm_Register Tryz.prog t0 t1 w R) : Calls Tryz.prog 22 #[t0, t1] w R :=
 en1 (.sq .z (.sq (.sq .z (.cd (.sq .z .z) .z)) (.sq .z (.sq (.sq .z (.bk (.rf (.bk (.dr (.pur true 0 (.pur false 1 (.pur true 2 (.pur true 3 (.pur true 4 (.pur false 5 (.pur true 6 (.pur true 7 (.eff 8 [] .done))))))))))) []))) (.sq (.dr (.pur true 0 (.pur false 1 (.pur false 2 (.pur true 3 (.pur false 4 (.pur false 5 (.pur false 6 (.pur true 7 (.eff 8 [2, 5, 6] (.pur true 9 (.eff 10 [2, 5, 6] (.pur true 11 (.eff 12 [5, 6] (.pur true 13 (.eff 14 [] .done)))))))))))))))) (.sq (.dr (.pur true 0 (.pur true 1 (.pur true 2 (.pur true 3 (.pur true 4 (.pur false 5 (.pur false 6 (.eff 7 [5] (.eff 8 [] (.pur true 9 (.pur true 10 (.pur true 11 (.eff 12 [] .done)))))))))))))) (.sq .z .z))))))) [t0, t1] Tryz.func22 (by kernel_rfl) (by kernel_rfl) h
theorem n_alarm_Register : Enters Tryz.prog 22 := enters_of Tryz.func22 (by kernel_rfl) rfl
def s_alarm_Observe (P : Program) (t0 t1 : Value) (w : World) (R : Ending → World → Prop) : Prop :=
 Bx P 28 t0 w fun t2 w =>
 Bx P 31 t1 w fun t3 w =>
 Al P 28 w fun t4 w =>
 Ld P 28 t2 w fun t17 w =>
 Cl P 13 #[t17] w (Pk R) fun t18 w =>
 Un P .not t18 w fun t19 w =>
 Gd t19 false (fun k => Ld P 31 t3 w k) w fun t21 w =>
 Gd t19 false (fun k => Cl P 58 #[t21] w (Pk R) k) w fun t22 w =>
 Gd t19 false (fun k => Un P .not t22 w k) w fun t23 w =>
 Pick t19 (.bool true) t23 w fun t24 w =>
 If t24
 (Bd P 28 [] w fun t25 w =>
 Sto P 28 t4 t25 w fun w =>
 Rc P 28 t4 w fun r0 =>
 R (.returned (.tuple #[r0, (.slice none 0 0), (.int .i64 280)])) w)
 (Ld P 28 t2 w fun t26 w =>
 Cl P 56 #[t26] w (Pk R) fun t27 w =>
 Al P 33 w fun t8 w =>
 Cl P 57 #[t27] w (Pk R) fun t29 w =>
 Rf2 P t29 w (fun t30 t31 w next lv =>
 NcP t31 fun t33 =>
 dFl P 30 t33 7 w.drew fun t34 =>
 dL P 3 t34 w.drew fun t35 =>
 Cl P 59 #[t31] w.drew (fun _ _ => False) fun t37 w =>
 kLd P 3 t34 t35 w <|
 Ld P 31 t3 w fun t38 w =>
 Bt P .len #[31] 3 #[t38] w fun t39 w =>
 Lp1 (.int .i64 0) w (fun t40 w k1 =>
 Bn P .lss 3 false t40 t39 w fun t41 w =>
 If t41
 (Ia P 31 t38 t40 w fun t42 w =>
 Ld P 65 t42 w fun t43 w =>
 Al P 65 w fun t14 w =>
 Sto P 65 t14 t43 w fun w =>
 NcP t31 fun t46 =>
 dFl P 30 t46 7 w.drew fun t47 =>
 dL P 3 t47 w.drew fun t48 =>
 dFl P 65 t14 0 w.drew fun t49 =>
 dL P 3 t49 w.drew fun t50 =>
 Dv P true (bV .max #[3, 3] 3 #[t48, t50]) w.drew fun t51 =>
 NcP t31 fun t52 =>
 dFl P 30 t52 7 w.drew fun t53 =>
 Sto P 3 t53 t51 w.drew fun w =>
 NcP t31 fun t55 =>
 dFl P 30 t55 10 w.drew fun t56 =>
 dL P 4 t56 w.drew fun t57 =>
 GdP t57 false (fun k => dFl P 65 t14 4 w.drew k) fun t59 =>
 GdP t57 false (fun k => dL P 3 t59 w.drew k) fun t60 =>
 GdP t57 false (fun k => k t31) fun t61 =>
 GdP t57 false (fun k => NcP t61 k) fun t62 =>
 GdP t57 false (fun k => dFl P 30 t62 0 w.drew k) fun t63 =>
 GdP t57 false (fun k => dL P 3 t63 w.drew k) fun t64 =>
 GdP t57 false (fun k => Dv P true (bn .neq 3 false t60 t64) w.drew k) fun t65 =>
 PickP t57 (.bool true) t65 fun t66 =>
 GdP t66 false (fun k => dFl P 65 t14 3 w.drew k) fun t68 =>
 GdP t66 false (fun k => dL P 3 t68 w.drew k) fun t69 =>
 GdP t66 false (fun k => k t31) fun t70 =>
 GdP t66 false (fun k => NcP t70 k) fun t71 =>
 GdP t66 false (fun k => dFl P 30 t71 1 w.drew k) fun t72 =>
 GdP t66 false (fun k => dL P 3 t72 w.drew k) fun t73 =>
 GdP t66 false (fun k => Dv P true (bn .neq 3 false t69 t73) w.drew k) fun t74 =>
 PickP t66 (.bool true) t74 fun t75 =>
 GdP t75 false (fun k => dFl P 65 t14 0 w.drew k) fun t77 =>
 GdP t75 false (fun k => dL P 3 t77 w.drew k) fun t78 =>
 GdP t75 false (fun k => k t35) fun t79 =>
 GdP t75 false (fun k => Dv P true (bn .leq 3 false t78 t79) w.drew k) fun t80 =>
 PickP t75 (.bool true) t80 fun t81 =>
 If t81
 (Bn P .add 3 true t40 (.int .i64 1) w.drew fun t128 w =>
 k1 t128 w)
 (Nc t31 w.drew fun t83 w =>
 Fa P 30 t83 8 w fun t84 w =>
 Ld P 3 t84 w fun t85 w =>
 Bn P .add 3 true t85 (.int .i64 1) w fun t86 w =>
 Nc t31 w fun t87 w =>
 Fa P 30 t87 8 w fun t88 w =>
 Sto P 3 t88 t86 w fun w =>
 NcP t31 fun t91 =>
 dFl P 30 t91 9 w.drew fun t92 =>
 dL P 25 t92 w.drew fun t93 =>
 dFl P 65 t14 7 w.drew fun t95 =>
 dL P 3 t95 w.drew fun t96 =>
 NcP t31 fun t98 =>
 dFl P 30 t98 2 w.drew fun t99 =>
 dL P 3 t99 w.drew fun t100 =>
 Dv P true (bn .gtr 3 false t96 t100) w.drew fun t101 =>
 Cw P t37 #[t101] w.drew (fun _ _ => False) fun t102 w =>
 kLd P 25 t92 t93 w <|
 Cl P 32 #[t93, t102] w (fun _ _ => False) fun t103 w =>
 ExP t103 0 fun t104 =>
 ExP t103 1 fun t105 =>
 Cl P 52 #[t104, t105] w (fun _ _ => False) fun t106 w =>
 Cl P 60 #[t106, (.int .i64 12)] w (fun _ _ => False) fun t107 w =>
 ExP t107 0 fun t108 =>
 ExP t107 1 fun t109 =>
 Cl P 52 #[t108, t109] w (fun _ _ => False) fun t110 w =>
 NcP t31 fun t111 =>
 dFl P 30 t111 9 w fun t112 =>
 Sto P 25 t112 t110 w fun w =>
 Nc t31 w fun t115 w =>
 Ld P 30 t115 w fun t116 w =>
 Cl P 61 #[t116] w (fun _ _ => False) fun t117 w =>
 Nc t31 w fun t118 w =>
 Fa P 30 t118 10 w fun t119 w =>
 Sto P 4 t119 t117 w fun w =>
 Nc t31 w fun t121 w =>
 Fa P 30 t121 10 w fun t122 w =>
 Ld P 4 t122 w fun t123 w =>
 If t123
 (Ld P 33 t8 w fun t124 w =>
 Bs P 33 1 [(0, t30)] w fun t126 w =>
 Bt P .append #[33, 33] 33 #[t124, t126] w fun t127 w =>
 Sto P 33 t8 t127 w fun w =>
 Bn P .add 3 true t40 (.int .i64 1) w fun t128x1 w =>
 k1 t128x1 w)
 (Bn P .add 3 true t40 (.int .i64 1) w fun t128x2 w =>
 k1 t128x2 w)))
 (next w)))
 (fun D1 w =>
 Cl P 51 #[t27] w (fun c w => Tk P D1 w fun w => R (.panicked c) w) fun t131 w =>
 Ex t131 0 w fun t132 w =>
 Ex t131 1 w fun t133 w =>
 Al P 28 w fun t15 w =>
 Sto P 28 t15 t132 w fun w =>
 Bn P .neq 46 true t133 (.int .i64 0) w fun t135 w =>
 If t135
 (Bd P 28 [] w fun t136 w =>
 Sto P 28 t4 t136 w fun w =>
 Tk P D1 w fun w =>
 Rc P 28 t4 w fun r0 =>
 R (.returned (.tuple #[r0, (.slice none 0 0), t133])) w)
 (dL P 28 t15 w.drew fun t138 =>
 dL P 33 t8 w.drew fun t139 =>
 Sto P 28 t4 t138 w.drew fun w =>
 kLd P 33 t8 t139 w <|
 Tk P D1 w fun w =>
 Rc P 28 t4 w fun r0 =>
 R (.returned (.tuple #[r0, t139, (.int .i64 0)])) w))
 (fun D1 w =>
 Tk P D1 w fun w =>
 Rc P 28 t4 w fun r0 =>
 R (.returned (.tuple #[r0, (.slice none 0 0), (.int .i64 0)])) w) [])
theorem e_alarm_Observe (h : s_alarm_Observe Tryz.prog t0 t1 w R) : Calls Tryz.prog 24 #[t0, t1] w R :=
 en1 (.sq .z (.sq (.sq .z (.cd (.sq .z .z) .z)) (.sq .z (.sq .z (.sq (.sq .z (.bk (.rf (.bk (.sq (.dr (.pur true 0 (.pur true 1 (.pur true 2 (.pur false 3 (.pur true 4 (.eff 5 [3] (.pur true 6 (.pur true 7 .done))))))))) (.sq .z (.bk (.lp [40] [14, 41, 42, 43, 44, 45, 46, 47, 48, 49, 50, 51, 52, 53, 54, 55, 56, 57, 58, 59, 60, 61, 62, 63, 64, 65, 66, 67, 68, 69, 70, 71, 72, 73, 74, 75, 76, 77, 78, 79, 80, 81, 82, 83, 84, 85, 86, 87, 88, 89, 90, 91, 92, 93, 94, 95, 96, 97, 98, 99, 100, 101, 102, 103, 104, 105, 106, 107, 108, 109, 110, 111, 112, 113, 114, 115, 116, 117, 118, 119, 120, 121, 122, 123, 124, 125, 126, 127, 128] (.sq .z (.sq (.cd .z .z) (.sq (.bk (.sq .z (.sq (.dr (.pur true 0 (.pur true 1 (.pur true 2 (.pur true 3 (.pur false 4 (.pur true 5 (.pur false 6 (.pur true 7 (.pur true 8 (.pur true 9 (.eff 10 [] .done)))))))))))) (.sq (.sq (.dr (.pur true 0 (.pur true 1 (.pur true 2 (.pur false 3 (.pur true 4 (.pur true 5 (.pur false 6 (.pur true 7 (.pur true 8 (.pur true 9 (.pur false 10 (.pur true 11 (.pur true 12 (.pur true 13 (.pur true 14 (.pur false 15 (.pur true 16 (.pur true 17 (.pur true 18 (.pur false 19 (.pur true 20 (.pur true 21 (.pur true 22 (.pur true 23 (.pur false 24 (.pur true 25 (.pur true 26 (.pur true 27 .done))))))))))))))))))))))))))))) (.cd .z .z)) (.sq .z (.sq (.dr (.pur true 0 (.pur true 1 (.pur true 2 (.pur true 3 (.pur false 4 (.pur true 5 (.pur true 6 (.pur false 7 (.pur true 8 (.pur true 9 (.pur true 10 (.pur false 11 (.pur true 12 (.eff 13 [4] (.eff 14 [] (.pur true 15 (.pur true 16 (.eff 17 [] (.eff 18 [] (.pur true 19 (.pur true 20 (.eff 21 [] (.pur true 22 (.pur true 23 (.eff 24 [] .done)))))))))))))))))))))))))) (.sq .z (.sq .z (.cd .z .z))))))))) .z)))))))) []))) (.sq .z (.sq (.sq .z (.cd (.sq .z .z) .z)) (.sq (.dr (.pur false 0 (.pur false 1 (.eff 2 [1] (.pur true 3 (.pur true 4 .done)))))) .z)))))))) [t0, t1] Tryz.func24 (by kernel_rfl) (by kernel_rfl) h
theorem n_alarm_Observe : Enters Tryz.prog 24 := enters_of Tryz.func24 (by kernel_rfl) rfl
def s_law28_ints (P : Program) (t0 t1 : Value) (w : World) (R : Ending → World → Prop) : Prop :=
 Bt P .len #[33] 3 #[t0] w fun t7 w =>
 Bt P .len #[33] 3 #[t1] w fun t9 w =>
 Bn P .neq 3 false t7 t9 w fun t10 w =>
 If t10
 (R (.returned (.bool false)) w)
 (Lp1 (.int .i64 0) w (fun t5 w k1 =>
 Bt P .len #[33] 3 #[t0] w fun t13 w =>
 Bn P .lss 3 false t5 t13 w fun t14 w =>
 If t14
 (dIx P 33 t0 t5 w.drew fun t19 =>
 dL P 3 t19 w.drew fun t20 =>
 dIx P 33 t1 t5 w.drew fun t23 =>
 dL P 3 t23 w.drew fun t24 =>
 Dv P true (bn .neq 3 false t20 t24) w.drew fun t25 =>
 If t25
 (R (.returned (.bool false)) w.drew)
 (Bn P .add 3 true t5 (.int .i64 1) w.drew fun t16 w =>
 k1 t16 w))
 (R (.returned (.bool true)) w)))
theorem e_law28_ints (h : s_law28_ints Tryz.prog t0 t1 w R) : Calls Tryz.prog 26 #[t0, t1] w R :=
 en1 (.sq .z (.sq (.sq .z (.cd (.sq .z .z) .z)) (.sq (.sq .z (.bk (.lp [5] [4, 11, 12, 13, 14, 15, 16, 17, 18, 19, 20, 21, 22, 23, 24, 25] (.sq (.sq .z (.cd .z .z)) (.sq (.bk (.sq (.dr (.pur true 0 (.pur true 1 (.pur true 2 (.pur false 3 (.pur true 4 (.pur true 5 (.pur true 6 (.pur false 7 (.pur true 8 .done)))))))))) (.cd (.sq .z .z) .z))) .z))))) (.sq .z .z)))) [t0, t1] Tryz.func26 (by kernel_rfl) (by kernel_rfl) h
theorem n_law28_ints : Enters Tryz.prog 26 := enters_of Tryz.func26 (by kernel_rfl) rfl
def s_law28_pick (P : Program) (t0 t1 : Value) (w : World) (R : Ending → World → Prop) : Prop :=
 Bn P .lss 3 true t0 (.int .i64 0) w fun t6 w =>
 If t6
 (Bn P .add 3 true t0 (.int .i64 1) w fun t8 w =>
 Un P .neg t8 w fun t9 w =>
 Bn P .rem 3 false t9 t1 w fun t12 w =>
 R (.returned t12) w)
 (Bn P .rem 3 false t0 t1 w fun t12x1 w =>
 R (.returned t12x1) w)
theorem e_law28_pick (h : s_law28_pick Tryz.prog t0 t1 w R) : Calls Tryz.prog 27 #[t0, t1] w R :=
 en1 (.sq .z (.sq (.sq .z (.cd .z .z)) (.sq .z .z))) [t0, t1] Tryz.func27 (by kernel_rfl) (by kernel_rfl) h
theorem n_law28_pick : Enters Tryz.prog 27 := enters_of Tryz.func27 (by kernel_rfl) rfl
def s_alarm_Rate (P : Program) (t0 t1 t2 t3 : Value) (w : World) (R : Ending → World → Prop) : Prop :=
 Cl P 58 #[t0] w (Pk R) fun t18 w =>
 Un P .not t18 w fun t19 w =>
 Gd t19 false (fun k => k t3 w) w fun t21 w =>
 Gd t19 false (fun k => Cl P 64 #[t21, (.int .i64 0), (.int .i64 4398046511104)] w (Pk R) k) w fun t22 w =>
 Gd t19 false (fun k => Un P .not t22 w k) w fun t23 w =>
 Pick t19 (.bool true) t23 w fun t24 w =>
 If t24
 (R (.returned (.tuple #[(.int .i64 0), (.int .i64 0), (.int .i64 0), (.int .i64 280)])) w)
 (Bt P .len #[31] 3 #[t0] w fun t26 w =>
 Lp4 (.int .i64 0) (.int .i64 0) (.int .i64 0) (.int .i64 0) w (fun t12 t13 t14 t27 w k1 =>
 Bn P .lss 3 false t27 t26 w fun t28 w =>
 If t28
 (Ia P 31 t0 t27 w fun t29 w =>
 Ld P 65 t29 w fun t30 w =>
 Al P 65 w fun t16 w =>
 Sto P 65 t16 t30 w fun w =>
 Fa P 65 t16 4 w fun t31 w =>
 Ld P 3 t31 w fun t32 w =>
 Bn P .neq 3 false t32 t1 w fun t34 w =>
 Gd t34 false (fun k => Fa P 65 t16 3 w k) w fun t36 w =>
 Gd t34 false (fun k => Ld P 3 t36 w k) w fun t37 w =>
 Gd t34 false (fun k => k t2 w) w fun t38 w =>
 Gd t34 false (fun k => Bn P .neq 3 false t37 t38 w k) w fun t39 w =>
 Pick t34 (.bool true) t39 w fun t40 w =>
 If t40
 (Bn P .add 3 true t27 (.int .i64 1) w fun t55 w =>
 k1 t12 t13 t14 t55 w)
 (Bn P .add 3 true t14 (.int .i64 1) w fun t42 w =>
 Jn1 (fun k2 =>
 Fa P 65 t16 7 w fun t43 w =>
 Ld P 3 t43 w fun t44 w =>
 Bn P .gtr 3 false t44 t3 w fun t46 w =>
 If t46
 (Bn P .add 3 true t12 (.int .i64 1) w fun t48 w =>
 k2 t48 w)
 (k2 t12 w))
 (fun t12x1 w =>
 Fa P 65 t16 8 w fun t49 w =>
 Ld P 3 t49 w fun t50 w =>
 Bn P .gtr 3 false t50 t3 w fun t52 w =>
 If t52
 (Bn P .add 3 true t13 (.int .i64 1) w fun t54 w =>
 Bn P .add 3 true t27 (.int .i64 1) w fun t55x1 w =>
 k1 t12x1 t54 t42 t55x1 w)
 (Bn P .add 3 true t27 (.int .i64 1) w fun t55x2 w =>
 k1 t12x1 t13 t42 t55x2 w))))
 (R (.returned (.tuple #[t12, t13, t14, (.int .i64 0)])) w)))
theorem e_alarm_Rate (h : s_alarm_Rate Tryz.prog t0 t1 t2 t3 w R) : Calls Tryz.prog 28 #[t0, t1, t2, t3] w R :=
 en1 (.sq .z (.sq (.sq .z (.cd (.sq .z .z) .z)) (.sq .z (.sq (.sq .z (.bk (.lp [12, 13, 14, 27] [16, 28, 29, 30, 31, 32, 33, 34, 35, 36, 37, 38, 39, 40, 41, 42, 43, 44, 45, 46, 47, 48, 49, 50, 51, 52, 53, 54, 55] (.sq .z (.sq (.cd .z .z) (.sq (.bk (.sq .z (.sq (.sq .z (.cd .z .z)) (.sq .z (.jn [12] [43, 44, 45, 46, 47, 48] (.sq .z (.cd .z .z)) (.sq .z (.cd .z .z))))))) .z)))))) (.sq .z .z))))) [t0, t1, t2, t3] Tryz.func28 (by kernel_rfl) (by kernel_rfl) h
theorem n_alarm_Rate : Enters Tryz.prog 28 := enters_of Tryz.func28 (by kernel_rfl) rfl
def s_law28_of (P : Program) (t0 t1 : Value) (w : World) (R : Ending → World → Prop) : Prop :=
 Al P 25 w fun t4 w =>
 Cl P 66 #[t0, t1] w (Pk R) fun t10 w =>
 Ex t10 0 w fun t11 w =>
 Ex t10 1 w fun t12 w =>
 Al P 25 w fun t5 w =>
 Sto P 25 t5 t11 w fun w =>
 Bn P .neq 46 true t12 (.int .i64 0) w fun t14 w =>
 If t14
 (Bd P 25 [] w fun t15 w =>
 Sto P 25 t4 t15 w fun w =>
 Rc P 25 t4 w fun r0 =>
 R (.returned r0) w)
 (Ld P 25 t5 w fun t16 w =>
 Sto P 25 t4 t16 w fun w =>
 Rc P 25 t4 w fun r0 =>
 R (.returned r0) w)
theorem e_law28_of (h : s_law28_of Tryz.prog t0 t1 w R) : Calls Tryz.prog 30 #[t0, t1] w R :=
 en1 (.sq .z (.sq .z (.sq (.sq .z (.cd (.sq .z .z) .z)) (.sq .z .z)))) [t0, t1] Tryz.func30 (by kernel_rfl) (by kernel_rfl) h
theorem n_law28_of : Enters Tryz.prog 30 := enters_of Tryz.func30 (by kernel_rfl) rfl
def s_law28_fact (P : Program) (t0 t1 t2 : Value) (w : World) (R : Ending → World → Prop) : Prop :=
 Al P 65 w fun t6 w =>
 Bn P .quo 3 true t0 (.int .i64 10) w fun t9 w =>
 Bd P 65 [(0, t0), (4, (.int .i64 1)), (3, (.int .i64 2)), (5, (.int .i64 (-1))), (6, t9), (7, t1), (8, t2)] w fun t12 w =>
 Sto P 65 t6 t12 w fun w =>
 Rc P 65 t6 w fun r0 =>
 R (.returned r0) w
theorem e_law28_fact (h : s_law28_fact Tryz.prog t0 t1 t2 w R) : Calls Tryz.prog 33 #[t0, t1, t2] w R :=
 en1 (.sq .z (.sq .z .z)) [t0, t1, t2] Tryz.func33 (by kernel_rfl) (by kernel_rfl) h
theorem n_law28_fact : Enters Tryz.prog 33 := enters_of Tryz.func33 (by kernel_rfl) rfl
def s_ref28_Facts (P : Program) (t0 t1 : Value) (w : World) (R : Ending → World → Prop) : Prop :=
 Lp2 (.slice none 0 0) (.int .i64 0) w (fun t5 t6 w k1 =>
 Bt P .len #[22] 3 #[t1] w fun t10 w =>
 Bn P .lss 3 false t6 t10 w fun t11 w =>
 Gd t11 true (fun k => k t6 w) w fun t13 w =>
 Gd t11 true (fun k => Bn P .lss 3 true t13 (.int .i64 30) w k) w fun t14 w =>
 Pick t11 t14 (.bool false) w fun t15 w =>
 Gd t15 true (fun k => k t0 w) w fun t17 w =>
 Gd t15 true (fun k => k t6 w) w fun t18 w =>
 Gd t15 true (fun k => Bn P .add 3 false t17 t18 w k) w fun t19 w =>
 Gd t15 true (fun k => Bn P .leq 3 true t19 (.int .i64 999) w k) w fun t20 w =>
 Pick t15 t20 (.bool false) w fun t21 w =>
 If t21
 (Jn1 (fun k2 =>
 Dv P true (bn .add 3 false t0 t6) w.drew fun t26 =>
 dIx P 22 t1 t6 w.drew fun t29 =>
 Dv P true (Instr.indexAt 121 t29 (.int .i64 0)) w.drew fun t30 =>
 dL P 3 t30 w.drew fun t31 =>
 dIx P 22 t1 t6 w.drew fun t35 =>
 Dv P true (Instr.indexAt 121 t35 (.int .i64 0)) w.drew fun t36 =>
 dL P 3 t36 w.drew fun t37 =>
 Dv P true (bn .quo 3 true t37 (.int .i64 2)) w.drew fun t38 =>
 dIx P 22 t1 t6 w.drew fun t42 =>
 Dv P true (Instr.indexAt 121 t42 (.int .i64 1)) w.drew fun t43 =>
 dL P 3 t43 w.drew fun t44 =>
 (Cl P 54 #[t31, (.int .i64 2)] w.drew (Pk R) fun t32 w =>
 kLd P 3 t36 t37 w <|
 kLd P 3 t43 t44 w <|
 (Cl P 54 #[t38, (.int .i64 2)] w (Pk R) fun t39 w =>
 kLd P 3 t43 t44 w <|
 (Cl P 54 #[t44, (.int .i64 60)] w (Pk R) fun t45 w =>
 Dv P true (Instr.build 65 #[(0, t26), (4, t32), (3, t39), (5, (.int .i64 (-1))), (7, t45)]) w fun t46 =>
 Al P 65 w fun t7 w =>
 kLd P 3 t30 t31 w <|
 kLd P 3 t36 t37 w <|
 kLd P 3 t43 t44 w <|
 Sto P 65 t7 t46 w fun w =>
 k2 t7 w) ∧
 (Al P 65 w fun t7x1 w =>
 kLd P 3 t30 t31 w <|
 kLd P 3 t36 t37 w <|
 kLd P 3 t43 t44 w <|
 Cl P 54 #[t44, (.int .i64 60)] w (Pk R) fun t45x1 w =>
 Dv P true (Instr.build 65 #[(0, t26), (4, t32), (3, t39), (5, (.int .i64 (-1))), (7, t45x1)]) w fun t46x1 =>
 Sto P 65 t7x1 t46x1 w fun w =>
 k2 t7x1 w)) ∧
 (Al P 65 w fun t7x2 w =>
 kLd P 3 t30 t31 w <|
 kLd P 3 t36 t37 w <|
 kLd P 3 t43 t44 w <|
 Cl P 54 #[t38, (.int .i64 2)] w (Pk R) fun t39x1 w =>
 kLd P 3 t43 t44 w <|
 Cl P 54 #[t44, (.int .i64 60)] w (Pk R) fun t45x2 w =>
 Dv P true (Instr.build 65 #[(0, t26), (4, t32), (3, t39x1), (5, (.int .i64 (-1))), (7, t45x2)]) w fun t46x2 =>
 Sto P 65 t7x2 t46x2 w fun w =>
 k2 t7x2 w)) ∧
 (Al P 65 w.drew fun t7x3 w =>
 kLd P 3 t30 t31 w <|
 kLd P 3 t36 t37 w <|
 kLd P 3 t43 t44 w <|
 Cl P 54 #[t31, (.int .i64 2)] w (Pk R) fun t32x1 w =>
 kLd P 3 t36 t37 w <|
 kLd P 3 t43 t44 w <|
 Cl P 54 #[t38, (.int .i64 2)] w (Pk R) fun t39x2 w =>
 kLd P 3 t43 t44 w <|
 Cl P 54 #[t44, (.int .i64 60)] w (Pk R) fun t45x3 w =>
 Dv P true (Instr.build 65 #[(0, t26), (4, t32x1), (3, t39x2), (5, (.int .i64 (-1))), (7, t45x3)]) w fun t46x3 =>
 Sto P 65 t7x3 t46x3 w fun w =>
 k2 t7x3 w))
 (fun t7x4 w =>
 dFl P 65 t7x4 7 w.drew fun t47 =>
 dL P 3 t47 w.drew fun t48 =>
 dIx P 22 t1 t6 w.drew fun t51 =>
 Dv P true (Instr.indexAt 121 t51 (.int .i64 2)) w.drew fun t52 =>
 dL P 3 t52 w.drew fun t53 =>
 dIx P 22 t1 t6 w.drew fun t57 =>
 Dv P true (Instr.indexAt 121 t57 (.int .i64 2)) w.drew fun t58 =>
 dL P 3 t58 w.drew fun t59 =>
 Dv P true (bn .quo 3 true t59 (.int .i64 3)) w.drew fun t60 =>
 Cl P 54 #[t53, (.int .i64 3)] w.drew (Pk R) fun t54 w =>
 kLd P 3 t47 t48 w <|
 kLd P 3 t58 t59 w <|
 Cl P 54 #[t60, (.int .i64 10)] w (Pk R) fun t61 w =>
 kLd P 3 t47 t48 w <|
 Dv P true (bn .mul 3 false t54 t61) w fun t62 =>
 Dv P true (bn .add 3 false t48 t62) w fun t63 =>
 dFl P 65 t7x4 8 w fun t64 =>
 Sto P 3 t64 t63 w fun w =>
 Fa P 65 t7x4 0 w fun t65 w =>
 Ld P 3 t65 w fun t66 w =>
 Bn P .quo 3 true t66 (.int .i64 10) w fun t67 w =>
 Fa P 65 t7x4 6 w fun t68 w =>
 Sto P 3 t68 t67 w fun w =>
 Ld P 65 t7x4 w fun t70 w =>
 Bs P 31 1 [(0, t70)] w fun t71 w =>
 Bt P .append #[31, 31] 31 #[t5, t71] w fun t72 w =>
 Bn P .add 3 true t6 (.int .i64 1) w fun t23 w =>
 k1 t72 t23 w))
 (R (.returned t5) w))
theorem e_ref28_Facts (h : s_ref28_Facts Tryz.prog t0 t1 w R) : Calls Tryz.prog 37 #[t0, t1] w R :=
 en1 (.sq .z (.sq .z (.sq (.sq .z (.bk (.lp [5, 6] [7, 8, 9, 10, 11, 12, 13, 14, 15, 16, 17, 18, 19, 20, 21, 22, 23, 24, 25, 26, 27, 28, 29, 30, 31, 32, 33, 34, 35, 36, 37, 38, 39, 40, 41, 42, 43, 44, 45, 46, 47, 48, 49, 50, 51, 52, 53, 54, 55, 56, 57, 58, 59, 60, 61, 62, 63, 64, 65, 66, 67, 68, 69, 70, 71, 72] (.sq (.sq .z (.cd .z .z)) (.sq (.bk (.jn [7] [24, 25, 26, 27, 28, 29, 30, 31, 32, 33, 34, 35, 36, 37, 38, 39, 40, 41, 42, 43, 44, 45, 46] (.dr (.pur true 0 (.pur true 1 (.pur true 2 (.pur true 3 (.pur true 4 (.pur true 5 (.pur true 6 (.pur false 7 (.pur true 9 (.pur true 10 (.pur true 11 (.pur true 12 (.pur false 13 (.pur true 14 (.pur true 16 (.pur true 17 (.pur true 18 (.pur true 19 (.pur false 20 (.alt (.eff 8 [13, 20] (.alt (.eff 15 [20] (.alt (.eff 21 [] (.pur true 22 (.eff 23 [7, 13, 20] (.eff 24 [] .done)))) (.eff 23 [7, 13, 20] (.eff 21 [] (.pur true 22 (.eff 24 [] .done)))))) (.eff 23 [7, 13, 20] (.eff 15 [20] (.eff 21 [] (.pur true 22 (.eff 24 [] .done))))))) (.eff 23 [7, 13, 20] (.eff 8 [13, 20] (.eff 15 [20] (.eff 21 [] (.pur true 22 (.eff 24 [] .done))))))))))))))))))))))))))) (.sq (.dr (.pur true 0 (.pur false 1 (.pur true 2 (.pur true 3 (.pur true 4 (.pur true 5 (.pur false 6 (.pur true 8 (.pur true 9 (.pur true 10 (.pur true 11 (.pur false 12 (.pur true 13 (.eff 7 [1, 12] (.eff 14 [1] (.pur true 15 (.pur true 16 (.pur true 17 (.eff 18 [] .done)))))))))))))))))))) (.sq .z .z)))) .z))))) (.sq .z .z)))) [t0, t1] Tryz.func37 (by kernel_rfl) (by kernel_rfl) h
theorem n_ref28_Facts : Enters Tryz.prog 37 := enters_of Tryz.func37 (by kernel_rfl) rfl
def s_alarm_small (P : Program) (t0 t1 : Value) (w : World) (R : Ending → World → Prop) : Prop :=
 Bx P 25 t0 w fun t2 w =>
 Fa P 25 t2 1 w fun t8 w =>
 Ld P 9 t8 w fun t9 w =>
 Cl P 76 #[t9] w (Pk R) fun t10 w =>
 Ex t10 0 w fun t11 w =>
 Ex t10 1 w fun t12 w =>
 Bn P .eql 123 true t12 .nilIface w fun t14 w =>
 Gd t14 true (fun k => Ld P 25 t2 w k) w fun t16 w =>
 Gd t14 true (fun k => Cl P 72 #[t16] w (Pk R) k) w fun t17 w =>
 Pick t14 t17 (.bool false) w fun t18 w =>
 Gd t18 true (fun k => k t11 w) w fun t20 w =>
 Gd t18 true (fun k => Bn P .leq 3 true t20 (.int .i64 1000) w k) w fun t21 w =>
 Pick t18 t21 (.bool false) w fun t22 w =>
 Gd t22 true (fun k => Ld P 25 t2 w k) w fun t24 w =>
 Gd t22 true (fun k => Ld P 25 (.pointer (some ⟨1, 0, none⟩)) w k) w fun t25 w =>
 Gd t22 true (fun k => Cl P 34 #[t24, t25] w (Pk R) k) w fun t26 w =>
 Gd t22 true (fun k => Bn P .geq 3 true t26 (.int .i64 0) w k) w fun t27 w =>
 Pick t22 t27 (.bool false) w fun t28 w =>
 Gd t28 true (fun k => Ld P 25 t2 w k) w fun t30 w =>
 Gd t28 true (fun k => k t1 w) w fun t31 w =>
 Gd t28 true (fun k => Bd P 25 [(0, t31), (1, (str [49]))] w k) w fun t32 w =>
 Gd t28 true (fun k => Cl P 34 #[t30, t32] w (Pk R) k) w fun t33 w =>
 Gd t28 true (fun k => Bn P .leq 3 true t33 (.int .i64 0) w k) w fun t34 w =>
 Pick t28 t34 (.bool false) w fun t35 w =>
 R (.returned t35) w
theorem e_alarm_small (h : s_alarm_small Tryz.prog t0 t1 w R) : Calls Tryz.prog 41 #[t0, t1] w R :=
 en1 (.sq .z (.sq .z (.sq .z .z))) [t0, t1] Tryz.func41 (by kernel_rfl) (by kernel_rfl) h
theorem n_alarm_small : Enters Tryz.prog 41 := enters_of Tryz.func41 (by kernel_rfl) rfl
def s_alarm_Valid_2 (P : Program) (t0 : Value) (w : World) (R : Ending → World → Prop) : Prop :=
 Bx P 30 t0 w fun t1 w =>
 Ld P 30 t1 w fun t3 w =>
 Cl P 44 #[t3] w (Pk R) fun t4 w =>
 Un P .not t4 w fun t5 w =>
 R (.returned t5) w
theorem e_alarm_Valid_2 (h : s_alarm_Valid_2 Tryz.prog t0 w R) : Calls Tryz.prog 43 #[t0] w R :=
 en1 (.sq .z (.sq .z .z)) [t0] Tryz.func43 (by kernel_rfl) (by kernel_rfl) h
theorem n_alarm_Valid_2 : Enters Tryz.prog 43 := enters_of Tryz.func43 (by kernel_rfl) rfl
def s_alarm_fine (P : Program) (t0 : Value) (w : World) (R : Ending → World → Prop) : Prop :=
 Bx P 30 t0 w fun t1 w =>
 Fa P 30 t1 0 w fun t8 w =>
 Ld P 3 t8 w fun t9 w =>
 Cl P 64 #[t9, (.int .i64 0), (.int .i64 11)] w (Pk R) fun t10 w =>
 Gd t10 true (fun k => Fa P 30 t1 1 w k) w fun t12 w =>
 Gd t10 true (fun k => Ld P 3 t12 w k) w fun t13 w =>
 Gd t10 true (fun k => Cl P 64 #[t13, (.int .i64 0), (.int .i64 9)] w (Pk R) k) w fun t14 w =>
 Pick t10 t14 (.bool false) w fun t15 w =>
 Gd t15 true (fun k => Fa P 30 t1 2 w k) w fun t17 w =>
 Gd t15 true (fun k => Ld P 3 t17 w k) w fun t18 w =>
 Gd t15 true (fun k => Cl P 64 #[t18, (.int .i64 0), (.int .i64 4398046511104)] w (Pk R) k) w fun t19 w =>
 Pick t15 t19 (.bool false) w fun t20 w =>
 Gd t20 true (fun k => Fa P 30 t1 6 w k) w fun t22 w =>
 Gd t20 true (fun k => Ld P 3 t22 w k) w fun t23 w =>
 Gd t20 true (fun k => Cl P 64 #[t23, (.int .i64 (-1)), (.int .i64 999)] w (Pk R) k) w fun t24 w =>
 Pick t20 t24 (.bool false) w fun t25 w =>
 Gd t25 true (fun k => Fa P 30 t1 7 w k) w fun t27 w =>
 Gd t25 true (fun k => Ld P 3 t27 w k) w fun t28 w =>
 Gd t25 true (fun k => Fa P 30 t1 6 w k) w fun t29 w =>
 Gd t25 true (fun k => Ld P 3 t29 w k) w fun t30 w =>
 Gd t25 true (fun k => Cl P 64 #[t28, t30, (.int .i64 999)] w (Pk R) k) w fun t31 w =>
 Pick t25 t31 (.bool false) w fun t32 w =>
 Gd t32 true (fun k => Fa P 30 t1 8 w k) w fun t34 w =>
 Gd t32 true (fun k => Ld P 3 t34 w k) w fun t35 w =>
 Gd t32 true (fun k => Cl P 64 #[t35, (.int .i64 0), (.int .i64 1000000)] w (Pk R) k) w fun t36 w =>
 Pick t32 t36 (.bool false) w fun t37 w =>
 Fa P 30 t1 3 w fun t38 w =>
 Ld P 25 t38 w fun t39 w =>
 Cl P 41 #[t39, (str [49])] w (Pk R) fun t40 w =>
 Gd t40 true (fun k => Fa P 30 t1 4 w k) w fun t42 w =>
 Gd t40 true (fun k => Ld P 25 t42 w k) w fun t43 w =>
 Gd t40 true (fun k => Cl P 41 #[t43, (str [49])] w (Pk R) k) w fun t44 w =>
 Pick t40 t44 (.bool false) w fun t45 w =>
 Gd t45 true (fun k => Fa P 30 t1 5 w k) w fun t47 w =>
 Gd t45 true (fun k => Ld P 25 t47 w k) w fun t48 w =>
 Gd t45 true (fun k => Cl P 41 #[t48, (str [49, 48, 48, 48])] w (Pk R) k) w fun t49 w =>
 Pick t45 t49 (.bool false) w fun t50 w =>
 Gd t50 true (fun k => Fa P 30 t1 3 w k) w fun t52 w =>
 Gd t50 true (fun k => Ld P 25 t52 w k) w fun t53 w =>
 Gd t50 true (fun k => Ld P 25 (.pointer (some ⟨1, 0, none⟩)) w k) w fun t54 w =>
 Gd t50 true (fun k => Bn P .neq 25 false t53 t54 w k) w fun t55 w =>
 Pick t50 t55 (.bool false) w fun t56 w =>
 Gd t56 true (fun k => Fa P 30 t1 3 w k) w fun t58 w =>
 Gd t56 true (fun k => Ld P 25 t58 w k) w fun t59 w =>
 Gd t56 true (fun k => Ld P 25 (.pointer (some ⟨0, 0, none⟩)) w k) w fun t60 w =>
 Gd t56 true (fun k => Bn P .neq 25 false t59 t60 w k) w fun t61 w =>
 Pick t56 t61 (.bool false) w fun t62 w =>
 Gd t62 true (fun k => Fa P 30 t1 4 w k) w fun t64 w =>
 Gd t62 true (fun k => Ld P 25 t64 w k) w fun t65 w =>
 Gd t62 true (fun k => Ld P 25 (.pointer (some ⟨1, 0, none⟩)) w k) w fun t66 w =>
 Gd t62 true (fun k => Bn P .neq 25 false t65 t66 w k) w fun t67 w =>
 Pick t62 t67 (.bool false) w fun t68 w =>
 Fa P 30 t1 9 w fun t70 w =>
 Fa P 25 t70 1 w fun t71 w =>
 Ld P 9 t71 w fun t72 w =>
 Cl P 76 #[t72] w (Pk R) fun t73 w =>
 Ex t73 0 w fun t74 w =>
 Ex t73 1 w fun t75 w =>
 Un P .not t37 w fun t77 w =>
 Gd t77 false (fun k => k t68 w) w fun t79 w =>
 Gd t77 false (fun k => Un P .not t79 w k) w fun t80 w =>
 Pick t77 (.bool true) t80 w fun t81 w =>
 Gd t81 false (fun k => k t75 w) w fun t83 w =>
 Gd t81 false (fun k => Bn P .neq 123 true t83 .nilIface w k) w fun t84 w =>
 Pick t81 (.bool true) t84 w fun t85 w =>
 Gd t85 false (fun k => Fa P 30 t1 9 w k) w fun t87 w =>
 Gd t85 false (fun k => Ld P 25 t87 w k) w fun t88 w =>
 Gd t85 false (fun k => Cl P 72 #[t88] w (Pk R) k) w fun t89 w =>
 Gd t85 false (fun k => Un P .not t89 w k) w fun t90 w =>
 Pick t85 (.bool true) t90 w fun t91 w =>
 Gd t91 false (fun k => k t74 w) w fun t93 w =>
 Gd t91 false (fun k => Bn P .rem 3 true (.int .i64 1000000000000) t93 w k) w fun t94 w =>
 Gd t91 false (fun k => Bn P .neq 3 true t94 (.int .i64 0) w k) w fun t95 w =>
 Pick t91 (.bool true) t95 w fun t96 w =>
 If t96
 (R (.returned (.bool false)) w)
 (Cl P 78 #[(.int .i64 1000000)] w (Pk R) fun t97 w =>
 Bd P 25 [(0, t97), (1, (str [49]))] w fun t98 w =>
 Al P 25 w fun t7 w =>
 Sto P 25 t7 t98 w fun w =>
 dFl P 30 t1 9 w.drew fun t99 =>
 dL P 25 t99 w.drew fun t100 =>
 Dv P false (Instr.loadAt 25 (.pointer (some ⟨1, 0, none⟩))) w.drew fun t101 =>
 Cl P 34 #[t100, t101] w.drew (Pk R) fun t102 w =>
 Dv P true (bn .lss 3 true t102 (.int .i64 0)) w fun t103 =>
 GdP t103 false (fun k => dFl P 30 t1 9 w k) fun t105 =>
 GdP t103 false (fun k => dL P 25 t105 w k) fun t106 =>
 GdP t103 false (fun k => dL P 25 t7 w k) fun t107 =>
 Gd t103 false (fun k => Cl P 34 #[t106, t107] w (Pk R) k) w fun t108 w =>
 GdP t103 false (fun k => Dv P true (bn .gtr 3 true t108 (.int .i64 0)) w k) fun t109 =>
 PickP t103 (.bool true) t109 fun t110 =>
 GdP t110 false (fun k => dFl P 30 t1 5 w k) fun t112 =>
 GdP t110 false (fun k => dL P 25 t112 w k) fun t113 =>
 GdP t110 false (fun k => dFl P 30 t1 3 w k) fun t114 =>
 GdP t110 false (fun k => dL P 25 t114 w k) fun t115 =>
 GdP t110 false (fun k => Dv P false (Instr.loadAt 25 (.pointer (some ⟨0, 0, none⟩))) w k) fun t120 =>
 Gd t110 false (fun k => Cl P 32 #[t113, t115] w (Pk R) k) w fun t116 w =>
 Kg t110 false P (Instr.loadAt 25 (.pointer (some ⟨0, 0, none⟩))) t120 w <|
 GdP t110 false (fun k => ExP t116 0 k) fun t117 =>
 GdP t110 false (fun k => ExP t116 1 k) fun t118 =>
 Gd t110 false (fun k => Cl P 52 #[t117, t118] w (Pk R) k) w fun t119 w =>
 Kg t110 false P (Instr.loadAt 25 (.pointer (some ⟨0, 0, none⟩))) t120 w <|
 Gd t110 false (fun k => Cl P 34 #[t119, t120] w (Pk R) k) w fun t121 w =>
 GdP t110 false (fun k => Dv P true (bn .gtr 3 true t121 (.int .i64 0)) w k) fun t122 =>
 PickP t110 (.bool true) t122 fun t123 =>
 If t123
 (R (.returned (.bool false)) w)
 (dFl P 30 t1 10 w.drew fun t124 =>
 dL P 4 t124 w.drew fun t125 =>
 dL P 30 t1 w.drew fun t126 =>
 Cl P 61 #[t126] w.drew (Pk R) fun t127 w =>
 kLd P 4 t124 t125 w <|
 Dv P true (bn .eql 4 false t125 t127) w fun t128 =>
 R (.returned t128) w))
theorem e_alarm_fine (h : s_alarm_fine Tryz.prog t0 w R) : Calls Tryz.prog 44 #[t0] w R :=
 en1 (.sq .z (.sq .z (.sq .z (.sq .z (.sq (.sq .z (.cd (.sq .z .z) .z)) (.sq .z (.sq (.sq (.dr (.pur true 0 (.pur false 1 (.pur false 2 (.eff 3 [] (.pur true 4 (.pur true 5 (.pur true 6 (.pur false 7 (.pur false 8 (.eff 9 [] (.pur true 10 (.pur true 11 (.pur true 12 (.pur true 13 (.pur false 14 (.pur true 15 (.pur false 16 (.pur false 21 (.eff 17 [21] (.pur true 18 (.pur true 19 (.eff 20 [21] (.eff 22 [] (.pur true 23 (.pur true 24 .done)))))))))))))))))))))))))) (.cd (.sq .z .z) .z)) (.sq (.dr (.pur true 0 (.pur false 1 (.pur false 2 (.eff 3 [1] (.pur true 4 (.pur true 5 .done))))))) .z)))))))) [t0] Tryz.func44 (by kernel_rfl) (by kernel_rfl) h
theorem n_alarm_fine : Enters Tryz.prog 44 := enters_of Tryz.func44 (by kernel_rfl) rfl
def s_alarm_spent (P : Program) (t0 : Value) (w : World) (R : Ending → World → Prop) : Prop :=
 Bx P 28 t0 w fun t1 w =>
 Al P 25 w fun t2 w =>
 Ld P 25 (.pointer (some ⟨1, 0, none⟩)) w fun t6 w =>
 Al P 25 w fun t3 w =>
 Sto P 25 t3 t6 w fun w =>
 Fa P 28 t1 1 w fun t7 w =>
 Ld P 26 t7 w fun t8 w =>
 Bt P .len #[26] 3 #[t8] w fun t9 w =>
 Lp1 (.int .i64 0) w (fun t10 w k1 =>
 Bn P .lss 3 false t10 t9 w fun t11 w =>
 If t11
 (Ia P 26 t8 t10 w fun t12 w =>
 Ld P 30 t12 w fun t13 w =>
 Al P 30 w fun t5 w =>
 Sto P 30 t5 t13 w fun w =>
 Ld P 25 t3 w fun t14 w =>
 Fa P 30 t5 4 w fun t15 w =>
 Ld P 25 t15 w fun t16 w =>
 Cl P 35 #[t14, t16] w (Pk R) fun t17 w =>
 Ex t17 0 w fun t18 w =>
 Ex t17 1 w fun t19 w =>
 Cl P 52 #[t18, t19] w (Pk R) fun t20 w =>
 Sto P 25 t3 t20 w fun w =>
 Bn P .add 3 true t10 (.int .i64 1) w fun t21 w =>
 k1 t21 w)
 (Ld P 25 t3 w fun t22 w =>
 Sto P 25 t2 t22 w fun w =>
 Rc P 25 t2 w fun r0 =>
 R (.returned r0) w))
theorem e_alarm_spent (h : s_alarm_spent Tryz.prog t0 w R) : Calls Tryz.prog 45 #[t0] w R :=
 en1 (.sq .z (.sq .z (.sq (.sq .z (.bk (.lp [10] [5, 11, 12, 13, 14, 15, 16, 17, 18, 19, 20, 21] (.sq .z (.sq (.cd .z .z) (.sq (.bk (.sq .z .z)) .z)))))) (.sq .z .z)))) [t0] Tryz.func45 (by kernel_rfl) (by kernel_rfl) h
theorem n_alarm_spent : Enters Tryz.prog 45 := enters_of Tryz.func45 (by kernel_rfl) rfl
def s_alarm_year_done (P : Program) (t0 : Value) (w : World) (R : Ending → World → Prop) : Prop :=
 Al P 28 w fun t2 w =>
 Nc t0 w fun t5 w =>
 Fa P 93 t5 0 w fun t6 w =>
 Ld P 28 t6 w fun t7 w =>
 Cl P 13 #[t7] w (Pk R) fun t8 w =>
 Un P .not t8 w fun t9 w =>
 If t9
 (Bd P 28 [] w fun t10 w =>
 Sto P 28 t2 t10 w fun w =>
 Rc P 28 t2 w fun r0 =>
 R (.returned (.tuple #[r0, (.int .i64 280)])) w)
 (Nc t0 w fun t12 w =>
 Fa P 93 t12 0 w fun t13 w =>
 Ld P 28 t13 w fun t14 w =>
 Sto P 28 t2 t14 w fun w =>
 Rc P 28 t2 w fun r0 =>
 R (.returned (.tuple #[r0, (.int .i64 0)])) w)
theorem e_alarm_year_done (h : s_alarm_year_done Tryz.prog t0 w R) : Calls Tryz.prog 51 #[t0] w R :=
 en1 (.sq .z (.sq (.sq .z (.cd (.sq .z .z) .z)) (.sq .z .z))) [t0] Tryz.func51 (by kernel_rfl) (by kernel_rfl) h
theorem n_alarm_year_done : Enters Tryz.prog 51 := enters_of Tryz.func51 (by kernel_rfl) rfl
def s_alarm_must (P : Program) (t0 t1 : Value) (w : World) (R : Ending → World → Prop) : Prop :=
 Bx P 25 t0 w fun t2 w =>
 Al P 25 w fun t4 w =>
 Bn P .neq 46 true t1 (.int .i64 0) w fun t6 w =>
 If t6
 (Bd P 83 [] w fun t7 w =>
 Mi P 83 t7 w fun t8 w =>
 Pn P t8 w (Pk R) fun _ w =>
 Ld P 25 t2 w fun t9 w =>
 Sto P 25 t4 t9 w fun w =>
 Rc P 25 t4 w fun r0 =>
 R (.returned r0) w)
 (Ld P 25 t2 w fun t9x1 w =>
 Sto P 25 t4 t9x1 w fun w =>
 Rc P 25 t4 w fun r0 =>
 R (.returned r0) w)
theorem e_alarm_must (h : s_alarm_must Tryz.prog t0 t1 w R) : Calls Tryz.prog 52 #[t0, t1] w R :=
 en1 (.sq .z (.sq (.sq .z (.cd .z .z)) (.sq .z .z))) [t0, t1] Tryz.func52 (by kernel_rfl) (by kernel_rfl) h
theorem n_alarm_must : Enters Tryz.prog 52 := enters_of Tryz.func52 (by kernel_rfl) rfl
def s_ref28_pick (P : Program) (t0 t1 : Value) (w : World) (R : Ending → World → Prop) : Prop :=
 Bn P .lss 3 true t0 (.int .i64 0) w fun t6 w =>
 If t6
 (Bn P .add 3 true t0 (.int .i64 1) w fun t8 w =>
 Un P .neg t8 w fun t9 w =>
 Bn P .rem 3 false t9 t1 w fun t12 w =>
 R (.returned t12) w)
 (Bn P .rem 3 false t0 t1 w fun t12x1 w =>
 R (.returned t12x1) w)
theorem e_ref28_pick (h : s_ref28_pick Tryz.prog t0 t1 w R) : Calls Tryz.prog 54 #[t0, t1] w R :=
 en1 (.sq .z (.sq (.sq .z (.cd .z .z)) (.sq .z .z))) [t0, t1] Tryz.func54 (by kernel_rfl) (by kernel_rfl) h
theorem n_ref28_pick : Enters Tryz.prog 54 := enters_of Tryz.func54 (by kernel_rfl) rfl
def s_ref28_of (P : Program) (t0 t1 : Value) (w : World) (R : Ending → World → Prop) : Prop :=
 Al P 25 w fun t4 w =>
 Cl P 89 #[t0, t1] w (Pk R) fun t10 w =>
 Ex t10 0 w fun t11 w =>
 Ex t10 1 w fun t12 w =>
 Al P 25 w fun t5 w =>
 Sto P 25 t5 t11 w fun w =>
 Bn P .neq 46 true t12 (.int .i64 0) w fun t14 w =>
 If t14
 (Bd P 25 [] w fun t15 w =>
 Sto P 25 t4 t15 w fun w =>
 Rc P 25 t4 w fun r0 =>
 R (.returned r0) w)
 (Ld P 25 t5 w fun t16 w =>
 Sto P 25 t4 t16 w fun w =>
 Rc P 25 t4 w fun r0 =>
 R (.returned r0) w)
theorem e_ref28_of (h : s_ref28_of Tryz.prog t0 t1 w R) : Calls Tryz.prog 55 #[t0, t1] w R :=
 en1 (.sq .z (.sq .z (.sq (.sq .z (.cd (.sq .z .z) .z)) (.sq .z .z)))) [t0, t1] Tryz.func55 (by kernel_rfl) (by kernel_rfl) h
theorem n_ref28_of : Enters Tryz.prog 55 := enters_of Tryz.func55 (by kernel_rfl) rfl
def s_alarm_of (P : Program) (t0 : Value) (w : World) (R : Ending → World → Prop) : Prop :=
 Bx P 28 t0 w fun t1 w =>
 dFl P 28 t1 0 w.drew fun t3 =>
 dL P 25 t3 w.drew fun t4 =>
 dFl P 28 t1 1 w.drew fun t5 =>
 dL P 26 t5 w.drew fun t6 =>
 Cl P 90 #[t6] w.drew (Pk R) fun t7 w =>
 kLd P 25 t3 t4 w <|
 Dv P true (Instr.build 28 #[(0, t4), (1, t7)]) w fun t8 =>
 Dv P true (Instr.build 93 #[(0, t8)]) w fun t9 =>
 Bx P 93 t9 w fun t10 w =>
 R (.returned t10) w
theorem e_alarm_of (h : s_alarm_of Tryz.prog t0 w R) : Calls Tryz.prog 56 #[t0] w R :=
 en1 (.sq .z (.sq (.dr (.pur true 0 (.pur false 1 (.pur true 2 (.pur false 3 (.eff 4 [1] (.pur true 5 (.pur true 6 (.eff 7 [] (.pur true 8 .done)))))))))) .z)) [t0] Tryz.func56 (by kernel_rfl) (by kernel_rfl) h
theorem n_alarm_of : Enters Tryz.prog 56 := enters_of Tryz.func56 (by kernel_rfl) rfl
def s_alarm_year_all (P : Program) (t0 : Value) (w : World) (R : Ending → World → Prop) : Prop :=
 Bx P 91 t0 w fun t1 w =>
 R (.returned (.func (.func 91) #[] #[t1])) w
theorem e_alarm_year_all (h : s_alarm_year_all Tryz.prog t0 w R) : Calls Tryz.prog 57 #[t0] w R :=
 en1 (.sq .z (.sq .z .z)) [t0] Tryz.func57 (by kernel_rfl) (by kernel_rfl) h
theorem n_alarm_year_all : Enters Tryz.prog 57 := enters_of Tryz.func57 (by kernel_rfl) rfl
def s_alarm_bet (P : Program) (t0 : Value) (w : World) (R : Ending → World → Prop) : Prop :=
 Bx P 101 t0 w fun t1 w =>
 Dv P false (Instr.loadAt 25 (.pointer (some ⟨0, 0, none⟩))) w.drew fun t8 =>
 Dv P false (Instr.loadAt 25 (.pointer (some ⟨1, 0, none⟩))) w.drew fun t11 =>
 (Cw P (.func (.func 95) #[] #[t1]) #[t8] w.drew (Pk R) fun t9 w =>
 Ke P (Instr.loadAt 25 (.pointer (some ⟨1, 0, none⟩))) t11 w <|
 (Cw P (.func (.func 95) #[] #[t1]) #[t11] w (Pk R) fun t12 w =>
 (Al P 25 w fun t4 w =>
 Ke P (Instr.loadAt 25 (.pointer (some ⟨0, 0, none⟩))) t8 w <|
 Ke P (Instr.loadAt 25 (.pointer (some ⟨1, 0, none⟩))) t11 w <|
 Al P 25 w fun t5 w =>
 Ke P (Instr.loadAt 25 (.pointer (some ⟨0, 0, none⟩))) t8 w <|
 Ke P (Instr.loadAt 25 (.pointer (some ⟨1, 0, none⟩))) t11 w <|
 Sto P 25 t4 t9 w fun w =>
 Sto P 25 t5 t12 w fun w =>
 R (.returned (.func (.func 96) #[] #[t4, t5])) w) ∧
 (Al P 25 w fun t5x1 w =>
 Ke P (Instr.loadAt 25 (.pointer (some ⟨0, 0, none⟩))) t8 w <|
 Ke P (Instr.loadAt 25 (.pointer (some ⟨1, 0, none⟩))) t11 w <|
 Al P 25 w fun t4x1 w =>
 Ke P (Instr.loadAt 25 (.pointer (some ⟨0, 0, none⟩))) t8 w <|
 Ke P (Instr.loadAt 25 (.pointer (some ⟨1, 0, none⟩))) t11 w <|
 Sto P 25 t4x1 t9 w fun w =>
 Sto P 25 t5x1 t12 w fun w =>
 R (.returned (.func (.func 96) #[] #[t4x1, t5x1])) w)) ∧
 ((Al P 25 w fun t4x2 w =>
 Ke P (Instr.loadAt 25 (.pointer (some ⟨0, 0, none⟩))) t8 w <|
 Ke P (Instr.loadAt 25 (.pointer (some ⟨1, 0, none⟩))) t11 w <|
 (Cw P (.func (.func 95) #[] #[t1]) #[t11] w (Pk R) fun t12x1 w =>
 Al P 25 w fun t5x2 w =>
 Ke P (Instr.loadAt 25 (.pointer (some ⟨0, 0, none⟩))) t8 w <|
 Ke P (Instr.loadAt 25 (.pointer (some ⟨1, 0, none⟩))) t11 w <|
 Sto P 25 t4x2 t9 w fun w =>
 Sto P 25 t5x2 t12x1 w fun w =>
 R (.returned (.func (.func 96) #[] #[t4x2, t5x2])) w) ∧
 (Al P 25 w fun t5x3 w =>
 Ke P (Instr.loadAt 25 (.pointer (some ⟨0, 0, none⟩))) t8 w <|
 Ke P (Instr.loadAt 25 (.pointer (some ⟨1, 0, none⟩))) t11 w <|
 Cw P (.func (.func 95) #[] #[t1]) #[t11] w (Pk R) fun t12x2 w =>
 Sto P 25 t4x2 t9 w fun w =>
 Sto P 25 t5x3 t12x2 w fun w =>
 R (.returned (.func (.func 96) #[] #[t4x2, t5x3])) w)) ∧
 (Al P 25 w fun t5x4 w =>
 Ke P (Instr.loadAt 25 (.pointer (some ⟨0, 0, none⟩))) t8 w <|
 Ke P (Instr.loadAt 25 (.pointer (some ⟨1, 0, none⟩))) t11 w <|
 (Cw P (.func (.func 95) #[] #[t1]) #[t11] w (Pk R) fun t12x3 w =>
 Al P 25 w fun t4x3 w =>
 Ke P (Instr.loadAt 25 (.pointer (some ⟨0, 0, none⟩))) t8 w <|
 Ke P (Instr.loadAt 25 (.pointer (some ⟨1, 0, none⟩))) t11 w <|
 Sto P 25 t4x3 t9 w fun w =>
 Sto P 25 t5x4 t12x3 w fun w =>
 R (.returned (.func (.func 96) #[] #[t4x3, t5x4])) w) ∧
 (Al P 25 w fun t4x4 w =>
 Ke P (Instr.loadAt 25 (.pointer (some ⟨0, 0, none⟩))) t8 w <|
 Ke P (Instr.loadAt 25 (.pointer (some ⟨1, 0, none⟩))) t11 w <|
 Cw P (.func (.func 95) #[] #[t1]) #[t11] w (Pk R) fun t12x4 w =>
 Sto P 25 t4x4 t9 w fun w =>
 Sto P 25 t5x4 t12x4 w fun w =>
 R (.returned (.func (.func 96) #[] #[t4x4, t5x4])) w)))) ∧
 ((Al P 25 w.drew fun t4x5 w =>
 Ke P (Instr.loadAt 25 (.pointer (some ⟨0, 0, none⟩))) t8 w <|
 Ke P (Instr.loadAt 25 (.pointer (some ⟨1, 0, none⟩))) t11 w <|
 (Cw P (.func (.func 95) #[] #[t1]) #[t8] w (Pk R) fun t9x1 w =>
 Ke P (Instr.loadAt 25 (.pointer (some ⟨1, 0, none⟩))) t11 w <|
 (Cw P (.func (.func 95) #[] #[t1]) #[t11] w (Pk R) fun t12x5 w =>
 Al P 25 w fun t5x5 w =>
 Ke P (Instr.loadAt 25 (.pointer (some ⟨0, 0, none⟩))) t8 w <|
 Ke P (Instr.loadAt 25 (.pointer (some ⟨1, 0, none⟩))) t11 w <|
 Sto P 25 t4x5 t9x1 w fun w =>
 Sto P 25 t5x5 t12x5 w fun w =>
 R (.returned (.func (.func 96) #[] #[t4x5, t5x5])) w) ∧
 (Al P 25 w fun t5x6 w =>
 Ke P (Instr.loadAt 25 (.pointer (some ⟨0, 0, none⟩))) t8 w <|
 Ke P (Instr.loadAt 25 (.pointer (some ⟨1, 0, none⟩))) t11 w <|
 Cw P (.func (.func 95) #[] #[t1]) #[t11] w (Pk R) fun t12x6 w =>
 Sto P 25 t4x5 t9x1 w fun w =>
 Sto P 25 t5x6 t12x6 w fun w =>
 R (.returned (.func (.func 96) #[] #[t4x5, t5x6])) w)) ∧
 (Al P 25 w fun t5x7 w =>
 Ke P (Instr.loadAt 25 (.pointer (some ⟨0, 0, none⟩))) t8 w <|
 Ke P (Instr.loadAt 25 (.pointer (some ⟨1, 0, none⟩))) t11 w <|
 Cw P (.func (.func 95) #[] #[t1]) #[t8] w (Pk R) fun t9x2 w =>
 Ke P (Instr.loadAt 25 (.pointer (some ⟨1, 0, none⟩))) t11 w <|
 Cw P (.func (.func 95) #[] #[t1]) #[t11] w (Pk R) fun t12x7 w =>
 Sto P 25 t4x5 t9x2 w fun w =>
 Sto P 25 t5x7 t12x7 w fun w =>
 R (.returned (.func (.func 96) #[] #[t4x5, t5x7])) w)) ∧
 (Al P 25 w.drew fun t5x8 w =>
 Ke P (Instr.loadAt 25 (.pointer (some ⟨0, 0, none⟩))) t8 w <|
 Ke P (Instr.loadAt 25 (.pointer (some ⟨1, 0, none⟩))) t11 w <|
 (Cw P (.func (.func 95) #[] #[t1]) #[t8] w (Pk R) fun t9x3 w =>
 Ke P (Instr.loadAt 25 (.pointer (some ⟨1, 0, none⟩))) t11 w <|
 (Cw P (.func (.func 95) #[] #[t1]) #[t11] w (Pk R) fun t12x8 w =>
 Al P 25 w fun t4x6 w =>
 Ke P (Instr.loadAt 25 (.pointer (some ⟨0, 0, none⟩))) t8 w <|
 Ke P (Instr.loadAt 25 (.pointer (some ⟨1, 0, none⟩))) t11 w <|
 Sto P 25 t4x6 t9x3 w fun w =>
 Sto P 25 t5x8 t12x8 w fun w =>
 R (.returned (.func (.func 96) #[] #[t4x6, t5x8])) w) ∧
 (Al P 25 w fun t4x7 w =>
 Ke P (Instr.loadAt 25 (.pointer (some ⟨0, 0, none⟩))) t8 w <|
 Ke P (Instr.loadAt 25 (.pointer (some ⟨1, 0, none⟩))) t11 w <|
 Cw P (.func (.func 95) #[] #[t1]) #[t11] w (Pk R) fun t12x9 w =>
 Sto P 25 t4x7 t9x3 w fun w =>
 Sto P 25 t5x8 t12x9 w fun w =>
 R (.returned (.func (.func 96) #[] #[t4x7, t5x8])) w)) ∧
 (Al P 25 w fun t4x8 w =>
 Ke P (Instr.loadAt 25 (.pointer (some ⟨0, 0, none⟩))) t8 w <|
 Ke P (Instr.loadAt 25 (.pointer (some ⟨1, 0, none⟩))) t11 w <|
 Cw P (.func (.func 95) #[] #[t1]) #[t8] w (Pk R) fun t9x4 w =>
 Ke P (Instr.loadAt 25 (.pointer (some ⟨1, 0, none⟩))) t11 w <|
 Cw P (.func (.func 95) #[] #[t1]) #[t11] w (Pk R) fun t12x10 w =>
 Sto P 25 t4x8 t9x4 w fun w =>
 Sto P 25 t5x8 t12x10 w fun w =>
 R (.returned (.func (.func 96) #[] #[t4x8, t5x8])) w)))
theorem e_alarm_bet (h : s_alarm_bet Tryz.prog t0 w R) : Calls Tryz.prog 59 #[t0] w R :=
 en1 (.sq .z (.sq .z (.sq (.dr (.pur true 0 (.pur false 1 (.pur true 3 (.pur false 4 (.alt (.eff 2 [4] (.alt (.eff 5 [] (.alt (.eff 6 [1, 4] (.eff 7 [1, 4] (.eff 8 [] (.eff 9 [] .done)))) (.eff 7 [1, 4] (.eff 6 [1, 4] (.eff 8 [] (.eff 9 [] .done)))))) (.alt (.eff 6 [1, 4] (.alt (.eff 5 [] (.eff 7 [1, 4] (.eff 8 [] (.eff 9 [] .done)))) (.eff 7 [1, 4] (.eff 5 [] (.eff 8 [] (.eff 9 [] .done)))))) (.eff 7 [1, 4] (.alt (.eff 5 [] (.eff 6 [1, 4] (.eff 8 [] (.eff 9 [] .done)))) (.eff 6 [1, 4] (.eff 5 [] (.eff 8 [] (.eff 9 [] .done))))))))) (.alt (.eff 6 [1, 4] (.alt (.eff 2 [4] (.alt (.eff 5 [] (.eff 7 [1, 4] (.eff 8 [] (.eff 9 [] .done)))) (.eff 7 [1, 4] (.eff 5 [] (.eff 8 [] (.eff 9 [] .done)))))) (.eff 7 [1, 4] (.eff 2 [4] (.eff 5 [] (.eff 8 [] (.eff 9 [] .done))))))) (.eff 7 [1, 4] (.alt (.eff 2 [4] (.alt (.eff 5 [] (.eff 6 [1, 4] (.eff 8 [] (.eff 9 [] .done)))) (.eff 6 [1, 4] (.eff 5 [] (.eff 8 [] (.eff 9 [] .done)))))) (.eff 6 [1, 4] (.eff 2 [4] (.eff 5 [] (.eff 8 [] (.eff 9 [] .done)))))))))))))) (.sq .z .z)))) [t0] Tryz.func59 (by kernel_rfl) (by kernel_rfl) h
theorem n_alarm_bet : Enters Tryz.prog 59 := enters_of Tryz.func59 (by kernel_rfl) rfl
def s_alarm_won (P : Program) (t0 : Value) (w : World) (R : Ending → World → Prop) : Prop :=
 Bx P 30 t0 w fun t1 w =>
 dFl P 30 t1 9 w.drew fun t3 =>
 dL P 25 t3 w.drew fun t4 =>
 dFl P 30 t1 4 w.drew fun t5 =>
 dL P 25 t5 w.drew fun t6 =>
 Dv P false (Instr.loadAt 25 (.pointer (some ⟨0, 0, none⟩))) w.drew fun t11 =>
 Cl P 32 #[t4, t6] w.drew (Pk R) fun t7 w =>
 Ke P (Instr.loadAt 25 (.pointer (some ⟨0, 0, none⟩))) t11 w <|
 ExP t7 0 fun t8 =>
 ExP t7 1 fun t9 =>
 Cl P 52 #[t8, t9] w (Pk R) fun t10 w =>
 Ke P (Instr.loadAt 25 (.pointer (some ⟨0, 0, none⟩))) t11 w <|
 Cl P 34 #[t10, t11] w (Pk R) fun t12 w =>
 Dv P true (bn .geq 3 true t12 (.int .i64 0)) w fun t13 =>
 R (.returned t13) w
theorem e_alarm_won (h : s_alarm_won Tryz.prog t0 w R) : Calls Tryz.prog 61 #[t0] w R :=
 en1 (.sq .z (.sq (.dr (.pur true 0 (.pur false 1 (.pur true 2 (.pur false 3 (.pur false 8 (.eff 4 [8] (.pur true 5 (.pur true 6 (.eff 7 [8] (.eff 9 [] (.pur true 10 (.pur true 11 .done))))))))))))) .z)) [t0] Tryz.func61 (by kernel_rfl) (by kernel_rfl) h
theorem n_alarm_won : Enters Tryz.prog 61 := enters_of Tryz.func61 (by kernel_rfl) rfl
def s_alarm_in (P : Program) (t0 t1 t2 : Value) (w : World) (R : Ending → World → Prop) : Prop :=
 Bn P .geq 3 false t0 t1 w fun t9 w =>
 Gd t9 true (fun k => k t0 w) w fun t11 w =>
 Gd t9 true (fun k => k t2 w) w fun t12 w =>
 Gd t9 true (fun k => Bn P .leq 3 false t11 t12 w k) w fun t13 w =>
 Pick t9 t13 (.bool false) w fun t14 w =>
 R (.returned t14) w
theorem e_alarm_in (h : s_alarm_in Tryz.prog t0 t1 t2 w R) : Calls Tryz.prog 64 #[t0, t1, t2] w R :=
 en1 (.sq .z (.sq .z .z)) [t0, t1, t2] Tryz.func64 (by kernel_rfl) (by kernel_rfl) h
theorem n_alarm_in : Enters Tryz.prog 64 := enters_of Tryz.func64 (by kernel_rfl) rfl
def s_alarm_year_all_1 (P : Program) (t0 t1 : Value) (w : World) (R : Ending → World → Prop) : Prop :=
 Ld P 91 t1 w fun t4 w =>
 Nc t4 w fun t5 w =>
 Fa P 93 t5 0 w fun t6 w =>
 Fa P 28 t6 1 w fun t7 w =>
 Ld P 26 t7 w fun t8 w =>
 Bt P .len #[26] 3 #[t8] w fun t9 w =>
 Lp1 (.int .i64 0) w (fun t10 w k1 =>
 Bn P .lss 3 false t10 t9 w fun t11 w =>
 If t11
 (Ld P 91 t1 w fun t15 w =>
 Nc t15 w fun t16 w =>
 Fa P 93 t16 0 w fun t17 w =>
 Fa P 28 t17 1 w fun t18 w =>
 Ld P 26 t18 w fun t19 w =>
 Ia P 26 t19 t10 w fun t21 w =>
 Cw P t0 #[t10, t21] w (Pk R) fun t22 w =>
 Un P .not t22 w fun t23 w =>
 If t23
 (R (.returned (.tuple #[])) w)
 (Bn P .add 3 true t10 (.int .i64 1) w fun t24 w =>
 k1 t24 w))
 (R (.returned (.tuple #[])) w))
theorem e_alarm_year_all_1 (h : s_alarm_year_all_1 Tryz.prog t0 t1 w R) : Calls Tryz.prog 91 #[t0, t1] w R :=
 en1 (.sq .z (.bk (.lp [10] [3, 11, 12, 13, 14, 15, 16, 17, 18, 19, 20, 21, 22, 23, 24] (.sq .z (.sq (.cd .z .z) (.sq (.bk (.sq .z (.sq .z (.cd .z .z)))) .z)))))) [t0, t1] Tryz.func91 (by kernel_rfl) (by kernel_rfl) h
theorem n_alarm_year_all_1 : Enters Tryz.prog 91 := enters_of Tryz.func91 (by kernel_rfl) rfl
def s_alarm_bet_1 (P : Program) (t0 t1 : Value) (w : World) (R : Ending → World → Prop) : Prop :=
 Bx P 25 t0 w fun t2 w =>
 Al P 25 w fun t3 w =>
 Dv P false (Instr.loadAt 25 (.pointer (some ⟨0, 0, none⟩))) w.drew fun t4 =>
 dL P 101 t1 w.drew fun t5 =>
 NcP t5 fun t6 =>
 dFl P 30 t6 5 w.drew fun t7 =>
 dL P 25 t7 w.drew fun t8 =>
 dL P 25 t2 w.drew fun t9 =>
 dL P 101 t1 w.drew fun t10 =>
 NcP t10 fun t11 =>
 dFl P 30 t11 3 w.drew fun t12 =>
 dL P 25 t12 w.drew fun t13 =>
 Cl P 31 #[t9, t13] w.drew (Pk R) fun t14 w =>
 Ke P (Instr.loadAt 25 (.pointer (some ⟨0, 0, none⟩))) t4 w <|
 kLd P 101 t1 t5 w <|
 kLd P 25 t7 t8 w <|
 ExP t14 0 fun t15 =>
 ExP t14 1 fun t16 =>
 Cl P 52 #[t15, t16] w (Pk R) fun t17 w =>
 Ke P (Instr.loadAt 25 (.pointer (some ⟨0, 0, none⟩))) t4 w <|
 kLd P 101 t1 t5 w <|
 kLd P 25 t7 t8 w <|
 Cl P 32 #[t8, t17] w (Pk R) fun t18 w =>
 Ke P (Instr.loadAt 25 (.pointer (some ⟨0, 0, none⟩))) t4 w <|
 ExP t18 0 fun t19 =>
 ExP t18 1 fun t20 =>
 Cl P 52 #[t19, t20] w (Pk R) fun t21 w =>
 Ke P (Instr.loadAt 25 (.pointer (some ⟨0, 0, none⟩))) t4 w <|
 Cl P 35 #[t4, t21] w (Pk R) fun t22 w =>
 ExP t22 0 fun t23 =>
 ExP t22 1 fun t24 =>
 Cl P 52 #[t23, t24] w (Pk R) fun t25 w =>
 Sto P 25 t3 t25 w fun w =>
 Rc P 25 t3 w fun r0 =>
 R (.returned r0) w
theorem e_alarm_bet_1 (h : s_alarm_bet_1 Tryz.prog t0 t1 w R) : Calls Tryz.prog 95 #[t0, t1] w R :=
 en1 (.sq .z (.sq (.dr (.pur false 0 (.pur false 1 (.pur true 2 (.pur true 3 (.pur false 4 (.pur false 5 (.pur false 6 (.pur true 7 (.pur true 8 (.pur false 9 (.eff 10 [0, 1, 4] (.pur true 11 (.pur true 12 (.eff 13 [0, 1, 4] (.eff 14 [0] (.pur true 15 (.pur true 16 (.eff 17 [0] (.eff 18 [] (.pur true 19 (.pur true 20 (.eff 21 [] (.eff 22 [] .done)))))))))))))))))))))))) .z)) [t0, t1] Tryz.func95 (by kernel_rfl) (by kernel_rfl) h
theorem n_alarm_bet_1 : Enters Tryz.prog 95 := enters_of Tryz.func95 (by kernel_rfl) rfl
def s_alarm_bet_2 (P : Program) (t0 t1 t2 : Value) (w : World) (R : Ending → World → Prop) : Prop :=
 Al P 25 w fun t4 w =>
 If t0
 (Ld P 25 t1 w fun t6 w =>
 Sto P 25 t4 t6 w fun w =>
 Rc P 25 t4 w fun r0 =>
 R (.returned r0) w)
 (Ld P 25 t2 w fun t7 w =>
 Sto P 25 t4 t7 w fun w =>
 Rc P 25 t4 w fun r0 =>
 R (.returned r0) w)
theorem e_alarm_bet_2 (h : s_alarm_bet_2 Tryz.prog t0 t1 t2 w R) : Calls Tryz.prog 96 #[t0, t1, t2] w R :=
 en1 (.sq .z (.sq (.sq .z (.cd (.sq .z .z) .z)) (.sq .z .z))) [t0, t1, t2] Tryz.func96 (by kernel_rfl) (by kernel_rfl) h
theorem n_alarm_bet_2 : Enters Tryz.prog 96 := enters_of Tryz.func96 (by kernel_rfl) rfl
end Go.Proofs.YtnkmbjedcjcccaaGreatDoor
