/-
  Formulas of functions. By an AI agent.
-/
import Derived.Test.YtjmdnjnjepinoaaGreatDoorEng
import Derived.Test.YtjmdnjnjepinoaaGreatDoorProg
set_option linter.unusedSimpArgs false
set_option linter.unusedVariables false
set_option linter.unusedSectionVars false
namespace Go.Proofs.YtjmdnjnjepinoaaGreatDoor
open Go Go.Eng Go.Shelf
set_option maxRecDepth 100000
variable {t0 t1 t2 t3 : Value} {w : World} {R : Ending → World → Prop}
def s_law26_sane (P : Program) (w : World) (R : Ending → World → Prop) : Prop :=
 Cl P 29 #[(.int .i64 1), (.int .i64 10)] w (Pk R) fun t18 w =>
 Bd P 25 [(1, (.int .i64 1)), (2, t18), (3, (.int .i64 5))] w fun t19 w =>
 Al P 25 w fun t1 w =>
 Sto P 25 t1 t19 w fun w =>
 Cl P 29 #[(.int .i64 1), (.int .i64 1)] w (Pk R) fun t21 w =>
 Cl P 29 #[(.int .i64 1), (.int .i64 1)] w (Pk R) fun t22 w =>
 Cl P 29 #[(.int .i64 1), (.int .i64 1)] w (Pk R) fun t23 w =>
 Bs P 28 3 [(0, t21), (1, t22), (2, t23)] w fun t24 w =>
 Cl P 24 #[(.int .i64 100), t24] w (Pk R) fun t25 w =>
 Ex t25 0 w fun t26 w =>
 Ex t25 1 w fun t27 w =>
 Cl P 29 #[(.int .i64 1), (.int .i64 2)] w (Pk R) fun t29 w =>
 Cl P 29 #[(.int .i64 0), (.int .i64 1)] w (Pk R) fun t30 w =>
 Cl P 29 #[(.int .i64 1), (.int .i64 3)] w (Pk R) fun t31 w =>
 Bs P 28 3 [(0, t29), (1, t30), (2, t31)] w fun t32 w =>
 Cl P 24 #[(.int .i64 10), t32] w (Pk R) fun t33 w =>
 Ex t33 0 w fun t34 w =>
 Ex t33 1 w fun t35 w =>
 Cl P 29 #[(.int .i64 1), (.int .i64 10)] w (Pk R) fun t37 w =>
 Cl P 29 #[(.int .i64 1), (.int .i64 5)] w (Pk R) fun t38 w =>
 Cl P 29 #[(.int .i64 7), (.int .i64 10)] w (Pk R) fun t39 w =>
 Bs P 28 3 [(0, t37), (1, t38), (2, t39)] w fun t40 w =>
 Cl P 24 #[(.int .i64 1), t40] w (Pk R) fun t41 w =>
 Ex t41 0 w fun t42 w =>
 Ex t41 1 w fun t43 w =>
 Ld P 25 t1 w fun t45 w =>
 Bs P 27 5 [(0, (.int .i64 30)), (1, (.int .i64 0)), (2, (.int .i64 25)), (3, (.int .i64 19)), (4, (.int .i64 40))] w fun t46 w =>
 Cl P 13 #[t45, t46] w (Pk R) fun t47 w =>
 Ex t47 0 w fun t48 w =>
 Ex t47 1 w fun t49 w =>
 Cl P 29 #[(.int .i64 0), (.int .i64 1)] w (Pk R) fun t51 w =>
 Bs P 28 1 [(0, t51)] w fun t52 w =>
 Cl P 24 #[(.int .i64 1), t52] w (Pk R) fun t53 w =>
 Ex t53 0 w fun t54 w =>
 Ex t53 1 w fun t55 w =>
 Jn2 (fun k1 =>
 dL P 25 t1 w.drew fun t57 =>
 Cl P 29 #[(.int .i64 1), (.int .i64 1)] w.drew (Pk R) fun t58 w =>
 kLd P 25 t1 t57 w <|
 Cl P 29 #[(.int .i64 0), (.int .i64 1)] w (Pk R) fun t59 w =>
 kLd P 25 t1 t57 w <|
 Cl P 29 #[(.int .i64 0), (.int .i64 1)] w (Pk R) fun t60 w =>
 kLd P 25 t1 t57 w <|
 Cl P 29 #[(.int .i64 0), (.int .i64 1)] w (Pk R) fun t61 w =>
 kLd P 25 t1 t57 w <|
 (Bs P 28 4 [(0, t58), (1, t59), (2, t60), (3, t61)] w fun t62 w =>
 kLd P 25 t1 t57 w <|
 Dv P true (Instr.build 31 #[(0, (.int .i64 3)), (1, (.int .i64 30)), (2, t62)]) w fun t63 =>
 Cl P 29 #[(.int .i64 0), (.int .i64 1)] w (Pk R) fun t64 w =>
 kLd P 25 t1 t57 w <|
 Cl P 29 #[(.int .i64 1), (.int .i64 1)] w (Pk R) fun t65 w =>
 kLd P 25 t1 t57 w <|
 Cl P 29 #[(.int .i64 0), (.int .i64 1)] w (Pk R) fun t66 w =>
 kLd P 25 t1 t57 w <|
 Cl P 29 #[(.int .i64 1), (.int .i64 1)] w (Pk R) fun t67 w =>
 kLd P 25 t1 t57 w <|
 Bs P 28 4 [(0, t64), (1, t65), (2, t66), (3, t67)] w fun t68 w =>
 kLd P 25 t1 t57 w <|
 Dv P true (Instr.build 31 #[(0, (.int .i64 4)), (1, (.int .i64 25)), (2, t68)]) w fun t69 =>
 Bs P 35 2 [(0, t63), (1, t69)] w fun t70 w =>
 kLd P 25 t1 t57 w <|
 Cl P 18 #[t57, t70] w (Pk R) fun t71 w =>
 ExP t71 0 fun t72 =>
 ExP t71 1 fun t73 =>
 k1 t72 t73 w) ∧
 (Cl P 29 #[(.int .i64 0), (.int .i64 1)] w (Pk R) fun t64x1 w =>
 kLd P 25 t1 t57 w <|
 (Bs P 28 4 [(0, t58), (1, t59), (2, t60), (3, t61)] w fun t62x1 w =>
 kLd P 25 t1 t57 w <|
 Dv P true (Instr.build 31 #[(0, (.int .i64 3)), (1, (.int .i64 30)), (2, t62x1)]) w fun t63x1 =>
 Cl P 29 #[(.int .i64 1), (.int .i64 1)] w (Pk R) fun t65x1 w =>
 kLd P 25 t1 t57 w <|
 Cl P 29 #[(.int .i64 0), (.int .i64 1)] w (Pk R) fun t66x1 w =>
 kLd P 25 t1 t57 w <|
 Cl P 29 #[(.int .i64 1), (.int .i64 1)] w (Pk R) fun t67x1 w =>
 kLd P 25 t1 t57 w <|
 Bs P 28 4 [(0, t64x1), (1, t65x1), (2, t66x1), (3, t67x1)] w fun t68x1 w =>
 kLd P 25 t1 t57 w <|
 Dv P true (Instr.build 31 #[(0, (.int .i64 4)), (1, (.int .i64 25)), (2, t68x1)]) w fun t69x1 =>
 Bs P 35 2 [(0, t63x1), (1, t69x1)] w fun t70x1 w =>
 kLd P 25 t1 t57 w <|
 Cl P 18 #[t57, t70x1] w (Pk R) fun t71x1 w =>
 ExP t71x1 0 fun t72x1 =>
 ExP t71x1 1 fun t73x1 =>
 k1 t72x1 t73x1 w) ∧
 (Cl P 29 #[(.int .i64 1), (.int .i64 1)] w (Pk R) fun t65x2 w =>
 kLd P 25 t1 t57 w <|
 (Bs P 28 4 [(0, t58), (1, t59), (2, t60), (3, t61)] w fun t62x2 w =>
 kLd P 25 t1 t57 w <|
 Dv P true (Instr.build 31 #[(0, (.int .i64 3)), (1, (.int .i64 30)), (2, t62x2)]) w fun t63x2 =>
 Cl P 29 #[(.int .i64 0), (.int .i64 1)] w (Pk R) fun t66x2 w =>
 kLd P 25 t1 t57 w <|
 Cl P 29 #[(.int .i64 1), (.int .i64 1)] w (Pk R) fun t67x2 w =>
 kLd P 25 t1 t57 w <|
 Bs P 28 4 [(0, t64x1), (1, t65x2), (2, t66x2), (3, t67x2)] w fun t68x2 w =>
 kLd P 25 t1 t57 w <|
 Dv P true (Instr.build 31 #[(0, (.int .i64 4)), (1, (.int .i64 25)), (2, t68x2)]) w fun t69x2 =>
 Bs P 35 2 [(0, t63x2), (1, t69x2)] w fun t70x2 w =>
 kLd P 25 t1 t57 w <|
 Cl P 18 #[t57, t70x2] w (Pk R) fun t71x2 w =>
 ExP t71x2 0 fun t72x2 =>
 ExP t71x2 1 fun t73x2 =>
 k1 t72x2 t73x2 w) ∧
 (Cl P 29 #[(.int .i64 0), (.int .i64 1)] w (Pk R) fun t66x3 w =>
 kLd P 25 t1 t57 w <|
 (Bs P 28 4 [(0, t58), (1, t59), (2, t60), (3, t61)] w fun t62x3 w =>
 kLd P 25 t1 t57 w <|
 Dv P true (Instr.build 31 #[(0, (.int .i64 3)), (1, (.int .i64 30)), (2, t62x3)]) w fun t63x3 =>
 Cl P 29 #[(.int .i64 1), (.int .i64 1)] w (Pk R) fun t67x3 w =>
 kLd P 25 t1 t57 w <|
 Bs P 28 4 [(0, t64x1), (1, t65x2), (2, t66x3), (3, t67x3)] w fun t68x3 w =>
 kLd P 25 t1 t57 w <|
 Dv P true (Instr.build 31 #[(0, (.int .i64 4)), (1, (.int .i64 25)), (2, t68x3)]) w fun t69x3 =>
 Bs P 35 2 [(0, t63x3), (1, t69x3)] w fun t70x3 w =>
 kLd P 25 t1 t57 w <|
 Cl P 18 #[t57, t70x3] w (Pk R) fun t71x3 w =>
 ExP t71x3 0 fun t72x3 =>
 ExP t71x3 1 fun t73x3 =>
 k1 t72x3 t73x3 w) ∧
 (Cl P 29 #[(.int .i64 1), (.int .i64 1)] w (Pk R) fun t67x4 w =>
 kLd P 25 t1 t57 w <|
 (Bs P 28 4 [(0, t58), (1, t59), (2, t60), (3, t61)] w fun t62x4 w =>
 kLd P 25 t1 t57 w <|
 Dv P true (Instr.build 31 #[(0, (.int .i64 3)), (1, (.int .i64 30)), (2, t62x4)]) w fun t63x4 =>
 Bs P 28 4 [(0, t64x1), (1, t65x2), (2, t66x3), (3, t67x4)] w fun t68x4 w =>
 kLd P 25 t1 t57 w <|
 Dv P true (Instr.build 31 #[(0, (.int .i64 4)), (1, (.int .i64 25)), (2, t68x4)]) w fun t69x4 =>
 Bs P 35 2 [(0, t63x4), (1, t69x4)] w fun t70x4 w =>
 kLd P 25 t1 t57 w <|
 Cl P 18 #[t57, t70x4] w (Pk R) fun t71x4 w =>
 ExP t71x4 0 fun t72x4 =>
 ExP t71x4 1 fun t73x4 =>
 k1 t72x4 t73x4 w) ∧
 (Bs P 28 4 [(0, t64x1), (1, t65x2), (2, t66x3), (3, t67x4)] w fun t68x5 w =>
 kLd P 25 t1 t57 w <|
 Dv P true (Instr.build 31 #[(0, (.int .i64 4)), (1, (.int .i64 25)), (2, t68x5)]) w fun t69x5 =>
 Bs P 28 4 [(0, t58), (1, t59), (2, t60), (3, t61)] w fun t62x5 w =>
 kLd P 25 t1 t57 w <|
 Dv P true (Instr.build 31 #[(0, (.int .i64 3)), (1, (.int .i64 30)), (2, t62x5)]) w fun t63x5 =>
 Bs P 35 2 [(0, t63x5), (1, t69x5)] w fun t70x5 w =>
 kLd P 25 t1 t57 w <|
 Cl P 18 #[t57, t70x5] w (Pk R) fun t71x5 w =>
 ExP t71x5 0 fun t72x5 =>
 ExP t71x5 1 fun t73x5 =>
 k1 t72x5 t73x5 w))))))
 (fun t12 t13 w =>
 Cl P 21 #[t12] w (Pk R) fun t76 w =>
 Ex t76 0 w fun t77 w =>
 Ex t76 1 w fun t78 w =>
 Bs P 27 3 [(0, (.int .i64 34)), (1, (.int .i64 33)), (2, (.int .i64 33))] w fun t80 w =>
 Cl P 17 #[t26, t80] w (Pk R) fun t81 w =>
 Gd t81 true (fun k => k t34 w) w fun t83 w =>
 Gd t81 true (fun k => Bs P 27 3 [(0, (.int .i64 6)), (1, (.int .i64 0)), (2, (.int .i64 4))] w k) w fun t84 w =>
 Gd t81 true (fun k => Cl P 17 #[t83, t84] w (Pk R) k) w fun t85 w =>
 Pick t81 t85 (.bool false) w fun t86 w =>
 Gd t86 true (fun k => k t42 w) w fun t88 w =>
 Gd t86 true (fun k => Bs P 27 3 [(0, (.int .i64 0)), (1, (.int .i64 0)), (2, (.int .i64 1))] w k) w fun t89 w =>
 Gd t86 true (fun k => Cl P 17 #[t88, t89] w (Pk R) k) w fun t90 w =>
 Pick t86 t90 (.bool false) w fun t91 w =>
 Bd P 67 [(0, (.int .i64 4)), (1, (.int .i64 1)), (2, (.int .i64 1))] w fun t93 w =>
 Bd P 67 [(0, (.int .i64 4)), (1, (.int .i64 3)), (2, (.int .i64 1))] w fun t94 w =>
 Bs P 32 2 [(0, t93), (1, t94)] w fun t95 w =>
 Cl P 20 #[t12, t95] w (Pk R) fun t96 w =>
 Bn P .eql 39 true t27 (.int .i64 0) w fun t98 w =>
 Gd t98 true (fun k => k t35 w) w fun t100 w =>
 Gd t98 true (fun k => Bn P .eql 39 true t100 (.int .i64 0) w k) w fun t101 w =>
 Pick t98 t101 (.bool false) w fun t102 w =>
 Gd t102 true (fun k => k t43 w) w fun t104 w =>
 Gd t102 true (fun k => Bn P .eql 39 true t104 (.int .i64 0) w k) w fun t105 w =>
 Pick t102 t105 (.bool false) w fun t106 w =>
 Gd t106 true (fun k => k t49 w) w fun t108 w =>
 Gd t106 true (fun k => Bn P .eql 39 true t108 (.int .i64 0) w k) w fun t109 w =>
 Pick t106 t109 (.bool false) w fun t110 w =>
 Gd t110 true (fun k => k t55 w) w fun t112 w =>
 Gd t110 true (fun k => Bn P .eql 39 true t112 (.int .i64 260) w k) w fun t113 w =>
 Pick t110 t113 (.bool false) w fun t114 w =>
 Gd t114 true (fun k => k t13 w) w fun t116 w =>
 Gd t114 true (fun k => Bn P .eql 39 true t116 (.int .i64 0) w k) w fun t117 w =>
 Pick t114 t117 (.bool false) w fun t118 w =>
 Gd t118 true (fun k => k t78 w) w fun t120 w =>
 Gd t118 true (fun k => Bn P .eql 39 true t120 (.int .i64 0) w k) w fun t121 w =>
 Pick t118 t121 (.bool false) w fun t122 w =>
 Gd t122 true (fun k => k t91 w) w fun t124 w =>
 Pick t122 t124 (.bool false) w fun t125 w =>
 Gd t125 true (fun k => k t96 w) w fun t127 w =>
 Pick t125 t127 (.bool false) w fun t128 w =>
 Gd t128 true (fun k => k t48 w) w fun t130 w =>
 Gd t128 true (fun k => Bs P 27 5 [(0, (.int .i64 0)), (1, (.int .i64 0)), (2, (.int .i64 2)), (3, (.int .i64 1)), (4, (.int .i64 2))] w k) w fun t131 w =>
 Gd t128 true (fun k => Cl P 17 #[t130, t131] w (Pk R) k) w fun t132 w =>
 Pick t128 t132 (.bool false) w fun t133 w =>
 Gd t133 true (fun k => k t77 w) w fun t135 w =>
 Gd t133 true (fun k => Bs P 27 4 [(0, (.int .i64 0)), (1, (.int .i64 1)), (2, (.int .i64 0)), (3, (.int .i64 1))] w k) w fun t136 w =>
 Gd t133 true (fun k => Cl P 17 #[t135, t136] w (Pk R) k) w fun t137 w =>
 Pick t133 t137 (.bool false) w fun t138 w =>
 Gd t138 true (fun k => Ld P 25 t1 w k) w fun t140 w =>
 Gd t138 true (fun k => Cl P 15 #[t140] w (Pk R) k) w fun t141 w =>
 Pick t138 t141 (.bool false) w fun t142 w =>
 Gd t142 true (fun k => Bd P 25 [] w k) w fun t144 w =>
 Gd t142 true (fun k => Cl P 15 #[t144] w (Pk R) k) w fun t145 w =>
 Gd t142 true (fun k => Un P .not t145 w k) w fun t146 w =>
 Pick t142 t146 (.bool false) w fun t147 w =>
 R (.returned t147) w)
theorem e_law26_sane (h : s_law26_sane Tryz.prog  w R) : Calls Tryz.prog 9 #[] w R :=
 en1 (.sq .z (.sq .z (.sq .z (.sq .z (.sq .z (.sq .z (.sq .z (.jn [12, 13] [56, 57, 58, 59, 60, 61, 62, 63, 64, 65, 66, 67, 68, 69, 70, 71, 72, 73] (.dr (.pur false 0 (.eff 1 [0] (.eff 2 [0] (.eff 3 [0] (.eff 4 [0] (.alt (.eff 5 [0] (.pur true 6 (.eff 7 [0] (.eff 8 [0] (.eff 9 [0] (.eff 10 [0] (.eff 11 [0] (.pur true 12 (.eff 13 [0] (.eff 14 [] (.pur true 15 (.pur true 16 (.pur true 17 (.pur true 18 (.pur true 19 .done))))))))))))))) (.eff 7 [0] (.alt (.eff 5 [0] (.pur true 6 (.eff 8 [0] (.eff 9 [0] (.eff 10 [0] (.eff 11 [0] (.pur true 12 (.eff 13 [0] (.eff 14 [] (.pur true 15 (.pur true 16 (.pur true 17 (.pur true 18 (.pur true 19 .done)))))))))))))) (.eff 8 [0] (.alt (.eff 5 [0] (.pur true 6 (.eff 9 [0] (.eff 10 [0] (.eff 11 [0] (.pur true 12 (.eff 13 [0] (.eff 14 [] (.pur true 15 (.pur true 16 (.pur true 17 (.pur true 18 (.pur true 19 .done))))))))))))) (.eff 9 [0] (.alt (.eff 5 [0] (.pur true 6 (.eff 10 [0] (.eff 11 [0] (.pur true 12 (.eff 13 [0] (.eff 14 [] (.pur true 15 (.pur true 16 (.pur true 17 (.pur true 18 (.pur true 19 .done)))))))))))) (.eff 10 [0] (.alt (.eff 5 [0] (.pur true 6 (.eff 11 [0] (.pur true 12 (.eff 13 [0] (.eff 14 [] (.pur true 15 (.pur true 16 (.pur true 17 (.pur true 18 (.pur true 19 .done))))))))))) (.eff 11 [0] (.pur true 12 (.eff 5 [0] (.pur true 6 (.eff 13 [0] (.eff 14 [] (.pur true 15 (.pur true 16 (.pur true 17 (.pur true 18 (.pur true 19 .done)))))))))))))))))))))))))) (.sq .z (.sq .z (.sq .z (.sq .z .z)))))))))))) [] Tryz.func9 (by kernel_rfl) (by kernel_rfl) h
theorem n_law26_sane : Enters Tryz.prog 9 := enters_of Tryz.func9 (by kernel_rfl) rfl
def s_law26_cut (P : Program) (t0 : Value) (w : World) (R : Ending → World → Prop) : Prop :=
 Lp2 (.slice none 0 0) (.int .i64 0) w (fun t3 t4 w k1 =>
 Bt P .len #[28] 3 #[t0] w fun t7 w =>
 Bn P .lss 3 false t4 t7 w fun t8 w =>
 Gd t8 true (fun k => k t4 w) w fun t10 w =>
 Gd t8 true (fun k => Bn P .lss 3 true t10 (.int .i64 13) w k) w fun t11 w =>
 Pick t8 t11 (.bool false) w fun t12 w =>
 If t12
 (dIx P 28 t0 t4 w.drew fun t18 =>
 dFl P 23 t18 0 w.drew fun t19 =>
 dL P 9 t19 w.drew fun t20 =>
 dIx P 28 t0 t4 w.drew fun t23 =>
 dFl P 23 t23 0 w.drew fun t24 =>
 dL P 9 t24 w.drew fun t25 =>
 Dv P true (bV .len #[9] 3 #[t25]) w.drew fun t26 =>
 Dv P true (bV .min #[3, 3] 3 #[t26, (.int .i64 50)]) w.drew fun t27 =>
 Dv P true (Instr.sliceAt 9 t20 none (some t27) none) w.drew fun t28 =>
 dIx P 28 t0 t4 w.drew fun t31 =>
 dFl P 23 t31 1 w.drew fun t32 =>
 dL P 9 t32 w.drew fun t33 =>
 dIx P 28 t0 t4 w.drew fun t36 =>
 dFl P 23 t36 1 w.drew fun t37 =>
 dL P 9 t37 w.drew fun t38 =>
 Dv P true (bV .len #[9] 3 #[t38]) w.drew fun t39 =>
 Dv P true (bV .min #[3, 3] 3 #[t39, (.int .i64 50)]) w.drew fun t40 =>
 Dv P true (Instr.sliceAt 9 t33 none (some t40) none) w.drew fun t41 =>
 Dv P true (Instr.build 23 #[(0, t28), (1, t41)]) w.drew fun t42 =>
 Bs P 28 1 [(0, t42)] w.drew fun t43 w =>
 Bt P .append #[28, 28] 28 #[t3, t43] w fun t44 w =>
 Bn P .add 3 true t4 (.int .i64 1) w fun t14 w =>
 k1 t44 t14 w)
 (R (.returned t3) w))
theorem e_law26_cut (h : s_law26_cut Tryz.prog t0 w R) : Calls Tryz.prog 10 #[t0] w R :=
 en1 (.sq .z (.sq .z (.sq (.sq .z (.bk (.lp [3, 4] [5, 6, 7, 8, 9, 10, 11, 12, 13, 14, 15, 16, 17, 18, 19, 20, 21, 22, 23, 24, 25, 26, 27, 28, 29, 30, 31, 32, 33, 34, 35, 36, 37, 38, 39, 40, 41, 42, 43, 44] (.sq (.sq .z (.cd .z .z)) (.sq (.bk (.dr (.pur true 0 (.pur true 1 (.pur true 2 (.pur true 3 (.pur true 4 (.pur false 5 (.pur true 6 (.pur true 7 (.pur true 8 (.pur true 9 (.pur false 10 (.pur true 11 (.pur true 12 (.pur true 13 (.pur true 14 (.pur true 15 (.pur true 16 (.pur true 17 (.pur false 18 (.pur true 19 (.pur true 20 (.pur true 21 (.pur true 22 (.pur false 23 (.pur true 24 (.pur true 25 (.pur true 26 (.pur true 27 (.eff 28 [] (.eff 29 [] (.pur true 30 .done))))))))))))))))))))))))))))))))) .z))))) (.sq .z .z)))) [t0] Tryz.func10 (by kernel_rfl) (by kernel_rfl) h
theorem n_law26_cut : Enters Tryz.prog 10 := enters_of Tryz.func10 (by kernel_rfl) rfl
def s_ref26_Requests (P : Program) (t0 : Value) (w : World) (R : Ending → World → Prop) : Prop :=
 Lp2 (.slice none 0 0) (.int .i64 0) w (fun t3 t4 w k1 =>
 Bt P .len #[29] 3 #[t0] w fun t8 w =>
 Bn P .lss 3 false t4 t8 w fun t9 w =>
 Gd t9 true (fun k => k t4 w) w fun t11 w =>
 Gd t9 true (fun k => Bn P .lss 3 true t11 (.int .i64 12) w k) w fun t12 w =>
 Pick t9 t12 (.bool false) w fun t13 w =>
 If t13
 (Jn1 (fun k2 =>
 Dv P true (bn .mul 3 true (.int .i64 3) t4) w.drew fun t17 =>
 dIx P 29 t0 t4 w.drew fun t20 =>
 Dv P true (Instr.indexAt 69 t20 (.int .i64 0)) w.drew fun t21 =>
 dL P 3 t21 w.drew fun t22 =>
 dIx P 29 t0 t4 w.drew fun t27 =>
 Dv P true (Instr.indexAt 69 t27 (.int .i64 0)) w.drew fun t28 =>
 dL P 3 t28 w.drew fun t29 =>
 Dv P true (bn .quo 3 true t29 (.int .i64 3)) w.drew fun t30 =>
 (Cl P 35 #[t22, (.int .i64 3)] w.drew (Pk R) fun t23 w =>
 kLd P 3 t28 t29 w <|
 Dv P true (bn .add 3 false t17 t23) w fun t24 =>
 (Cl P 35 #[t30, (.int .i64 60)] w (Pk R) fun t31 w =>
 Dv P true (bn .sub 3 true t31 (.int .i64 15)) w fun t32 =>
 Dv P true (Instr.build 31 #[(0, t24), (1, t32)]) w fun t33 =>
 Al P 31 w fun t5 w =>
 kLd P 3 t21 t22 w <|
 kLd P 3 t28 t29 w <|
 Sto P 31 t5 t33 w fun w =>
 k2 t5 w) ∧
 (Al P 31 w fun t5x1 w =>
 kLd P 3 t21 t22 w <|
 kLd P 3 t28 t29 w <|
 Cl P 35 #[t30, (.int .i64 60)] w (Pk R) fun t31x1 w =>
 Dv P true (bn .sub 3 true t31x1 (.int .i64 15)) w fun t32x1 =>
 Dv P true (Instr.build 31 #[(0, t24), (1, t32x1)]) w fun t33x1 =>
 Sto P 31 t5x1 t33x1 w fun w =>
 k2 t5x1 w)) ∧
 (Al P 31 w.drew fun t5x2 w =>
 kLd P 3 t21 t22 w <|
 kLd P 3 t28 t29 w <|
 Cl P 35 #[t22, (.int .i64 3)] w (Pk R) fun t23x1 w =>
 kLd P 3 t28 t29 w <|
 Dv P true (bn .add 3 false t17 t23x1) w fun t24x1 =>
 Cl P 35 #[t30, (.int .i64 60)] w (Pk R) fun t31x2 w =>
 Dv P true (bn .sub 3 true t31x2 (.int .i64 15)) w fun t32x2 =>
 Dv P true (Instr.build 31 #[(0, t24x1), (1, t32x2)]) w fun t33x2 =>
 Sto P 31 t5x2 t33x2 w fun w =>
 k2 t5x2 w))
 (fun t5x3 w =>
 Jn0 (fun k3 =>
 Fa P 31 t5x3 1 w fun t34 w =>
 Ld P 3 t34 w fun t35 w =>
 Bn P .leq 3 true t35 (.int .i64 0) w fun t36 w =>
 If t36
 (Fa P 31 t5x3 1 w fun t37 w =>
 Sto P 3 t37 (.int .i64 0) w fun w =>
 k3 w)
 (dIx P 29 t0 t4 w.drew fun t40 =>
 Dv P true (Instr.indexAt 69 t40 (.int .i64 1)) w.drew fun t41 =>
 dL P 3 t41 w.drew fun t42 =>
 dIx P 29 t0 t4 w.drew fun t45 =>
 Dv P true (Instr.indexAt 69 t45 (.int .i64 2)) w.drew fun t46 =>
 dL P 3 t46 w.drew fun t47 =>
 dIx P 29 t0 t4 w.drew fun t51 =>
 Dv P true (Instr.indexAt 69 t51 (.int .i64 2)) w.drew fun t52 =>
 dL P 3 t52 w.drew fun t53 =>
 dIx P 29 t0 t4 w.drew fun t56 =>
 Dv P true (Instr.indexAt 69 t56 (.int .i64 3)) w.drew fun t57 =>
 dL P 3 t57 w.drew fun t58 =>
 dIx P 29 t0 t4 w.drew fun t62 =>
 Dv P true (Instr.indexAt 69 t62 (.int .i64 3)) w.drew fun t63 =>
 dL P 3 t63 w.drew fun t64 =>
 dIx P 29 t0 t4 w.drew fun t67 =>
 Dv P true (Instr.indexAt 69 t67 (.int .i64 4)) w.drew fun t68 =>
 dL P 3 t68 w.drew fun t69 =>
 dIx P 29 t0 t4 w.drew fun t73 =>
 Dv P true (Instr.indexAt 69 t73 (.int .i64 4)) w.drew fun t74 =>
 dL P 3 t74 w.drew fun t75 =>
 Cl P 36 #[t42, t47] w.drew (Pk R) fun t48 w =>
 kLd P 3 t52 t53 w <|
 kLd P 3 t57 t58 w <|
 kLd P 3 t63 t64 w <|
 kLd P 3 t68 t69 w <|
 kLd P 3 t74 t75 w <|
 Cl P 36 #[t53, t58] w (Pk R) fun t59 w =>
 kLd P 3 t63 t64 w <|
 kLd P 3 t68 t69 w <|
 kLd P 3 t74 t75 w <|
 Cl P 36 #[t64, t69] w (Pk R) fun t70 w =>
 kLd P 3 t74 t75 w <|
 Cl P 35 #[t75, (.int .i64 3)] w (Pk R) fun t76 w =>
 Dv P true (bn .add 3 true (.int .i64 1) t76) w fun t77 =>
 Cl P 37 #[t77] w (Pk R) fun t78 w =>
 Bs P 28 4 [(0, t48), (1, t59), (2, t70), (3, t78)] w fun t79 w =>
 dFl P 31 t5x3 2 w fun t80 =>
 Sto P 28 t80 t79 w fun w =>
 k3 w))
 (fun w =>
 Ld P 31 t5x3 w fun t82 w =>
 Bs P 35 1 [(0, t82)] w fun t83 w =>
 Bt P .append #[35, 35] 35 #[t3, t83] w fun t84 w =>
 Bn P .add 3 true t4 (.int .i64 1) w fun t15 w =>
 k1 t84 t15 w)))
 (R (.returned t3) w))
theorem e_ref26_Requests (h : s_ref26_Requests Tryz.prog t0 w R) : Calls Tryz.prog 11 #[t0] w R :=
 en1 (.sq .z (.sq .z (.sq (.sq .z (.bk (.lp [3, 4] [5, 6, 7, 8, 9, 10, 11, 12, 13, 14, 15, 16, 17, 18, 19, 20, 21, 22, 23, 24, 25, 26, 27, 28, 29, 30, 31, 32, 33, 34, 35, 36, 37, 38, 39, 40, 41, 42, 43, 44, 45, 46, 47, 48, 49, 50, 51, 52, 53, 54, 55, 56, 57, 58, 59, 60, 61, 62, 63, 64, 65, 66, 67, 68, 69, 70, 71, 72, 73, 74, 75, 76, 77, 78, 79, 80, 81, 82, 83, 84] (.sq (.sq .z (.cd .z .z)) (.sq (.bk (.jn [5] [16, 17, 18, 19, 20, 21, 22, 23, 24, 25, 26, 27, 28, 29, 30, 31, 32, 33] (.dr (.pur true 0 (.pur true 1 (.pur true 2 (.pur true 3 (.pur true 4 (.pur true 5 (.pur false 6 (.pur true 9 (.pur true 10 (.pur true 11 (.pur true 12 (.pur false 13 (.pur true 14 (.alt (.eff 7 [13] (.pur true 8 (.alt (.eff 15 [] (.pur true 16 (.pur true 17 (.eff 18 [6, 13] (.eff 19 [] .done))))) (.eff 18 [6, 13] (.eff 15 [] (.pur true 16 (.pur true 17 (.eff 19 [] .done)))))))) (.eff 18 [6, 13] (.eff 7 [13] (.pur true 8 (.eff 15 [] (.pur true 16 (.pur true 17 (.eff 19 [] .done)))))))))))))))))))))) (.jn [] [34, 35, 36, 37, 38, 39, 40, 41, 42, 43, 44, 45, 46, 47, 48, 49, 50, 51, 52, 53, 54, 55, 56, 57, 58, 59, 60, 61, 62, 63, 64, 65, 66, 67, 68, 69, 70, 71, 72, 73, 74, 75, 76, 77, 78, 79, 80] (.sq .z (.cd .z (.dr (.pur true 0 (.pur true 1 (.pur true 2 (.pur true 3 (.pur false 4 (.pur true 5 (.pur true 6 (.pur true 7 (.pur true 8 (.pur false 9 (.pur true 11 (.pur true 12 (.pur true 13 (.pur true 14 (.pur false 15 (.pur true 16 (.pur true 17 (.pur true 18 (.pur true 19 (.pur false 20 (.pur true 22 (.pur true 23 (.pur true 24 (.pur true 25 (.pur false 26 (.pur true 27 (.pur true 28 (.pur true 29 (.pur true 30 (.pur false 31 (.pur true 33 (.pur true 34 (.pur true 35 (.pur true 36 (.pur false 37 (.eff 10 [15, 20, 26, 31, 37] (.eff 21 [26, 31, 37] (.eff 32 [37] (.eff 38 [] (.pur true 39 (.eff 40 [] (.eff 41 [] (.pur true 42 (.eff 43 [] .done))))))))))))))))))))))))))))))))))))))))))))))) .z))) .z))))) (.sq .z .z)))) [t0] Tryz.func11 (by kernel_rfl) (by kernel_rfl) h
theorem n_ref26_Requests : Enters Tryz.prog 11 := enters_of Tryz.func11 (by kernel_rfl) rfl
def s_ref26_Made (P : Program) (t0 : Value) (w : World) (R : Ending → World → Prop) : Prop :=
 Bx P 26 t0 w fun t1 w =>
 Al P 25 w fun t2 w =>
 Dv P true (Instr.indexAt 26 t1 (.int .i64 0)) w.drew fun t3 =>
 dL P 3 t3 w.drew fun t4 =>
 Dv P true (Instr.indexAt 26 t1 (.int .i64 1)) w.drew fun t6 =>
 dL P 3 t6 w.drew fun t7 =>
 Dv P true (Instr.indexAt 26 t1 (.int .i64 2)) w.drew fun t9 =>
 dL P 3 t9 w.drew fun t10 =>
 Dv P true (Instr.indexAt 26 t1 (.int .i64 0)) w.drew fun t11 =>
 dL P 3 t11 w.drew fun t12 =>
 Dv P true (Instr.indexAt 26 t1 (.int .i64 3)) w.drew fun t15 =>
 dL P 3 t15 w.drew fun t16 =>
 Dv P true (Instr.indexAt 26 t1 (.int .i64 3)) w.drew fun t20 =>
 dL P 3 t20 w.drew fun t21 =>
 Dv P true (bn .quo 3 true t21 (.int .i64 4)) w.drew fun t22 =>
 Dv P true (Instr.indexAt 26 t1 (.int .i64 3)) w.drew fun t25 =>
 dL P 3 t25 w.drew fun t26 =>
 (Cl P 35 #[t4, (.int .i64 4)] w.drew (Pk R) fun t5 w =>
 kLd P 3 t6 t7 w <|
 kLd P 3 t9 t10 w <|
 kLd P 3 t11 t12 w <|
 kLd P 3 t15 t16 w <|
 kLd P 3 t20 t21 w <|
 kLd P 3 t25 t26 w <|
 (Cl P 35 #[t7, (.int .i64 4)] w (Pk R) fun t8 w =>
 kLd P 3 t9 t10 w <|
 kLd P 3 t11 t12 w <|
 kLd P 3 t15 t16 w <|
 kLd P 3 t20 t21 w <|
 kLd P 3 t25 t26 w <|
 (Cl P 36 #[t10, t12] w (Pk R) fun t13 w =>
 kLd P 3 t15 t16 w <|
 kLd P 3 t20 t21 w <|
 kLd P 3 t25 t26 w <|
 (Bs P 27 4 [(0, (.int .i64 0)), (1, (.int .i64 5)), (2, (.int .i64 100)), (3, (.int .i64 1000000000))] w fun t14 w =>
 kLd P 3 t3 t4 w <|
 kLd P 3 t6 t7 w <|
 kLd P 3 t9 t10 w <|
 kLd P 3 t11 t12 w <|
 kLd P 3 t15 t16 w <|
 kLd P 3 t20 t21 w <|
 kLd P 3 t25 t26 w <|
 Cl P 35 #[t16, (.int .i64 4)] w (Pk R) fun t17 w =>
 kLd P 3 t20 t21 w <|
 kLd P 3 t25 t26 w <|
 dIx P 27 t14 t17 w fun t18 =>
 dL P 3 t18 w fun t19 =>
 Cl P 35 #[t22, (.int .i64 50)] w (Pk R) fun t23 w =>
 kLd P 3 t25 t26 w <|
 kLd P 3 t18 t19 w <|
 Dv P true (bn .add 3 false t19 t23) w fun t24 =>
 Cl P 35 #[t26, (.int .i64 4)] w (Pk R) fun t27 w =>
 kLd P 3 t18 t19 w <|
 Dv P true (bn .quo 3 true t27 (.int .i64 3)) w fun t28 =>
 Dv P true (bn .mul 3 true (.int .i64 50) t28) w fun t29 =>
 Dv P true (bn .sub 3 false t24 t29) w fun t30 =>
 Dv P true (Instr.build 25 #[(0, t5), (1, t8), (2, t13), (3, t30)]) w fun t31 =>
 Sto P 25 t2 t31 w fun w =>
 Rc P 25 t2 w fun r0 =>
 R (.returned r0) w) ∧
 (Cl P 35 #[t16, (.int .i64 4)] w (Pk R) fun t17x1 w =>
 kLd P 3 t20 t21 w <|
 kLd P 3 t25 t26 w <|
 (Bs P 27 4 [(0, (.int .i64 0)), (1, (.int .i64 5)), (2, (.int .i64 100)), (3, (.int .i64 1000000000))] w fun t14x1 w =>
 kLd P 3 t3 t4 w <|
 kLd P 3 t6 t7 w <|
 kLd P 3 t9 t10 w <|
 kLd P 3 t11 t12 w <|
 kLd P 3 t15 t16 w <|
 kLd P 3 t20 t21 w <|
 kLd P 3 t25 t26 w <|
 dIx P 27 t14x1 t17x1 w fun t18x1 =>
 dL P 3 t18x1 w fun t19x1 =>
 Cl P 35 #[t22, (.int .i64 50)] w (Pk R) fun t23x1 w =>
 kLd P 3 t25 t26 w <|
 kLd P 3 t18x1 t19x1 w <|
 Dv P true (bn .add 3 false t19x1 t23x1) w fun t24x1 =>
 Cl P 35 #[t26, (.int .i64 4)] w (Pk R) fun t27x1 w =>
 kLd P 3 t18x1 t19x1 w <|
 Dv P true (bn .quo 3 true t27x1 (.int .i64 3)) w fun t28x1 =>
 Dv P true (bn .mul 3 true (.int .i64 50) t28x1) w fun t29x1 =>
 Dv P true (bn .sub 3 false t24x1 t29x1) w fun t30x1 =>
 Dv P true (Instr.build 25 #[(0, t5), (1, t8), (2, t13), (3, t30x1)]) w fun t31x1 =>
 Sto P 25 t2 t31x1 w fun w =>
 Rc P 25 t2 w fun r0 =>
 R (.returned r0) w) ∧
 (Cl P 35 #[t22, (.int .i64 50)] w (Pk R) fun t23x2 w =>
 kLd P 3 t25 t26 w <|
 (Bs P 27 4 [(0, (.int .i64 0)), (1, (.int .i64 5)), (2, (.int .i64 100)), (3, (.int .i64 1000000000))] w fun t14x2 w =>
 kLd P 3 t3 t4 w <|
 kLd P 3 t6 t7 w <|
 kLd P 3 t9 t10 w <|
 kLd P 3 t11 t12 w <|
 kLd P 3 t15 t16 w <|
 kLd P 3 t20 t21 w <|
 kLd P 3 t25 t26 w <|
 dIx P 27 t14x2 t17x1 w fun t18x2 =>
 dL P 3 t18x2 w fun t19x2 =>
 Dv P true (bn .add 3 false t19x2 t23x2) w fun t24x2 =>
 Cl P 35 #[t26, (.int .i64 4)] w (Pk R) fun t27x2 w =>
 kLd P 3 t18x2 t19x2 w <|
 Dv P true (bn .quo 3 true t27x2 (.int .i64 3)) w fun t28x2 =>
 Dv P true (bn .mul 3 true (.int .i64 50) t28x2) w fun t29x2 =>
 Dv P true (bn .sub 3 false t24x2 t29x2) w fun t30x2 =>
 Dv P true (Instr.build 25 #[(0, t5), (1, t8), (2, t13), (3, t30x2)]) w fun t31x2 =>
 Sto P 25 t2 t31x2 w fun w =>
 Rc P 25 t2 w fun r0 =>
 R (.returned r0) w) ∧
 (Cl P 35 #[t26, (.int .i64 4)] w (Pk R) fun t27x3 w =>
 Dv P true (bn .quo 3 true t27x3 (.int .i64 3)) w fun t28x3 =>
 Dv P true (bn .mul 3 true (.int .i64 50) t28x3) w fun t29x3 =>
 Bs P 27 4 [(0, (.int .i64 0)), (1, (.int .i64 5)), (2, (.int .i64 100)), (3, (.int .i64 1000000000))] w fun t14x3 w =>
 kLd P 3 t3 t4 w <|
 kLd P 3 t6 t7 w <|
 kLd P 3 t9 t10 w <|
 kLd P 3 t11 t12 w <|
 kLd P 3 t15 t16 w <|
 kLd P 3 t20 t21 w <|
 kLd P 3 t25 t26 w <|
 dIx P 27 t14x3 t17x1 w fun t18x3 =>
 dL P 3 t18x3 w fun t19x3 =>
 Dv P true (bn .add 3 false t19x3 t23x2) w fun t24x3 =>
 Dv P true (bn .sub 3 false t24x3 t29x3) w fun t30x3 =>
 Dv P true (Instr.build 25 #[(0, t5), (1, t8), (2, t13), (3, t30x3)]) w fun t31x3 =>
 Sto P 25 t2 t31x3 w fun w =>
 Rc P 25 t2 w fun r0 =>
 R (.returned r0) w)))) ∧
 (Bs P 27 4 [(0, (.int .i64 0)), (1, (.int .i64 5)), (2, (.int .i64 100)), (3, (.int .i64 1000000000))] w fun t14x4 w =>
 kLd P 3 t3 t4 w <|
 kLd P 3 t6 t7 w <|
 kLd P 3 t9 t10 w <|
 kLd P 3 t11 t12 w <|
 kLd P 3 t15 t16 w <|
 kLd P 3 t20 t21 w <|
 kLd P 3 t25 t26 w <|
 Cl P 36 #[t10, t12] w (Pk R) fun t13x1 w =>
 kLd P 3 t15 t16 w <|
 kLd P 3 t20 t21 w <|
 kLd P 3 t25 t26 w <|
 Cl P 35 #[t16, (.int .i64 4)] w (Pk R) fun t17x2 w =>
 kLd P 3 t20 t21 w <|
 kLd P 3 t25 t26 w <|
 dIx P 27 t14x4 t17x2 w fun t18x4 =>
 dL P 3 t18x4 w fun t19x4 =>
 Cl P 35 #[t22, (.int .i64 50)] w (Pk R) fun t23x3 w =>
 kLd P 3 t25 t26 w <|
 kLd P 3 t18x4 t19x4 w <|
 Dv P true (bn .add 3 false t19x4 t23x3) w fun t24x4 =>
 Cl P 35 #[t26, (.int .i64 4)] w (Pk R) fun t27x4 w =>
 kLd P 3 t18x4 t19x4 w <|
 Dv P true (bn .quo 3 true t27x4 (.int .i64 3)) w fun t28x4 =>
 Dv P true (bn .mul 3 true (.int .i64 50) t28x4) w fun t29x4 =>
 Dv P true (bn .sub 3 false t24x4 t29x4) w fun t30x4 =>
 Dv P true (Instr.build 25 #[(0, t5), (1, t8), (2, t13x1), (3, t30x4)]) w fun t31x4 =>
 Sto P 25 t2 t31x4 w fun w =>
 Rc P 25 t2 w fun r0 =>
 R (.returned r0) w)) ∧
 (Bs P 27 4 [(0, (.int .i64 0)), (1, (.int .i64 5)), (2, (.int .i64 100)), (3, (.int .i64 1000000000))] w fun t14x5 w =>
 kLd P 3 t3 t4 w <|
 kLd P 3 t6 t7 w <|
 kLd P 3 t9 t10 w <|
 kLd P 3 t11 t12 w <|
 kLd P 3 t15 t16 w <|
 kLd P 3 t20 t21 w <|
 kLd P 3 t25 t26 w <|
 Cl P 35 #[t7, (.int .i64 4)] w (Pk R) fun t8x1 w =>
 kLd P 3 t9 t10 w <|
 kLd P 3 t11 t12 w <|
 kLd P 3 t15 t16 w <|
 kLd P 3 t20 t21 w <|
 kLd P 3 t25 t26 w <|
 Cl P 36 #[t10, t12] w (Pk R) fun t13x2 w =>
 kLd P 3 t15 t16 w <|
 kLd P 3 t20 t21 w <|
 kLd P 3 t25 t26 w <|
 Cl P 35 #[t16, (.int .i64 4)] w (Pk R) fun t17x3 w =>
 kLd P 3 t20 t21 w <|
 kLd P 3 t25 t26 w <|
 dIx P 27 t14x5 t17x3 w fun t18x5 =>
 dL P 3 t18x5 w fun t19x5 =>
 Cl P 35 #[t22, (.int .i64 50)] w (Pk R) fun t23x4 w =>
 kLd P 3 t25 t26 w <|
 kLd P 3 t18x5 t19x5 w <|
 Dv P true (bn .add 3 false t19x5 t23x4) w fun t24x5 =>
 Cl P 35 #[t26, (.int .i64 4)] w (Pk R) fun t27x5 w =>
 kLd P 3 t18x5 t19x5 w <|
 Dv P true (bn .quo 3 true t27x5 (.int .i64 3)) w fun t28x5 =>
 Dv P true (bn .mul 3 true (.int .i64 50) t28x5) w fun t29x5 =>
 Dv P true (bn .sub 3 false t24x5 t29x5) w fun t30x5 =>
 Dv P true (Instr.build 25 #[(0, t5), (1, t8x1), (2, t13x2), (3, t30x5)]) w fun t31x5 =>
 Sto P 25 t2 t31x5 w fun w =>
 Rc P 25 t2 w fun r0 =>
 R (.returned r0) w)) ∧
 (Bs P 27 4 [(0, (.int .i64 0)), (1, (.int .i64 5)), (2, (.int .i64 100)), (3, (.int .i64 1000000000))] w.drew fun t14x6 w =>
 kLd P 3 t3 t4 w <|
 kLd P 3 t6 t7 w <|
 kLd P 3 t9 t10 w <|
 kLd P 3 t11 t12 w <|
 kLd P 3 t15 t16 w <|
 kLd P 3 t20 t21 w <|
 kLd P 3 t25 t26 w <|
 Cl P 35 #[t4, (.int .i64 4)] w (Pk R) fun t5x1 w =>
 kLd P 3 t6 t7 w <|
 kLd P 3 t9 t10 w <|
 kLd P 3 t11 t12 w <|
 kLd P 3 t15 t16 w <|
 kLd P 3 t20 t21 w <|
 kLd P 3 t25 t26 w <|
 Cl P 35 #[t7, (.int .i64 4)] w (Pk R) fun t8x2 w =>
 kLd P 3 t9 t10 w <|
 kLd P 3 t11 t12 w <|
 kLd P 3 t15 t16 w <|
 kLd P 3 t20 t21 w <|
 kLd P 3 t25 t26 w <|
 Cl P 36 #[t10, t12] w (Pk R) fun t13x3 w =>
 kLd P 3 t15 t16 w <|
 kLd P 3 t20 t21 w <|
 kLd P 3 t25 t26 w <|
 Cl P 35 #[t16, (.int .i64 4)] w (Pk R) fun t17x4 w =>
 kLd P 3 t20 t21 w <|
 kLd P 3 t25 t26 w <|
 dIx P 27 t14x6 t17x4 w fun t18x6 =>
 dL P 3 t18x6 w fun t19x6 =>
 Cl P 35 #[t22, (.int .i64 50)] w (Pk R) fun t23x5 w =>
 kLd P 3 t25 t26 w <|
 kLd P 3 t18x6 t19x6 w <|
 Dv P true (bn .add 3 false t19x6 t23x5) w fun t24x6 =>
 Cl P 35 #[t26, (.int .i64 4)] w (Pk R) fun t27x6 w =>
 kLd P 3 t18x6 t19x6 w <|
 Dv P true (bn .quo 3 true t27x6 (.int .i64 3)) w fun t28x6 =>
 Dv P true (bn .mul 3 true (.int .i64 50) t28x6) w fun t29x6 =>
 Dv P true (bn .sub 3 false t24x6 t29x6) w fun t30x6 =>
 Dv P true (Instr.build 25 #[(0, t5x1), (1, t8x2), (2, t13x3), (3, t30x6)]) w fun t31x6 =>
 Sto P 25 t2 t31x6 w fun w =>
 Rc P 25 t2 w fun r0 =>
 R (.returned r0) w)
theorem e_ref26_Made (h : s_ref26_Made Tryz.prog t0 w R) : Calls Tryz.prog 12 #[t0] w R :=
 en1 (.sq .z (.sq (.dr (.pur true 0 (.pur false 1 (.pur true 3 (.pur false 4 (.pur true 6 (.pur false 7 (.pur true 8 (.pur false 9 (.pur true 12 (.pur false 13 (.pur true 17 (.pur false 18 (.pur true 19 (.pur true 22 (.pur false 23 (.alt (.eff 2 [4, 7, 9, 13, 18, 23] (.alt (.eff 5 [7, 9, 13, 18, 23] (.alt (.eff 10 [13, 18, 23] (.alt (.eff 11 [1, 4, 7, 9, 13, 18, 23] (.eff 14 [18, 23] (.pur true 15 (.pur false 16 (.eff 20 [23, 16] (.pur true 21 (.eff 24 [16] (.pur true 25 (.pur true 26 (.pur true 27 (.pur true 28 (.eff 29 [] .done)))))))))))) (.eff 14 [18, 23] (.alt (.eff 11 [1, 4, 7, 9, 13, 18, 23] (.pur true 15 (.pur false 16 (.eff 20 [23, 16] (.pur true 21 (.eff 24 [16] (.pur true 25 (.pur true 26 (.pur true 27 (.pur true 28 (.eff 29 [] .done))))))))))) (.eff 20 [23] (.alt (.eff 11 [1, 4, 7, 9, 13, 18, 23] (.pur true 15 (.pur false 16 (.pur true 21 (.eff 24 [16] (.pur true 25 (.pur true 26 (.pur true 27 (.pur true 28 (.eff 29 [] .done)))))))))) (.eff 24 [] (.pur true 25 (.pur true 26 (.eff 11 [1, 4, 7, 9, 13, 18, 23] (.pur true 15 (.pur false 16 (.pur true 21 (.pur true 27 (.pur true 28 (.eff 29 [] .done)))))))))))))))) (.eff 11 [1, 4, 7, 9, 13, 18, 23] (.eff 10 [13, 18, 23] (.eff 14 [18, 23] (.pur true 15 (.pur false 16 (.eff 20 [23, 16] (.pur true 21 (.eff 24 [16] (.pur true 25 (.pur true 26 (.pur true 27 (.pur true 28 (.eff 29 [] .done))))))))))))))) (.eff 11 [1, 4, 7, 9, 13, 18, 23] (.eff 5 [7, 9, 13, 18, 23] (.eff 10 [13, 18, 23] (.eff 14 [18, 23] (.pur true 15 (.pur false 16 (.eff 20 [23, 16] (.pur true 21 (.eff 24 [16] (.pur true 25 (.pur true 26 (.pur true 27 (.pur true 28 (.eff 29 [] .done)))))))))))))))) (.eff 11 [1, 4, 7, 9, 13, 18, 23] (.eff 2 [4, 7, 9, 13, 18, 23] (.eff 5 [7, 9, 13, 18, 23] (.eff 10 [13, 18, 23] (.eff 14 [18, 23] (.pur true 15 (.pur false 16 (.eff 20 [23, 16] (.pur true 21 (.eff 24 [16] (.pur true 25 (.pur true 26 (.pur true 27 (.pur true 28 (.eff 29 [] .done)))))))))))))))))))))))))))))))) .z)) [t0] Tryz.func12 (by kernel_rfl) (by kernel_rfl) h
theorem n_ref26_Made : Enters Tryz.prog 12 := enters_of Tryz.func12 (by kernel_rfl) rfl
def s_contract_Penalties (P : Program) (t0 t1 : Value) (w : World) (R : Ending → World → Prop) : Prop :=
 Bx P 25 t0 w fun t2 w =>
 Ld P 25 t2 w fun t7 w =>
 Cl P 15 #[t7] w (Pk R) fun t8 w =>
 Un P .not t8 w fun t9 w =>
 Gd t9 false (fun k => k t1 w) w fun t11 w =>
 Gd t9 false (fun k => Cl P 38 #[t11] w (Pk R) k) w fun t12 w =>
 Gd t9 false (fun k => Un P .not t12 w k) w fun t13 w =>
 Pick t9 (.bool true) t13 w fun t14 w =>
 If t14
 (R (.returned (.tuple #[(.slice none 0 0), (.int .i64 260)])) w)
 (Fa P 25 t2 2 w fun t15 w =>
 Ld P 23 t15 w fun t16 w =>
 Fa P 25 t2 1 w fun t17 w =>
 Ld P 3 t17 w fun t18 w =>
 Fa P 25 t2 3 w fun t19 w =>
 Ld P 3 t19 w fun t20 w =>
 Bd P 74 [(0, t16), (1, t18), (2, t20)] w fun t21 w =>
 Bx P 74 t21 w fun t22 w =>
 Cl P 39 #[t1, (.func (.func 40) #[t22] #[])] w (Pk R) fun t26 w =>
 R (.returned (.tuple #[t26, (.int .i64 0)])) w)
theorem e_contract_Penalties (h : s_contract_Penalties Tryz.prog t0 t1 w R) : Calls Tryz.prog 13 #[t0, t1] w R :=
 en1 (.sq .z (.sq (.sq .z (.cd (.sq .z .z) .z)) (.sq .z (.sq .z .z)))) [t0, t1] Tryz.func13 (by kernel_rfl) (by kernel_rfl) h
theorem n_contract_Penalties : Enters Tryz.prog 13 := enters_of Tryz.func13 (by kernel_rfl) rfl
def s_ref26_Penalties (P : Program) (t0 t1 : Value) (w : World) (R : Ending → World → Prop) : Prop :=
 Bx P 25 t0 w fun t2 w =>
 Ld P 25 t2 w fun t13 w =>
 Cl P 16 #[t13] w (Pk R) fun t14 w =>
 Un P .not t14 w fun t15 w =>
 Gd t15 false (fun k => k t1 w) w fun t17 w =>
 Gd t15 false (fun k => Bt P .len #[27] 3 #[t17] w k) w fun t18 w =>
 Gd t15 false (fun k => Bn P .gtr 3 true t18 (.int .i64 100) w k) w fun t19 w =>
 Pick t15 (.bool true) t19 w fun t20 w =>
 If t20
 (R (.returned (.tuple #[(.slice none 0 0), (.int .i64 260)])) w)
 (Fa P 25 t2 3 w fun t21 w =>
 Ld P 3 t21 w fun t22 w =>
 Lp4 (.slice none 0 0) (.int .i64 0) t22 (.int .i64 0) w (fun t6 t7 t8 t9 w k1 =>
 Bt P .len #[27] 3 #[t1] w fun t25 w =>
 Bn P .lss 3 false t9 t25 w fun t26 w =>
 If t26
 (Ia P 27 t1 t9 w fun t31 w =>
 Ld P 3 t31 w fun t32 w =>
 Cl P 41 #[t32, (.int .i64 0), (.int .i64 4398046511104)] w (Pk R) fun t33 w =>
 Un P .not t33 w fun t34 w =>
 If t34
 (R (.returned (.tuple #[(.slice none 0 0), (.int .i64 260)])) w)
 (Jn2 (fun k2 =>
 Ia P 27 t1 t9 w fun t37 w =>
 Ld P 3 t37 w fun t38 w =>
 Bn P .gtr 3 true t38 (.int .i64 0) w fun t39 w =>
 If t39
 (Bn P .add 3 true t7 (.int .i64 1) w fun t41 w =>
 Fa P 25 t2 1 w fun t43 w =>
 Ld P 3 t43 w fun t44 w =>
 Bn P .gtr 3 false t41 t44 w fun t45 w =>
 If t45
 (Jn2 (fun k3 =>
 dFl P 25 t2 2 w.drew fun t47 =>
 dL P 23 t47 w.drew fun t48 =>
 dIx P 27 t1 t9 w.drew fun t51 =>
 dL P 3 t51 w.drew fun t52 =>
 (Cl P 37 #[t52] w.drew (Pk R) fun t53 w =>
 kLd P 23 t47 t48 w <|
 (Cl P 42 #[t48, t53] w (Pk R) fun t54 w =>
 ExP t54 0 fun t55 =>
 ExP t54 1 fun t56 =>
 Al P 23 w fun t11 w =>
 kLd P 23 t47 t48 w <|
 kLd P 3 t51 t52 w <|
 Sto P 23 t11 t55 w fun w =>
 k3 t11 t56 w) ∧
 (Al P 23 w fun t11x1 w =>
 kLd P 23 t47 t48 w <|
 kLd P 3 t51 t52 w <|
 Cl P 42 #[t48, t53] w (Pk R) fun t54x1 w =>
 ExP t54x1 0 fun t55x1 =>
 ExP t54x1 1 fun t56x1 =>
 Sto P 23 t11x1 t55x1 w fun w =>
 k3 t11x1 t56x1 w)) ∧
 (Al P 23 w.drew fun t11x2 w =>
 kLd P 23 t47 t48 w <|
 kLd P 3 t51 t52 w <|
 Cl P 37 #[t52] w (Pk R) fun t53x1 w =>
 kLd P 23 t47 t48 w <|
 Cl P 42 #[t48, t53x1] w (Pk R) fun t54x2 w =>
 ExP t54x2 0 fun t55x2 =>
 ExP t54x2 1 fun t56x2 =>
 Sto P 23 t11x2 t55x2 w fun w =>
 k3 t11x2 t56x2 w))
 (fun t11x3 t12 w =>
 Bn P .neq 39 true t12 (.int .i64 0) w fun t58 w =>
 If t58
 (R (.returned (.tuple #[(.slice none 0 0), (.int .i64 260)])) w)
 (Ld P 23 t11x3 w fun t59 w =>
 Cl P 43 #[t59, t8] w (Pk R) fun t61 w =>
 k2 t41 t61 w)))
 (k2 t41 (.int .i64 0) w))
 (k2 t7 (.int .i64 0) w))
 (fun t7x1 t10 w =>
 Bn P .sub 3 false t8 t10 w fun t64 w =>
 Bs P 27 1 [(0, t10)] w fun t67 w =>
 Bt P .append #[27, 27] 27 #[t6, t67] w fun t68 w =>
 Bn P .add 3 true t9 (.int .i64 1) w fun t28 w =>
 k1 t68 t7x1 t64 t28 w)))
 (R (.returned (.tuple #[t6, (.int .i64 0)])) w)))
theorem e_ref26_Penalties (h : s_ref26_Penalties Tryz.prog t0 t1 w R) : Calls Tryz.prog 14 #[t0, t1] w R :=
 en1 (.sq .z (.sq (.sq .z (.cd (.sq .z .z) .z)) (.sq .z (.sq .z (.sq .z (.sq (.sq .z (.bk (.lp [6, 7, 8, 9] [4, 5, 10, 11, 12, 23, 24, 25, 26, 27, 28, 29, 30, 31, 32, 33, 34, 35, 36, 37, 38, 39, 40, 41, 42, 43, 44, 45, 46, 47, 48, 49, 50, 51, 52, 53, 54, 55, 56, 57, 58, 59, 60, 61, 62, 63, 64, 65, 66, 67, 68] (.sq (.sq .z (.cd .z .z)) (.sq (.bk (.sq (.sq .z (.cd (.sq .z .z) .z)) (.sq .z (.jn [7, 10] [4, 5, 11, 12, 35, 36, 37, 38, 39, 40, 41, 42, 43, 44, 45, 46, 47, 48, 49, 50, 51, 52, 53, 54, 55, 56, 57, 58, 59, 60, 61] (.sq .z (.cd (.sq .z (.sq .z (.cd (.jn [11, 12] [46, 47, 48, 49, 50, 51, 52, 53, 54, 55, 56] (.dr (.pur true 0 (.pur false 1 (.pur true 2 (.pur true 3 (.pur true 4 (.pur false 5 (.alt (.eff 6 [1] (.alt (.eff 7 [] (.pur true 8 (.pur true 9 (.pur true 10 (.eff 11 [1, 5] (.eff 12 [] (.pur true 13 .done))))))) (.eff 11 [1, 5] (.eff 7 [] (.pur true 8 (.pur true 9 (.pur true 10 (.eff 12 [] (.pur true 13 .done))))))))) (.eff 11 [1, 5] (.eff 6 [1] (.eff 7 [] (.pur true 8 (.pur true 9 (.pur true 10 (.eff 12 [] (.pur true 13 .done)))))))))))))))) (.sq (.sq .z (.cd (.sq .z .z) .z)) .z)) .z))) .z)) (.sq .z .z))))) .z))))) (.sq .z .z))))))) [t0, t1] Tryz.func14 (by kernel_rfl) (by kernel_rfl) h
theorem n_ref26_Penalties : Enters Tryz.prog 14 := enters_of Tryz.func14 (by kernel_rfl) rfl
def s_contract_Valid (P : Program) (t0 : Value) (w : World) (R : Ending → World → Prop) : Prop :=
 Bx P 25 t0 w fun t1 w =>
 Fa P 25 t1 0 w fun t3 w =>
 Ld P 3 t3 w fun t4 w =>
 Cl P 44 #[t4, (.int .i64 0), (.int .i64 3)] w (Pk R) fun t5 w =>
 Gd t5 true (fun k => Fa P 25 t1 1 w k) w fun t7 w =>
 Gd t5 true (fun k => Ld P 3 t7 w k) w fun t8 w =>
 Gd t5 true (fun k => Cl P 44 #[t8, (.int .i64 0), (.int .i64 100)] w (Pk R) k) w fun t9 w =>
 Pick t5 t9 (.bool false) w fun t10 w =>
 Gd t10 true (fun k => Fa P 25 t1 2 w k) w fun t12 w =>
 Gd t10 true (fun k => Ld P 23 t12 w k) w fun t13 w =>
 Gd t10 true (fun k => Cl P 45 #[t13, (.int .i64 9)] w (Pk R) k) w fun t14 w =>
 Pick t10 t14 (.bool false) w fun t15 w =>
 Gd t15 true (fun k => Fa P 25 t1 3 w k) w fun t17 w =>
 Gd t15 true (fun k => Ld P 3 t17 w k) w fun t18 w =>
 Gd t15 true (fun k => Cl P 44 #[t18, (.int .i64 0), (.int .i64 1000000000)] w (Pk R) k) w fun t19 w =>
 Pick t15 t19 (.bool false) w fun t20 w =>
 R (.returned t20) w
theorem e_contract_Valid (h : s_contract_Valid Tryz.prog t0 w R) : Calls Tryz.prog 15 #[t0] w R :=
 en1 (.sq .z (.sq .z .z)) [t0] Tryz.func15 (by kernel_rfl) (by kernel_rfl) h
theorem n_contract_Valid : Enters Tryz.prog 15 := enters_of Tryz.func15 (by kernel_rfl) rfl
def s_ref26_Valid (P : Program) (t0 : Value) (w : World) (R : Ending → World → Prop) : Prop :=
 Bx P 25 t0 w fun t1 w =>
 Fa P 25 t1 0 w fun t3 w =>
 Ld P 3 t3 w fun t4 w =>
 Cl P 41 #[t4, (.int .i64 0), (.int .i64 3)] w (Pk R) fun t5 w =>
 Gd t5 true (fun k => Fa P 25 t1 1 w k) w fun t7 w =>
 Gd t5 true (fun k => Ld P 3 t7 w k) w fun t8 w =>
 Gd t5 true (fun k => Cl P 41 #[t8, (.int .i64 0), (.int .i64 100)] w (Pk R) k) w fun t9 w =>
 Pick t5 t9 (.bool false) w fun t10 w =>
 Gd t10 true (fun k => Fa P 25 t1 2 w k) w fun t12 w =>
 Gd t10 true (fun k => Ld P 23 t12 w k) w fun t13 w =>
 Gd t10 true (fun k => Cl P 46 #[t13, (.int .i64 9)] w (Pk R) k) w fun t14 w =>
 Pick t10 t14 (.bool false) w fun t15 w =>
 Gd t15 true (fun k => Fa P 25 t1 3 w k) w fun t17 w =>
 Gd t15 true (fun k => Ld P 3 t17 w k) w fun t18 w =>
 Gd t15 true (fun k => Cl P 41 #[t18, (.int .i64 0), (.int .i64 1000000000)] w (Pk R) k) w fun t19 w =>
 Pick t15 t19 (.bool false) w fun t20 w =>
 R (.returned t20) w
theorem e_ref26_Valid (h : s_ref26_Valid Tryz.prog t0 w R) : Calls Tryz.prog 16 #[t0] w R :=
 en1 (.sq .z (.sq .z .z)) [t0] Tryz.func16 (by kernel_rfl) (by kernel_rfl) h
theorem n_ref26_Valid : Enters Tryz.prog 16 := enters_of Tryz.func16 (by kernel_rfl) rfl
def s_ref26_Same (P : Program) (t0 t1 : Value) (w : World) (R : Ending → World → Prop) : Prop :=
 Bt P .len #[27] 3 #[t0] w fun t7 w =>
 Bt P .len #[27] 3 #[t1] w fun t9 w =>
 Bn P .neq 3 false t7 t9 w fun t10 w =>
 If t10
 (R (.returned (.bool false)) w)
 (Lp1 (.int .i64 0) w (fun t5 w k1 =>
 Bt P .len #[27] 3 #[t0] w fun t13 w =>
 Bn P .lss 3 false t5 t13 w fun t14 w =>
 If t14
 (dIx P 27 t0 t5 w.drew fun t19 =>
 dL P 3 t19 w.drew fun t20 =>
 dIx P 27 t1 t5 w.drew fun t23 =>
 dL P 3 t23 w.drew fun t24 =>
 Dv P true (bn .neq 3 false t20 t24) w.drew fun t25 =>
 If t25
 (R (.returned (.bool false)) w.drew)
 (Bn P .add 3 true t5 (.int .i64 1) w.drew fun t16 w =>
 k1 t16 w))
 (R (.returned (.bool true)) w)))
theorem e_ref26_Same (h : s_ref26_Same Tryz.prog t0 t1 w R) : Calls Tryz.prog 17 #[t0, t1] w R :=
 en1 (.sq .z (.sq (.sq .z (.cd (.sq .z .z) .z)) (.sq (.sq .z (.bk (.lp [5] [4, 11, 12, 13, 14, 15, 16, 17, 18, 19, 20, 21, 22, 23, 24, 25] (.sq (.sq .z (.cd .z .z)) (.sq (.bk (.sq (.dr (.pur true 0 (.pur true 1 (.pur true 2 (.pur false 3 (.pur true 4 (.pur true 5 (.pur true 6 (.pur false 7 (.pur true 8 .done)))))))))) (.cd (.sq .z .z) .z))) .z))))) (.sq .z .z)))) [t0, t1] Tryz.func17 (by kernel_rfl) (by kernel_rfl) h
theorem n_ref26_Same : Enters Tryz.prog 17 := enters_of Tryz.func17 (by kernel_rfl) rfl
def s_contract_Bill (P : Program) (t0 t1 : Value) (w : World) (R : Ending → World → Prop) : Prop :=
 Bx P 25 t0 w fun t2 w =>
 Cl P 47 #[t1, (.func (.func 48) #[] #[])] w (Pk R) fun t17 w =>
 Ld P 25 t2 w fun t19 w =>
 Cl P 13 #[t19, t17] w (Pk R) fun t21 w =>
 Ex t21 0 w fun t22 w =>
 Ex t21 1 w fun t23 w =>
 Bn P .neq 39 true t23 (.int .i64 0) w fun t25 w =>
 If t25
 (R (.returned (.tuple #[(.slice none 0 0), t23])) w)
 (Bt P .len #[35] 3 #[t1] w fun t28 w =>
 Lp2 (.slice none 0 0) (.int .i64 0) w (fun t9 t29 w k1 =>
 Bn P .lss 3 false t29 t28 w fun t30 w =>
 If t30
 (Ia P 35 t1 t29 w fun t32 w =>
 Ld P 31 t32 w fun t33 w =>
 Al P 31 w fun t11 w =>
 Sto P 31 t11 t33 w fun w =>
 dFl P 31 t11 0 w.drew fun t34 =>
 dL P 3 t34 w.drew fun t35 =>
 Cl P 44 #[t35, (.int .i64 0), (.int .i64 999)] w.drew (Pk R) fun t36 w =>
 Dv P true (Op.unary .not t36) w fun t37 =>
 GdP t37 false (fun k => k t29) fun t39 =>
 GdP t37 false (fun k => Dv P true (bn .gtr 3 true t39 (.int .i64 0)) w k) fun t40 =>
 GdP t37 false (fun k => k t40) fun t41 =>
 GdP t41 true (fun k => k t1) fun t42 =>
 GdP t41 true (fun k => k t29) fun t43 =>
 GdP t41 true (fun k => Dv P true (bn .sub 3 true t43 (.int .i64 1)) w k) fun t44 =>
 GdP t41 true (fun k => dIx P 35 t42 t44 w k) fun t45 =>
 GdP t41 true (fun k => dFl P 31 t45 0 w k) fun t46 =>
 GdP t41 true (fun k => dL P 3 t46 w k) fun t47 =>
 GdP t41 true (fun k => dFl P 31 t11 0 w k) fun t48 =>
 GdP t41 true (fun k => dL P 3 t48 w k) fun t49 =>
 GdP t41 true (fun k => Dv P true (bn .geq 3 false t47 t49) w k) fun t50 =>
 GdP t37 false (fun k => PickP t41 t50 (.bool false) k) fun t51 =>
 PickP t37 (.bool true) t51 fun t52 =>
 GdP t52 false (fun k => dFl P 31 t11 1 w k) fun t54 =>
 GdP t52 false (fun k => dL P 3 t54 w k) fun t55 =>
 GdP t52 false (fun k => Dv P true (bn .eql 3 true t55 (.int .i64 0)) w k) fun t56 =>
 GdP t52 false (fun k => k t56) fun t57 =>
 GdP t57 true (fun k => dFl P 31 t11 2 w k) fun t58 =>
 GdP t57 true (fun k => dL P 28 t58 w k) fun t59 =>
 GdP t57 true (fun k => Dv P true (bV .len #[28] 3 #[t59]) w k) fun t60 =>
 GdP t57 true (fun k => Dv P true (bn .gtr 3 true t60 (.int .i64 0)) w k) fun t61 =>
 GdP t52 false (fun k => PickP t57 t61 (.bool false) k) fun t62 =>
 PickP t52 (.bool true) t62 fun t63 =>
 If t63
 (R (.returned (.tuple #[(.slice none 0 0), (.int .i64 260)])) w)
 (Fa P 31 t11 1 w fun t64 w =>
 Ld P 3 t64 w fun t65 w =>
 Bn P .eql 3 true t65 (.int .i64 0) w fun t66 w =>
 If t66
 (Bn P .add 3 true t29 (.int .i64 1) w fun t102 w =>
 k1 t9 t102 w)
 (dIx P 27 t22 t29 w.drew fun t70 =>
 dL P 3 t70 w.drew fun t71 =>
 dFl P 31 t11 2 w.drew fun t72 =>
 dL P 28 t72 w.drew fun t73 =>
 Cl P 24 #[t71, t73] w.drew (Pk R) fun t74 w =>
 ExP t74 0 fun t75 =>
 ExP t74 1 fun t76 =>
 Bn P .neq 39 true t76 (.int .i64 0) w fun t78 w =>
 Gd t78 false (fun k => k t75 w) w fun t80 w =>
 Gd t78 false (fun k => Bt P .len #[27] 3 #[t80] w k) w fun t81 w =>
 Gd t78 false (fun k => Bn P .neq 3 true t81 (.int .i64 4) w k) w fun t82 w =>
 Pick t78 (.bool true) t82 w fun t83 w =>
 If t83
 (R (.returned (.tuple #[(.slice none 0 0), (.int .i64 260)])) w)
 (Bt P .len #[27] 3 #[t75] w fun t85 w =>
 Lp2 t9 (.int .i64 0) w (fun t9x1 t86 w k2 =>
 Bn P .lss 3 false t86 t85 w fun t87 w =>
 If t87
 (Ia P 27 t75 t86 w fun t89 w =>
 Ld P 3 t89 w fun t90 w =>
 Bn P .gtr 3 true t90 (.int .i64 0) w fun t92 w =>
 If t92
 (Fa P 31 t11 0 w fun t94 w =>
 Ld P 3 t94 w fun t95 w =>
 Bd P 67 [(0, t95), (1, t86), (2, t90)] w fun t98 w =>
 Bs P 32 1 [(0, t98)] w fun t99 w =>
 Bt P .append #[32, 32] 32 #[t9x1, t99] w fun t100 w =>
 Bn P .add 3 true t86 (.int .i64 1) w fun t101 w =>
 k2 t100 t101 w)
 (Bn P .add 3 true t86 (.int .i64 1) w fun t101x1 w =>
 k2 t9x1 t101x1 w))
 (Bn P .add 3 true t29 (.int .i64 1) w fun t102x1 w =>
 k1 t9x1 t102x1 w))))))
 (R (.returned (.tuple #[t9, (.int .i64 0)])) w)))
theorem e_contract_Bill (h : s_contract_Bill Tryz.prog t0 t1 w R) : Calls Tryz.prog 18 #[t0, t1] w R :=
 en1 (.sq .z (.sq .z (.sq .z (.sq (.sq .z (.cd (.sq .z .z) .z)) (.sq .z (.sq (.sq .z (.bk (.lp [9, 29] [4, 5, 10, 11, 12, 13, 14, 15, 30, 31, 32, 33, 34, 35, 36, 37, 38, 39, 40, 41, 42, 43, 44, 45, 46, 47, 48, 49, 50, 51, 52, 53, 54, 55, 56, 57, 58, 59, 60, 61, 62, 63, 64, 65, 66, 67, 68, 69, 70, 71, 72, 73, 74, 75, 76, 77, 78, 79, 80, 81, 82, 83, 84, 85, 86, 87, 88, 89, 90, 91, 92, 93, 94, 95, 96, 97, 98, 99, 100, 101, 102] (.sq .z (.sq (.cd .z .z) (.sq (.bk (.sq .z (.sq (.sq (.dr (.pur true 0 (.pur false 1 (.eff 2 [] (.pur true 3 (.pur true 4 (.pur true 5 (.pur true 6 (.pur true 7 (.pur true 8 (.pur true 9 (.pur true 10 (.pur true 11 (.pur true 12 (.pur false 13 (.pur true 14 (.pur false 15 (.pur true 16 (.pur true 17 (.pur true 18 (.pur true 19 (.pur true 20 (.pur false 21 (.pur true 22 (.pur true 23 (.pur true 24 (.pur false 25 (.pur true 26 (.pur true 27 (.pur true 28 (.pur true 29 .done))))))))))))))))))))))))))))))) (.cd (.sq .z .z) .z)) (.sq (.sq .z (.cd .z .z)) (.sq (.dr (.pur true 0 (.pur true 1 (.pur true 2 (.pur false 3 (.pur true 4 (.pur false 5 (.eff 6 [] (.pur true 7 (.pur true 8 (.pur true 9 (.pur true 10 (.pur true 11 .done))))))))))))) (.sq (.sq .z (.cd (.sq .z .z) .z)) (.sq .z (.bk (.lp [9, 86] [14, 15, 87, 88, 89, 90, 91, 92, 93, 94, 95, 96, 97, 98, 99, 100, 101] (.sq .z (.sq (.cd .z .z) (.sq (.bk (.sq .z (.sq .z (.cd .z .z)))) .z)))))))))))) .z)))))) (.sq .z .z))))))) [t0, t1] Tryz.func18 (by kernel_rfl) (by kernel_rfl) h
theorem n_contract_Bill : Enters Tryz.prog 18 := enters_of Tryz.func18 (by kernel_rfl) rfl
def s_ref26_Bill (P : Program) (t0 t1 : Value) (w : World) (R : Ending → World → Prop) : Prop :=
 Bx P 25 t0 w fun t2 w =>
 Lp2 (.slice none 0 0) (.int .i64 0) w (fun t6 t7 w k1 =>
 Bt P .len #[35] 3 #[t1] w fun t17 w =>
 Bn P .lss 3 false t7 t17 w fun t18 w =>
 If t18
 (dIx P 35 t1 t7 w.drew fun t23 =>
 dFl P 31 t23 0 w.drew fun t24 =>
 dL P 3 t24 w.drew fun t25 =>
 Cl P 41 #[t25, (.int .i64 0), (.int .i64 999)] w.drew (Pk R) fun t26 w =>
 Dv P true (Op.unary .not t26) w fun t27 =>
 GdP t27 false (fun k => k t7) fun t29 =>
 GdP t27 false (fun k => Dv P true (bn .gtr 3 true t29 (.int .i64 0)) w k) fun t30 =>
 GdP t27 false (fun k => k t30) fun t31 =>
 GdP t31 true (fun k => k t1) fun t32 =>
 GdP t31 true (fun k => k t7) fun t33 =>
 GdP t31 true (fun k => dIx P 35 t32 t33 w k) fun t34 =>
 GdP t31 true (fun k => dFl P 31 t34 0 w k) fun t35 =>
 GdP t31 true (fun k => dL P 3 t35 w k) fun t36 =>
 GdP t31 true (fun k => k t1) fun t37 =>
 GdP t31 true (fun k => k t7) fun t38 =>
 GdP t31 true (fun k => Dv P true (bn .sub 3 true t38 (.int .i64 1)) w k) fun t39 =>
 GdP t31 true (fun k => dIx P 35 t37 t39 w k) fun t40 =>
 GdP t31 true (fun k => dFl P 31 t40 0 w k) fun t41 =>
 GdP t31 true (fun k => dL P 3 t41 w k) fun t42 =>
 GdP t31 true (fun k => Dv P true (bn .leq 3 false t36 t42) w k) fun t43 =>
 GdP t27 false (fun k => PickP t31 t43 (.bool false) k) fun t44 =>
 PickP t27 (.bool true) t44 fun t45 =>
 GdP t45 false (fun k => k t1) fun t47 =>
 GdP t45 false (fun k => k t7) fun t48 =>
 GdP t45 false (fun k => dIx P 35 t47 t48 w k) fun t49 =>
 GdP t45 false (fun k => dFl P 31 t49 1 w k) fun t50 =>
 GdP t45 false (fun k => dL P 3 t50 w k) fun t51 =>
 GdP t45 false (fun k => Dv P true (bn .leq 3 true t51 (.int .i64 0)) w k) fun t52 =>
 GdP t45 false (fun k => k t52) fun t53 =>
 GdP t53 true (fun k => k t1) fun t54 =>
 GdP t53 true (fun k => k t7) fun t55 =>
 GdP t53 true (fun k => dIx P 35 t54 t55 w k) fun t56 =>
 GdP t53 true (fun k => dFl P 31 t56 2 w k) fun t57 =>
 GdP t53 true (fun k => dL P 28 t57 w k) fun t58 =>
 GdP t53 true (fun k => Dv P true (bV .len #[28] 3 #[t58]) w k) fun t59 =>
 GdP t53 true (fun k => Dv P true (bn .gtr 3 true t59 (.int .i64 0)) w k) fun t60 =>
 GdP t45 false (fun k => PickP t53 t60 (.bool false) k) fun t61 =>
 PickP t45 (.bool true) t61 fun t62 =>
 GdP t62 false (fun k => k t1) fun t64 =>
 GdP t62 false (fun k => k t7) fun t65 =>
 GdP t62 false (fun k => dIx P 35 t64 t65 w k) fun t66 =>
 GdP t62 false (fun k => dFl P 31 t66 1 w k) fun t67 =>
 GdP t62 false (fun k => dL P 3 t67 w k) fun t68 =>
 GdP t62 false (fun k => Dv P true (bn .gtr 3 true t68 (.int .i64 0)) w k) fun t69 =>
 GdP t62 false (fun k => k t69) fun t70 =>
 GdP t70 true (fun k => k t1) fun t71 =>
 GdP t70 true (fun k => k t7) fun t72 =>
 GdP t70 true (fun k => dIx P 35 t71 t72 w k) fun t73 =>
 GdP t70 true (fun k => dFl P 31 t73 2 w k) fun t74 =>
 GdP t70 true (fun k => dL P 28 t74 w k) fun t75 =>
 GdP t70 true (fun k => Dv P true (bV .len #[28] 3 #[t75]) w k) fun t76 =>
 GdP t70 true (fun k => Dv P true (bn .neq 3 true t76 (.int .i64 4)) w k) fun t77 =>
 GdP t62 false (fun k => PickP t70 t77 (.bool false) k) fun t78 =>
 PickP t62 (.bool true) t78 fun t79 =>
 If t79
 (R (.returned (.tuple #[(.slice none 0 0), (.int .i64 260)])) w)
 (Ia P 35 t1 t7 w fun t83 w =>
 Fa P 31 t83 1 w fun t84 w =>
 Ld P 3 t84 w fun t85 w =>
 Bs P 27 1 [(0, t85)] w fun t86 w =>
 Bt P .append #[27, 27] 27 #[t6, t86] w fun t87 w =>
 Bn P .add 3 true t7 (.int .i64 1) w fun t20 w =>
 k1 t87 t20 w))
 (Ld P 25 t2 w fun t89 w =>
 Cl P 14 #[t89, t6] w (Pk R) fun t91 w =>
 Ex t91 0 w fun t92 w =>
 Ex t91 1 w fun t93 w =>
 Bn P .neq 39 true t93 (.int .i64 0) w fun t95 w =>
 If t95
 (R (.returned (.tuple #[(.slice none 0 0), (.int .i64 260)])) w)
 (Lp2 (.slice none 0 0) (.int .i64 0) w (fun t10 t11 w k2 =>
 Bt P .len #[35] 3 #[t1] w fun t98 w =>
 Bn P .lss 3 false t11 t98 w fun t99 w =>
 If t99
 (Ia P 35 t1 t11 w fun t104 w =>
 Fa P 31 t104 1 w fun t105 w =>
 Ld P 3 t105 w fun t106 w =>
 Bn P .eql 3 true t106 (.int .i64 0) w fun t107 w =>
 If t107
 (Bn P .add 3 true t11 (.int .i64 1) w fun t101 w =>
 k2 t10 t101 w)
 (dIx P 27 t92 t11 w.drew fun t111 =>
 dL P 3 t111 w.drew fun t112 =>
 dIx P 35 t1 t11 w.drew fun t115 =>
 dFl P 31 t115 2 w.drew fun t116 =>
 dL P 28 t116 w.drew fun t117 =>
 Cl P 25 #[t112, t117] w.drew (Pk R) fun t118 w =>
 ExP t118 0 fun t119 =>
 ExP t118 1 fun t120 =>
 Bn P .neq 39 true t120 (.int .i64 0) w fun t122 w =>
 If t122
 (R (.returned (.tuple #[(.slice none 0 0), (.int .i64 260)])) w)
 (Lp2 t10 (.int .i64 0) w (fun t10x1 t14 w k3 =>
 Bt P .len #[27] 3 #[t119] w fun t125 w =>
 Bn P .lss 3 false t14 t125 w fun t126 w =>
 If t126
 (Ia P 27 t119 t14 w fun t131 w =>
 Ld P 3 t131 w fun t132 w =>
 Bn P .gtr 3 true t132 (.int .i64 0) w fun t133 w =>
 If t133
 (dIx P 35 t1 t11 w.drew fun t137 =>
 dFl P 31 t137 0 w.drew fun t138 =>
 dL P 3 t138 w.drew fun t139 =>
 dIx P 27 t119 t14 w.drew fun t143 =>
 dL P 3 t143 w.drew fun t144 =>
 Dv P true (Instr.build 67 #[(0, t139), (1, t14), (2, t144)]) w.drew fun t145 =>
 Bs P 32 1 [(0, t145)] w.drew fun t146 w =>
 Bt P .append #[32, 32] 32 #[t10x1, t146] w fun t147 w =>
 Bn P .add 3 true t14 (.int .i64 1) w fun t128 w =>
 k3 t147 t128 w)
 (Bn P .add 3 true t14 (.int .i64 1) w fun t128x1 w =>
 k3 t10x1 t128x1 w))
 (Bn P .add 3 true t11 (.int .i64 1) w fun t101x1 w =>
 k2 t10x1 t101x1 w)))))
 (R (.returned (.tuple #[t10, (.int .i64 0)])) w)))))
theorem e_ref26_Bill (h : s_ref26_Bill Tryz.prog t0 t1 w R) : Calls Tryz.prog 19 #[t0, t1] w R :=
 en1 (.sq .z (.sq .z (.sq (.sq .z (.bk (.lp [6, 7] [4, 5, 15, 16, 17, 18, 19, 20, 21, 22, 23, 24, 25, 26, 27, 28, 29, 30, 31, 32, 33, 34, 35, 36, 37, 38, 39, 40, 41, 42, 43, 44, 45, 46, 47, 48, 49, 50, 51, 52, 53, 54, 55, 56, 57, 58, 59, 60, 61, 62, 63, 64, 65, 66, 67, 68, 69, 70, 71, 72, 73, 74, 75, 76, 77, 78, 79, 80, 81, 82, 83, 84, 85, 86, 87] (.sq (.sq .z (.cd .z .z)) (.sq (.bk (.sq (.sq (.dr (.pur true 0 (.pur true 1 (.pur true 2 (.pur true 3 (.pur false 4 (.eff 5 [] (.pur true 6 (.pur true 7 (.pur true 8 (.pur true 9 (.pur true 10 (.pur true 11 (.pur true 12 (.pur true 13 (.pur true 14 (.pur false 15 (.pur true 16 (.pur true 17 (.pur true 18 (.pur true 19 (.pur true 20 (.pur false 21 (.pur true 22 (.pur true 23 (.pur true 24 (.pur true 25 (.pur true 26 (.pur true 27 (.pur true 28 (.pur true 29 (.pur false 30 (.pur true 31 (.pur true 32 (.pur true 33 (.pur true 34 (.pur true 35 (.pur true 36 (.pur false 37 (.pur true 38 (.pur true 39 (.pur true 40 (.pur true 41 (.pur true 42 (.pur true 43 (.pur true 44 (.pur true 45 (.pur true 46 (.pur false 47 (.pur true 48 (.pur true 49 (.pur true 50 (.pur true 51 (.pur true 52 (.pur true 53 (.pur false 54 (.pur true 55 (.pur true 56 (.pur true 57 (.pur true 58 .done)))))))))))))))))))))))))))))))))))))))))))))))))))))))))))) (.cd (.sq .z .z) .z)) .z)) .z))))) (.sq .z (.sq (.sq .z (.cd (.sq .z .z) .z)) (.sq .z (.sq (.sq .z (.bk (.lp [10, 11] [4, 5, 12, 13, 14, 96, 97, 98, 99, 100, 101, 102, 103, 104, 105, 106, 107, 108, 109, 110, 111, 112, 113, 114, 115, 116, 117, 118, 119, 120, 121, 122, 123, 124, 125, 126, 127, 128, 129, 130, 131, 132, 133, 134, 135, 136, 137, 138, 139, 140, 141, 142, 143, 144, 145, 146, 147] (.sq (.sq .z (.cd .z .z)) (.sq (.bk (.sq (.sq .z (.cd .z .z)) (.sq (.dr (.pur true 0 (.pur true 1 (.pur true 2 (.pur false 3 (.pur true 4 (.pur true 5 (.pur true 6 (.pur true 7 (.pur false 8 (.eff 9 [] (.pur true 10 (.pur true 11 (.pur true 12 (.pur true 13 (.pur true 14 .done)))))))))))))))) (.sq (.sq .z (.cd (.sq .z .z) .z)) (.sq .z (.bk (.lp [10, 14] [123, 124, 125, 126, 127, 128, 129, 130, 131, 132, 133, 134, 135, 136, 137, 138, 139, 140, 141, 142, 143, 144, 145, 146, 147] (.sq (.sq .z (.cd .z .z)) (.sq (.bk (.sq .z (.cd (.dr (.pur true 0 (.pur true 1 (.pur true 2 (.pur true 3 (.pur true 4 (.pur false 5 (.pur true 6 (.pur true 7 (.pur true 8 (.pur true 9 (.pur false 10 (.pur true 11 (.eff 12 [] (.eff 13 [] (.pur true 14 .done)))))))))))))))) .z))) .z))))))))) .z))))) (.sq .z .z)))))))) [t0, t1] Tryz.func19 (by kernel_rfl) (by kernel_rfl) h
theorem n_ref26_Bill : Enters Tryz.prog 19 := enters_of Tryz.func19 (by kernel_rfl) rfl
def s_ref26_SameDues (P : Program) (t0 t1 : Value) (w : World) (R : Ending → World → Prop) : Prop :=
 Bt P .len #[32] 3 #[t0] w fun t7 w =>
 Bt P .len #[32] 3 #[t1] w fun t9 w =>
 Bn P .neq 3 false t7 t9 w fun t10 w =>
 If t10
 (R (.returned (.bool false)) w)
 (Lp1 (.int .i64 0) w (fun t5 w k1 =>
 Bt P .len #[32] 3 #[t0] w fun t13 w =>
 Bn P .lss 3 false t5 t13 w fun t14 w =>
 If t14
 (dIx P 32 t0 t5 w.drew fun t19 =>
 dL P 67 t19 w.drew fun t20 =>
 dIx P 32 t1 t5 w.drew fun t23 =>
 dL P 67 t23 w.drew fun t24 =>
 Dv P false (bn .neq 67 false t20 t24) w.drew fun t25 =>
 If t25
 (R (.returned (.bool false)) w.drew)
 (Bn P .add 3 true t5 (.int .i64 1) w.drew fun t16 w =>
 k1 t16 w))
 (R (.returned (.bool true)) w)))
theorem e_ref26_SameDues (h : s_ref26_SameDues Tryz.prog t0 t1 w R) : Calls Tryz.prog 20 #[t0, t1] w R :=
 en1 (.sq .z (.sq (.sq .z (.cd (.sq .z .z) .z)) (.sq (.sq .z (.bk (.lp [5] [4, 11, 12, 13, 14, 15, 16, 17, 18, 19, 20, 21, 22, 23, 24, 25] (.sq (.sq .z (.cd .z .z)) (.sq (.bk (.sq (.dr (.pur true 0 (.pur true 1 (.pur true 2 (.pur false 3 (.pur true 4 (.pur true 5 (.pur true 6 (.pur false 7 (.pur false 8 .done)))))))))) (.cd (.sq .z .z) .z))) .z))))) (.sq .z .z)))) [t0, t1] Tryz.func20 (by kernel_rfl) (by kernel_rfl) h
theorem n_ref26_SameDues : Enters Tryz.prog 20 := enters_of Tryz.func20 (by kernel_rfl) rfl
def s_contract_Totals (P : Program) (t0 : Value) (w : World) (R : Ending → World → Prop) : Prop :=
 Ms P 27 (.int .i64 4) (.int .i64 4) w fun t7 w =>
 Bt P .len #[32] 3 #[t0] w fun t9 w =>
 Lp1 (.int .i64 0) w (fun t10 w k1 =>
 Bn P .lss 3 false t10 t9 w fun t11 w =>
 If t11
 (Ia P 32 t0 t10 w fun t12 w =>
 Ld P 67 t12 w fun t13 w =>
 Al P 67 w fun t6 w =>
 Sto P 67 t6 t13 w fun w =>
 Bt P .len #[32] 3 #[t0] w fun t15 w =>
 Bn P .gtr 3 true t15 (.int .i64 400) w fun t16 w =>
 Gd t16 false (fun k => Fa P 67 t6 1 w k) w fun t18 w =>
 Gd t16 false (fun k => Ld P 3 t18 w k) w fun t19 w =>
 Gd t16 false (fun k => Cl P 44 #[t19, (.int .i64 0), (.int .i64 3)] w (Pk R) k) w fun t20 w =>
 Gd t16 false (fun k => Un P .not t20 w k) w fun t21 w =>
 Pick t16 (.bool true) t21 w fun t22 w =>
 Gd t22 false (fun k => Fa P 67 t6 2 w k) w fun t24 w =>
 Gd t22 false (fun k => Ld P 3 t24 w k) w fun t25 w =>
 Gd t22 false (fun k => Cl P 44 #[t25, (.int .i64 0), (.int .i64 1000000000)] w (Pk R) k) w fun t26 w =>
 Gd t22 false (fun k => Un P .not t26 w k) w fun t27 w =>
 Pick t22 (.bool true) t27 w fun t28 w =>
 If t28
 (R (.returned (.tuple #[(.slice none 0 0), (.int .i64 260)])) w)
 (dFl P 67 t6 1 w.drew fun t30 =>
 dL P 3 t30 w.drew fun t31 =>
 dIx P 27 t7 t31 w.drew fun t32 =>
 dL P 3 t32 w.drew fun t33 =>
 dFl P 67 t6 2 w.drew fun t34 =>
 dL P 3 t34 w.drew fun t35 =>
 Dv P true (bn .add 3 false t33 t35) w.drew fun t36 =>
 dIx P 27 t7 t31 w.drew fun t37 =>
 Sto P 3 t37 t36 w.drew fun w =>
 Bn P .add 3 true t10 (.int .i64 1) w fun t38 w =>
 k1 t38 w))
 (R (.returned (.tuple #[t7, (.int .i64 0)])) w))
theorem e_contract_Totals (h : s_contract_Totals Tryz.prog t0 w R) : Calls Tryz.prog 21 #[t0] w R :=
 en1 (.sq .z (.sq .z (.sq (.sq .z (.bk (.lp [10] [2, 3, 6, 11, 12, 13, 14, 15, 16, 17, 18, 19, 20, 21, 22, 23, 24, 25, 26, 27, 28, 29, 30, 31, 32, 33, 34, 35, 36, 37, 38] (.sq .z (.sq (.cd .z .z) (.sq (.bk (.sq .z (.sq (.sq .z (.cd (.sq .z .z) .z)) (.dr (.pur true 0 (.pur true 1 (.pur false 2 (.pur true 3 (.pur false 4 (.pur true 5 (.pur false 6 (.pur true 7 (.pur true 8 (.eff 9 [] .done)))))))))))))) .z)))))) (.sq .z .z)))) [t0] Tryz.func21 (by kernel_rfl) (by kernel_rfl) h
theorem n_contract_Totals : Enters Tryz.prog 21 := enters_of Tryz.func21 (by kernel_rfl) rfl
def s_ref26_Totals (P : Program) (t0 : Value) (w : World) (R : Ending → World → Prop) : Prop :=
 Bt P .len #[32] 3 #[t0] w fun t7 w =>
 Bn P .gtr 3 true t7 (.int .i64 400) w fun t8 w =>
 If t8
 (R (.returned (.tuple #[(.slice none 0 0), (.int .i64 260)])) w)
 (Bs P 27 4 [(0, (.int .i64 0)), (1, (.int .i64 0)), (2, (.int .i64 0)), (3, (.int .i64 0))] w fun t9 w =>
 Lp1 (.int .i64 0) w (fun t5 w k1 =>
 Bt P .len #[32] 3 #[t0] w fun t12 w =>
 Bn P .lss 3 false t5 t12 w fun t13 w =>
 If t13
 (Ia P 32 t0 t5 w fun t18 w =>
 Fa P 67 t18 1 w fun t19 w =>
 Ld P 3 t19 w fun t20 w =>
 Cl P 41 #[t20, (.int .i64 0), (.int .i64 3)] w (Pk R) fun t21 w =>
 Un P .not t21 w fun t22 w =>
 Gd t22 false (fun k => k t0 w) w fun t24 w =>
 Gd t22 false (fun k => k t5 w) w fun t25 w =>
 Gd t22 false (fun k => Ia P 32 t24 t25 w k) w fun t26 w =>
 Gd t22 false (fun k => Fa P 67 t26 2 w k) w fun t27 w =>
 Gd t22 false (fun k => Ld P 3 t27 w k) w fun t28 w =>
 Gd t22 false (fun k => Cl P 41 #[t28, (.int .i64 0), (.int .i64 1000000000)] w (Pk R) k) w fun t29 w =>
 Gd t22 false (fun k => Un P .not t29 w k) w fun t30 w =>
 Pick t22 (.bool true) t30 w fun t31 w =>
 If t31
 (R (.returned (.tuple #[(.slice none 0 0), (.int .i64 260)])) w)
 (dIx P 32 t0 t5 w.drew fun t35 =>
 dFl P 67 t35 1 w.drew fun t36 =>
 dL P 3 t36 w.drew fun t37 =>
 dIx P 32 t0 t5 w.drew fun t41 =>
 dFl P 67 t41 1 w.drew fun t42 =>
 dL P 3 t42 w.drew fun t43 =>
 dIx P 27 t9 t43 w.drew fun t44 =>
 dL P 3 t44 w.drew fun t45 =>
 dIx P 32 t0 t5 w.drew fun t48 =>
 dFl P 67 t48 2 w.drew fun t49 =>
 dL P 3 t49 w.drew fun t50 =>
 Dv P true (bn .add 3 false t45 t50) w.drew fun t51 =>
 dIx P 27 t9 t37 w.drew fun t52 =>
 Sto P 3 t52 t51 w.drew fun w =>
 Bn P .add 3 true t5 (.int .i64 1) w fun t15 w =>
 k1 t15 w))
 (R (.returned (.tuple #[t9, (.int .i64 0)])) w)))
theorem e_ref26_Totals (h : s_ref26_Totals Tryz.prog t0 w R) : Calls Tryz.prog 22 #[t0] w R :=
 en1 (.sq .z (.sq (.sq .z (.cd (.sq .z .z) .z)) (.sq .z (.sq (.sq .z (.bk (.lp [5] [2, 3, 10, 11, 12, 13, 14, 15, 16, 17, 18, 19, 20, 21, 22, 23, 24, 25, 26, 27, 28, 29, 30, 31, 32, 33, 34, 35, 36, 37, 38, 39, 40, 41, 42, 43, 44, 45, 46, 47, 48, 49, 50, 51, 52] (.sq (.sq .z (.cd .z .z)) (.sq (.bk (.sq (.sq .z (.cd (.sq .z .z) .z)) (.dr (.pur true 0 (.pur true 1 (.pur true 2 (.pur true 3 (.pur true 4 (.pur false 5 (.pur true 6 (.pur true 7 (.pur true 8 (.pur true 9 (.pur true 10 (.pur false 11 (.pur true 12 (.pur false 13 (.pur true 14 (.pur true 15 (.pur true 16 (.pur true 17 (.pur false 18 (.pur true 19 (.pur true 20 (.eff 21 [] .done))))))))))))))))))))))))) .z))))) (.sq .z .z))))) [t0] Tryz.func22 (by kernel_rfl) (by kernel_rfl) h
theorem n_ref26_Totals : Enters Tryz.prog 22 := enters_of Tryz.func22 (by kernel_rfl) rfl
def s_law26_pick (P : Program) (t0 t1 : Value) (w : World) (R : Ending → World → Prop) : Prop :=
 Bn P .lss 3 true t0 (.int .i64 0) w fun t6 w =>
 If t6
 (Bn P .add 3 true t0 (.int .i64 1) w fun t8 w =>
 Un P .neg t8 w fun t9 w =>
 Bn P .rem 3 false t9 t1 w fun t12 w =>
 R (.returned t12) w)
 (Bn P .rem 3 false t0 t1 w fun t12x1 w =>
 R (.returned t12x1) w)
theorem e_law26_pick (h : s_law26_pick Tryz.prog t0 t1 w R) : Calls Tryz.prog 23 #[t0, t1] w R :=
 en1 (.sq .z (.sq (.sq .z (.cd .z .z)) (.sq .z .z))) [t0, t1] Tryz.func23 (by kernel_rfl) (by kernel_rfl) h
theorem n_law26_pick : Enters Tryz.prog 23 := enters_of Tryz.func23 (by kernel_rfl) rfl
def s_contract_Split (P : Program) (t0 t1 : Value) (w : World) (R : Ending → World → Prop) : Prop :=
 Cl P 49 #[t1] w (Pk R) fun t27 w =>
 Ex t27 0 w fun t28 w =>
 Ex t27 1 w fun t29 w =>
 Al P 23 w fun t6 w =>
 Sto P 23 t6 t28 w fun w =>
 Un P .not t29 w fun t31 w =>
 Gd t31 false (fun k => k t0 w) w fun t33 w =>
 Gd t31 false (fun k => Cl P 44 #[t33, (.int .i64 0), (.int .i64 1000000000)] w (Pk R) k) w fun t34 w =>
 Gd t31 false (fun k => Un P .not t34 w k) w fun t35 w =>
 Pick t31 (.bool true) t35 w fun t36 w =>
 If t36
 (R (.returned (.tuple #[(.slice none 0 0), (.int .i64 260)])) w)
 (Cl P 50 #[t0, (.int .i64 1)] w (Pk R) fun t39 w =>
 Ex t39 0 w fun t40 w =>
 Ex t39 1 w fun t41 w =>
 Al P 23 w fun t8 w =>
 Sto P 23 t8 t40 w fun w =>
 Al P 28 w fun t13 w =>
 Bt P .len #[28] 3 #[t1] w fun t44 w =>
 Lp4 t0 (.slice none 0 0) (.slice none 0 0) (.int .i64 0) w (fun t10 t11 t12 t45 w k1 =>
 Bn P .lss 3 false t45 t44 w fun t46 w =>
 If t46
 (Ia P 28 t1 t45 w fun t48 w =>
 Ld P 23 t48 w fun t49 w =>
 Al P 23 w fun t15 w =>
 Sto P 23 t15 t49 w fun w =>
 Ld P 23 t8 w fun t51 w =>
 Ld P 23 t15 w fun t52 w =>
 Cl P 28 #[t51, t52] w (Pk R) fun t53 w =>
 Ex t53 0 w fun t54 w =>
 Ex t53 1 w fun t55 w =>
 Al P 23 w fun t16 w =>
 Sto P 23 t16 t54 w fun w =>
 Bn P .neq 39 true t55 (.int .i64 0) w fun t57 w =>
 If t57
 (R (.returned (.tuple #[(.slice none 0 0), (.int .i64 260)])) w)
 (Ld P 23 t16 w fun t59 w =>
 Ld P 23 t6 w fun t60 w =>
 Cl P 30 #[t59, t60] w (Pk R) fun t61 w =>
 Ex t61 0 w fun t62 w =>
 Ex t61 1 w fun t63 w =>
 Al P 23 w fun t18 w =>
 Sto P 23 t18 t62 w fun w =>
 Bn P .neq 39 true t63 (.int .i64 0) w fun t65 w =>
 If t65
 (R (.returned (.tuple #[(.slice none 0 0), (.int .i64 260)])) w)
 (Ld P 23 t18 w fun t66 w =>
 Cl P 51 #[t66, t0] w (Pk R) fun t68 w =>
 Cl P 50 #[t68, (.int .i64 1)] w (Pk R) fun t71 w =>
 Ex t71 0 w fun t72 w =>
 Ex t71 1 w fun t73 w =>
 Al P 23 w fun t20 w =>
 Sto P 23 t20 t72 w fun w =>
 Ld P 23 t18 w fun t75 w =>
 Ld P 23 t20 w fun t76 w =>
 Cl P 31 #[t75, t76] w (Pk R) fun t77 w =>
 Ex t77 0 w fun t78 w =>
 Ex t77 1 w fun t79 w =>
 Al P 23 w fun t22 w =>
 Sto P 23 t22 t78 w fun w =>
 Bn P .neq 39 true t79 (.int .i64 0) w fun t81 w =>
 If t81
 (R (.returned (.tuple #[(.slice none 0 0), (.int .i64 260)])) w)
 (Bn P .sub 3 false t10 t68 w fun t84 w =>
 dL P 28 t13 w.drew fun t93 =>
 dL P 23 t22 w.drew fun t94 =>
 (Bs P 27 1 [(0, t68)] w.drew fun t87 w =>
 kLd P 28 t13 t93 w <|
 kLd P 23 t22 t94 w <|
 (Bt P .append #[27, 27] 27 #[t11, t87] w fun t88 w =>
 kLd P 28 t13 t93 w <|
 kLd P 23 t22 t94 w <|
 (Bs P 27 1 [(0, t45)] w fun t91 w =>
 kLd P 28 t13 t93 w <|
 kLd P 23 t22 t94 w <|
 (Bt P .append #[27, 27] 27 #[t12, t91] w fun t92 w =>
 kLd P 28 t13 t93 w <|
 kLd P 23 t22 t94 w <|
 Bs P 28 1 [(0, t94)] w fun t95 w =>
 kLd P 28 t13 t93 w <|
 Bt P .append #[28, 28] 28 #[t93, t95] w fun t96 w =>
 Sto P 28 t13 t96 w fun w =>
 Bn P .add 3 true t45 (.int .i64 1) w fun t97 w =>
 k1 t84 t88 t92 t97 w) ∧
 (Bs P 28 1 [(0, t94)] w fun t95x1 w =>
 kLd P 28 t13 t93 w <|
 Bt P .append #[27, 27] 27 #[t12, t91] w fun t92x1 w =>
 kLd P 28 t13 t93 w <|
 kLd P 23 t22 t94 w <|
 Bt P .append #[28, 28] 28 #[t93, t95x1] w fun t96x1 w =>
 Sto P 28 t13 t96x1 w fun w =>
 Bn P .add 3 true t45 (.int .i64 1) w fun t97x1 w =>
 k1 t84 t88 t92x1 t97x1 w)) ∧
 (Bs P 28 1 [(0, t94)] w fun t95x2 w =>
 kLd P 28 t13 t93 w <|
 Bs P 27 1 [(0, t45)] w fun t91x1 w =>
 kLd P 28 t13 t93 w <|
 kLd P 23 t22 t94 w <|
 Bt P .append #[27, 27] 27 #[t12, t91x1] w fun t92x2 w =>
 kLd P 28 t13 t93 w <|
 kLd P 23 t22 t94 w <|
 Bt P .append #[28, 28] 28 #[t93, t95x2] w fun t96x2 w =>
 Sto P 28 t13 t96x2 w fun w =>
 Bn P .add 3 true t45 (.int .i64 1) w fun t97x2 w =>
 k1 t84 t88 t92x2 t97x2 w)) ∧
 ((Bs P 27 1 [(0, t45)] w fun t91x2 w =>
 kLd P 28 t13 t93 w <|
 kLd P 23 t22 t94 w <|
 (Bt P .append #[27, 27] 27 #[t11, t87] w fun t88x1 w =>
 kLd P 28 t13 t93 w <|
 kLd P 23 t22 t94 w <|
 (Bt P .append #[27, 27] 27 #[t12, t91x2] w fun t92x3 w =>
 kLd P 28 t13 t93 w <|
 kLd P 23 t22 t94 w <|
 Bs P 28 1 [(0, t94)] w fun t95x3 w =>
 kLd P 28 t13 t93 w <|
 Bt P .append #[28, 28] 28 #[t93, t95x3] w fun t96x3 w =>
 Sto P 28 t13 t96x3 w fun w =>
 Bn P .add 3 true t45 (.int .i64 1) w fun t97x3 w =>
 k1 t84 t88x1 t92x3 t97x3 w) ∧
 (Bs P 28 1 [(0, t94)] w fun t95x4 w =>
 kLd P 28 t13 t93 w <|
 Bt P .append #[27, 27] 27 #[t12, t91x2] w fun t92x4 w =>
 kLd P 28 t13 t93 w <|
 kLd P 23 t22 t94 w <|
 Bt P .append #[28, 28] 28 #[t93, t95x4] w fun t96x4 w =>
 Sto P 28 t13 t96x4 w fun w =>
 Bn P .add 3 true t45 (.int .i64 1) w fun t97x4 w =>
 k1 t84 t88x1 t92x4 t97x4 w)) ∧
 (Bs P 28 1 [(0, t94)] w fun t95x5 w =>
 kLd P 28 t13 t93 w <|
 Bt P .append #[27, 27] 27 #[t11, t87] w fun t88x2 w =>
 kLd P 28 t13 t93 w <|
 kLd P 23 t22 t94 w <|
 Bt P .append #[27, 27] 27 #[t12, t91x2] w fun t92x5 w =>
 kLd P 28 t13 t93 w <|
 kLd P 23 t22 t94 w <|
 Bt P .append #[28, 28] 28 #[t93, t95x5] w fun t96x5 w =>
 Sto P 28 t13 t96x5 w fun w =>
 Bn P .add 3 true t45 (.int .i64 1) w fun t97x5 w =>
 k1 t84 t88x2 t92x5 t97x5 w)) ∧
 (Bs P 28 1 [(0, t94)] w fun t95x6 w =>
 kLd P 28 t13 t93 w <|
 (Bt P .append #[27, 27] 27 #[t11, t87] w fun t88x3 w =>
 kLd P 28 t13 t93 w <|
 kLd P 23 t22 t94 w <|
 Bs P 27 1 [(0, t45)] w fun t91x3 w =>
 kLd P 28 t13 t93 w <|
 kLd P 23 t22 t94 w <|
 Bt P .append #[27, 27] 27 #[t12, t91x3] w fun t92x6 w =>
 kLd P 28 t13 t93 w <|
 kLd P 23 t22 t94 w <|
 Bt P .append #[28, 28] 28 #[t93, t95x6] w fun t96x6 w =>
 Sto P 28 t13 t96x6 w fun w =>
 Bn P .add 3 true t45 (.int .i64 1) w fun t97x6 w =>
 k1 t84 t88x3 t92x6 t97x6 w) ∧
 (Bs P 27 1 [(0, t45)] w fun t91x4 w =>
 kLd P 28 t13 t93 w <|
 kLd P 23 t22 t94 w <|
 Bt P .append #[27, 27] 27 #[t11, t87] w fun t88x4 w =>
 kLd P 28 t13 t93 w <|
 kLd P 23 t22 t94 w <|
 Bt P .append #[27, 27] 27 #[t12, t91x4] w fun t92x7 w =>
 kLd P 28 t13 t93 w <|
 kLd P 23 t22 t94 w <|
 Bt P .append #[28, 28] 28 #[t93, t95x6] w fun t96x7 w =>
 Sto P 28 t13 t96x7 w fun w =>
 Bn P .add 3 true t45 (.int .i64 1) w fun t97x7 w =>
 k1 t84 t88x4 t92x7 t97x7 w)))) ∧
 ((Bs P 27 1 [(0, t45)] w.drew fun t91x5 w =>
 kLd P 28 t13 t93 w <|
 kLd P 23 t22 t94 w <|
 (Bs P 27 1 [(0, t68)] w fun t87x1 w =>
 kLd P 28 t13 t93 w <|
 kLd P 23 t22 t94 w <|
 (Bt P .append #[27, 27] 27 #[t11, t87x1] w fun t88x5 w =>
 kLd P 28 t13 t93 w <|
 kLd P 23 t22 t94 w <|
 (Bt P .append #[27, 27] 27 #[t12, t91x5] w fun t92x8 w =>
 kLd P 28 t13 t93 w <|
 kLd P 23 t22 t94 w <|
 Bs P 28 1 [(0, t94)] w fun t95x7 w =>
 kLd P 28 t13 t93 w <|
 Bt P .append #[28, 28] 28 #[t93, t95x7] w fun t96x8 w =>
 Sto P 28 t13 t96x8 w fun w =>
 Bn P .add 3 true t45 (.int .i64 1) w fun t97x8 w =>
 k1 t84 t88x5 t92x8 t97x8 w) ∧
 (Bs P 28 1 [(0, t94)] w fun t95x8 w =>
 kLd P 28 t13 t93 w <|
 Bt P .append #[27, 27] 27 #[t12, t91x5] w fun t92x9 w =>
 kLd P 28 t13 t93 w <|
 kLd P 23 t22 t94 w <|
 Bt P .append #[28, 28] 28 #[t93, t95x8] w fun t96x9 w =>
 Sto P 28 t13 t96x9 w fun w =>
 Bn P .add 3 true t45 (.int .i64 1) w fun t97x9 w =>
 k1 t84 t88x5 t92x9 t97x9 w)) ∧
 (Bs P 28 1 [(0, t94)] w fun t95x9 w =>
 kLd P 28 t13 t93 w <|
 Bt P .append #[27, 27] 27 #[t11, t87x1] w fun t88x6 w =>
 kLd P 28 t13 t93 w <|
 kLd P 23 t22 t94 w <|
 Bt P .append #[27, 27] 27 #[t12, t91x5] w fun t92x10 w =>
 kLd P 28 t13 t93 w <|
 kLd P 23 t22 t94 w <|
 Bt P .append #[28, 28] 28 #[t93, t95x9] w fun t96x10 w =>
 Sto P 28 t13 t96x10 w fun w =>
 Bn P .add 3 true t45 (.int .i64 1) w fun t97x10 w =>
 k1 t84 t88x6 t92x10 t97x10 w)) ∧
 (Bs P 28 1 [(0, t94)] w fun t95x10 w =>
 kLd P 28 t13 t93 w <|
 Bs P 27 1 [(0, t68)] w fun t87x2 w =>
 kLd P 28 t13 t93 w <|
 kLd P 23 t22 t94 w <|
 Bt P .append #[27, 27] 27 #[t11, t87x2] w fun t88x7 w =>
 kLd P 28 t13 t93 w <|
 kLd P 23 t22 t94 w <|
 Bt P .append #[27, 27] 27 #[t12, t91x5] w fun t92x11 w =>
 kLd P 28 t13 t93 w <|
 kLd P 23 t22 t94 w <|
 Bt P .append #[28, 28] 28 #[t93, t95x10] w fun t96x11 w =>
 Sto P 28 t13 t96x11 w fun w =>
 Bn P .add 3 true t45 (.int .i64 1) w fun t97x11 w =>
 k1 t84 t88x7 t92x11 t97x11 w)) ∧
 (Bs P 28 1 [(0, t94)] w.drew fun t95x11 w =>
 kLd P 28 t13 t93 w <|
 (Bs P 27 1 [(0, t68)] w fun t87x3 w =>
 kLd P 28 t13 t93 w <|
 kLd P 23 t22 t94 w <|
 (Bt P .append #[27, 27] 27 #[t11, t87x3] w fun t88x8 w =>
 kLd P 28 t13 t93 w <|
 kLd P 23 t22 t94 w <|
 Bs P 27 1 [(0, t45)] w fun t91x6 w =>
 kLd P 28 t13 t93 w <|
 kLd P 23 t22 t94 w <|
 Bt P .append #[27, 27] 27 #[t12, t91x6] w fun t92x12 w =>
 kLd P 28 t13 t93 w <|
 kLd P 23 t22 t94 w <|
 Bt P .append #[28, 28] 28 #[t93, t95x11] w fun t96x12 w =>
 Sto P 28 t13 t96x12 w fun w =>
 Bn P .add 3 true t45 (.int .i64 1) w fun t97x12 w =>
 k1 t84 t88x8 t92x12 t97x12 w) ∧
 (Bs P 27 1 [(0, t45)] w fun t91x7 w =>
 kLd P 28 t13 t93 w <|
 kLd P 23 t22 t94 w <|
 Bt P .append #[27, 27] 27 #[t11, t87x3] w fun t88x9 w =>
 kLd P 28 t13 t93 w <|
 kLd P 23 t22 t94 w <|
 Bt P .append #[27, 27] 27 #[t12, t91x7] w fun t92x13 w =>
 kLd P 28 t13 t93 w <|
 kLd P 23 t22 t94 w <|
 Bt P .append #[28, 28] 28 #[t93, t95x11] w fun t96x13 w =>
 Sto P 28 t13 t96x13 w fun w =>
 Bn P .add 3 true t45 (.int .i64 1) w fun t97x13 w =>
 k1 t84 t88x9 t92x13 t97x13 w)) ∧
 (Bs P 27 1 [(0, t45)] w fun t91x8 w =>
 kLd P 28 t13 t93 w <|
 kLd P 23 t22 t94 w <|
 Bs P 27 1 [(0, t68)] w fun t87x4 w =>
 kLd P 28 t13 t93 w <|
 kLd P 23 t22 t94 w <|
 Bt P .append #[27, 27] 27 #[t11, t87x4] w fun t88x10 w =>
 kLd P 28 t13 t93 w <|
 kLd P 23 t22 t94 w <|
 Bt P .append #[27, 27] 27 #[t12, t91x8] w fun t92x14 w =>
 kLd P 28 t13 t93 w <|
 kLd P 23 t22 t94 w <|
 Bt P .append #[28, 28] 28 #[t93, t95x11] w fun t96x14 w =>
 Sto P 28 t13 t96x14 w fun w =>
 Bn P .add 3 true t45 (.int .i64 1) w fun t97x14 w =>
 k1 t84 t88x10 t92x14 t97x14 w)))))))
 (Cl P 52 #[t12, (.func (.func 53) #[] #[t13])] w (Pk R) fun t100 w =>
 Sc P 27 t12 none (some t10) none w fun t103 w =>
 Bt P .len #[27] 3 #[t103] w fun t104 w =>
 Lp1 (.int .i64 0) w (fun t105 w k2 =>
 Bn P .lss 3 false t105 t104 w fun t106 w =>
 If t106
 (Ia P 27 t103 t105 w fun t107 w =>
 Ld P 3 t107 w fun t108 w =>
 Ia P 27 t11 t108 w fun t111 w =>
 Ld P 3 t111 w fun t112 w =>
 Bn P .add 3 true t112 (.int .i64 1) w fun t113 w =>
 Ia P 27 t11 t108 w fun t114 w =>
 Sto P 3 t114 t113 w fun w =>
 Bn P .add 3 true t105 (.int .i64 1) w fun t115 w =>
 k2 t115 w)
 (R (.returned (.tuple #[t11, (.int .i64 0)])) w)))))
theorem e_contract_Split (h : s_contract_Split Tryz.prog t0 t1 w R) : Calls Tryz.prog 24 #[t0, t1] w R :=
 en1 (.sq .z (.sq .z (.sq (.sq .z (.cd (.sq .z .z) .z)) (.sq .z (.sq .z (.sq .z (.sq .z (.sq (.sq .z (.bk (.lp [10, 11, 12, 45] [4, 5, 14, 15, 16, 17, 18, 19, 20, 21, 22, 46, 47, 48, 49, 50, 51, 52, 53, 54, 55, 56, 57, 58, 59, 60, 61, 62, 63, 64, 65, 66, 67, 68, 69, 70, 71, 72, 73, 74, 75, 76, 77, 78, 79, 80, 81, 82, 83, 84, 85, 86, 87, 88, 89, 90, 91, 92, 93, 94, 95, 96, 97] (.sq .z (.sq (.cd .z .z) (.sq (.bk (.sq .z (.sq .z (.sq (.sq .z (.cd (.sq .z .z) .z)) (.sq .z (.sq (.sq .z (.cd (.sq .z .z) .z)) (.sq .z (.sq .z (.sq .z (.sq (.sq .z (.cd (.sq .z .z) .z)) (.sq .z (.dr (.pur true 0 (.pur true 1 (.pur true 4 (.pur true 5 (.pur false 8 (.pur false 9 (.alt (.eff 2 [8, 9] (.alt (.eff 3 [8, 9] (.alt (.eff 6 [8, 9] (.alt (.eff 7 [8, 9] (.eff 10 [8] (.eff 11 [] (.pur true 12 (.pur true 13 (.eff 14 [] .done)))))) (.eff 10 [8] (.eff 7 [8, 9] (.eff 11 [] (.pur true 12 (.pur true 13 (.eff 14 [] .done)))))))) (.eff 10 [8] (.eff 6 [8, 9] (.eff 7 [8, 9] (.eff 11 [] (.pur true 12 (.pur true 13 (.eff 14 [] .done))))))))) (.alt (.eff 6 [8, 9] (.alt (.eff 3 [8, 9] (.alt (.eff 7 [8, 9] (.eff 10 [8] (.eff 11 [] (.pur true 12 (.pur true 13 (.eff 14 [] .done)))))) (.eff 10 [8] (.eff 7 [8, 9] (.eff 11 [] (.pur true 12 (.pur true 13 (.eff 14 [] .done)))))))) (.eff 10 [8] (.eff 3 [8, 9] (.eff 7 [8, 9] (.eff 11 [] (.pur true 12 (.pur true 13 (.eff 14 [] .done))))))))) (.eff 10 [8] (.alt (.eff 3 [8, 9] (.eff 6 [8, 9] (.eff 7 [8, 9] (.eff 11 [] (.pur true 12 (.pur true 13 (.eff 14 [] .done))))))) (.eff 6 [8, 9] (.eff 3 [8, 9] (.eff 7 [8, 9] (.eff 11 [] (.pur true 12 (.pur true 13 (.eff 14 [] .done)))))))))))) (.alt (.eff 6 [8, 9] (.alt (.eff 2 [8, 9] (.alt (.eff 3 [8, 9] (.alt (.eff 7 [8, 9] (.eff 10 [8] (.eff 11 [] (.pur true 12 (.pur true 13 (.eff 14 [] .done)))))) (.eff 10 [8] (.eff 7 [8, 9] (.eff 11 [] (.pur true 12 (.pur true 13 (.eff 14 [] .done)))))))) (.eff 10 [8] (.eff 3 [8, 9] (.eff 7 [8, 9] (.eff 11 [] (.pur true 12 (.pur true 13 (.eff 14 [] .done))))))))) (.eff 10 [8] (.eff 2 [8, 9] (.eff 3 [8, 9] (.eff 7 [8, 9] (.eff 11 [] (.pur true 12 (.pur true 13 (.eff 14 [] .done)))))))))) (.eff 10 [8] (.alt (.eff 2 [8, 9] (.alt (.eff 3 [8, 9] (.eff 6 [8, 9] (.eff 7 [8, 9] (.eff 11 [] (.pur true 12 (.pur true 13 (.eff 14 [] .done))))))) (.eff 6 [8, 9] (.eff 3 [8, 9] (.eff 7 [8, 9] (.eff 11 [] (.pur true 12 (.pur true 13 (.eff 14 [] .done))))))))) (.eff 6 [8, 9] (.eff 2 [8, 9] (.eff 3 [8, 9] (.eff 7 [8, 9] (.eff 11 [] (.pur true 12 (.pur true 13 (.eff 14 [] .done)))))))))))))))))))))))))))))) .z)))))) (.sq .z (.sq (.sq .z (.bk (.lp [105] [24, 106, 107, 108, 109, 110, 111, 112, 113, 114, 115] (.sq .z (.sq (.cd .z .z) (.sq (.bk (.sq .z .z)) .z)))))) (.sq .z .z))))))))))) [t0, t1] Tryz.func24 (by kernel_rfl) (by kernel_rfl) h
theorem n_contract_Split : Enters Tryz.prog 24 := enters_of Tryz.func24 (by kernel_rfl) rfl
def s_ref26_Split (P : Program) (t0 t1 : Value) (w : World) (R : Ending → World → Prop) : Prop :=
 Cl P 54 #[t1] w (Pk R) fun t25 w =>
 Ex t25 0 w fun t26 w =>
 Ex t25 1 w fun t27 w =>
 Al P 23 w fun t6 w =>
 Sto P 23 t6 t26 w fun w =>
 Un P .not t27 w fun t29 w =>
 Gd t29 false (fun k => k t0 w) w fun t31 w =>
 Gd t29 false (fun k => Cl P 41 #[t31, (.int .i64 0), (.int .i64 1000000000)] w (Pk R) k) w fun t32 w =>
 Gd t29 false (fun k => Un P .not t32 w k) w fun t33 w =>
 Pick t29 (.bool true) t33 w fun t34 w =>
 If t34
 (R (.returned (.tuple #[(.slice none 0 0), (.int .i64 260)])) w)
 (Lp5 (.slice none 0 0) (.slice none 0 0) (.slice none 0 0) t0 (.int .i64 0) w (fun t8 t9 t10 t11 t12 w k1 =>
 Bt P .len #[28] 3 #[t1] w fun t38 w =>
 Bn P .lss 3 false t12 t38 w fun t39 w =>
 If t39
 (Jn2 (fun k2 =>
 dIx P 28 t1 t12 w.drew fun t47 =>
 dL P 23 t47 w.drew fun t48 =>
 (Cl P 37 #[t0] w.drew (Pk R) fun t44 w =>
 kLd P 23 t47 t48 w <|
 (Cl P 42 #[t44, t48] w (Pk R) fun t49 w =>
 ExP t49 0 fun t50 =>
 ExP t49 1 fun t51 =>
 Al P 23 w fun t13 w =>
 kLd P 23 t47 t48 w <|
 Sto P 23 t13 t50 w fun w =>
 k2 t13 t51 w) ∧
 (Al P 23 w fun t13x1 w =>
 kLd P 23 t47 t48 w <|
 Cl P 42 #[t44, t48] w (Pk R) fun t49x1 w =>
 ExP t49x1 0 fun t50x1 =>
 ExP t49x1 1 fun t51x1 =>
 Sto P 23 t13x1 t50x1 w fun w =>
 k2 t13x1 t51x1 w)) ∧
 (Al P 23 w.drew fun t13x2 w =>
 kLd P 23 t47 t48 w <|
 Cl P 37 #[t0] w (Pk R) fun t44x1 w =>
 kLd P 23 t47 t48 w <|
 Cl P 42 #[t44x1, t48] w (Pk R) fun t49x2 w =>
 ExP t49x2 0 fun t50x2 =>
 ExP t49x2 1 fun t51x2 =>
 Sto P 23 t13x2 t50x2 w fun w =>
 k2 t13x2 t51x2 w))
 (fun t13x3 t14 w =>
 Bn P .neq 39 true t14 (.int .i64 0) w fun t53 w =>
 If t53
 (R (.returned (.tuple #[(.slice none 0 0), (.int .i64 260)])) w)
 (Ld P 23 t13x3 w fun t55 w =>
 Ld P 23 t6 w fun t56 w =>
 Cl P 55 #[t55, t56] w (Pk R) fun t57 w =>
 Ex t57 0 w fun t58 w =>
 Ex t57 1 w fun t59 w =>
 Al P 23 w fun t15 w =>
 Sto P 23 t15 t58 w fun w =>
 Bn P .neq 39 true t59 (.int .i64 0) w fun t61 w =>
 If t61
 (R (.returned (.tuple #[(.slice none 0 0), (.int .i64 260)])) w)
 (Ld P 23 t15 w fun t62 w =>
 Cl P 43 #[t62, t0] w (Pk R) fun t64 w =>
 Jn2 (fun k3 =>
 dL P 23 t15 w.drew fun t66 =>
 (Cl P 37 #[t64] w.drew (Pk R) fun t68 w =>
 kLd P 23 t15 t66 w <|
 (Cl P 56 #[t66, t68] w (Pk R) fun t69 w =>
 ExP t69 0 fun t70 =>
 ExP t69 1 fun t71 =>
 Al P 23 w fun t18 w =>
 kLd P 23 t15 t66 w <|
 Sto P 23 t18 t70 w fun w =>
 k3 t18 t71 w) ∧
 (Al P 23 w fun t18x1 w =>
 kLd P 23 t15 t66 w <|
 Cl P 56 #[t66, t68] w (Pk R) fun t69x1 w =>
 ExP t69x1 0 fun t70x1 =>
 ExP t69x1 1 fun t71x1 =>
 Sto P 23 t18x1 t70x1 w fun w =>
 k3 t18x1 t71x1 w)) ∧
 (Al P 23 w.drew fun t18x2 w =>
 kLd P 23 t15 t66 w <|
 Cl P 37 #[t64] w (Pk R) fun t68x1 w =>
 kLd P 23 t15 t66 w <|
 Cl P 56 #[t66, t68x1] w (Pk R) fun t69x2 w =>
 ExP t69x2 0 fun t70x2 =>
 ExP t69x2 1 fun t71x2 =>
 Sto P 23 t18x2 t70x2 w fun w =>
 k3 t18x2 t71x2 w))
 (fun t18x3 t19 w =>
 Bn P .neq 39 true t19 (.int .i64 0) w fun t73 w =>
 If t73
 (R (.returned (.tuple #[(.slice none 0 0), (.int .i64 260)])) w)
 (Bn P .sub 3 false t11 t64 w fun t76 w =>
 Bs P 27 1 [(0, t64)] w fun t79 w =>
 Bt P .append #[27, 27] 27 #[t8, t79] w fun t80 w =>
 Ld P 23 t18x3 w fun t82 w =>
 Bs P 28 1 [(0, t82)] w fun t83 w =>
 Bt P .append #[28, 28] 28 #[t9, t83] w fun t84 w =>
 Bs P 84 1 [(0, (.bool false))] w fun t86 w =>
 Bt P .append #[84, 84] 84 #[t10, t86] w fun t87 w =>
 Bn P .add 3 true t12 (.int .i64 1) w fun t41 w =>
 k1 t80 t84 t87 t76 t41 w))))))
 (Lp1 t11 w (fun t11x1 w k4 =>
 Bn P .gtr 3 true t11x1 (.int .i64 0) w fun t89 w =>
 If t89
 (Lp2 (.int .i64 (-1)) (.int .i64 0) w (fun t20 t21 w k5 =>
 Bt P .len #[27] 3 #[t8] w fun t94 w =>
 Bn P .lss 3 false t21 t94 w fun t95 w =>
 If t95
 (Ia P 84 t10 t21 w fun t100 w =>
 Ld P 4 t100 w fun t101 w =>
 If t101
 (Bn P .add 3 true t21 (.int .i64 1) w fun t97 w =>
 k5 t20 t97 w)
 (Bn P .lss 3 true t20 (.int .i64 0) w fun t103 w =>
 If t103
 (Bn P .add 3 true t21 (.int .i64 1) w fun t97x1 w =>
 k5 t21 t97x1 w)
 (dIx P 28 t9 t21 w.drew fun t107 =>
 dL P 23 t107 w.drew fun t108 =>
 dIx P 28 t9 t20 w.drew fun t111 =>
 dL P 23 t111 w.drew fun t112 =>
 Cl P 57 #[t108, t112] w.drew (Pk R) fun t113 w =>
 Bn P .gtr 3 true t113 (.int .i64 0) w fun t115 w =>
 If t115
 (Bn P .add 3 true t21 (.int .i64 1) w fun t97x2 w =>
 k5 t21 t97x2 w)
 (Bn P .add 3 true t21 (.int .i64 1) w fun t97x3 w =>
 k5 t20 t97x3 w))))
 (Ia P 27 t8 t20 w fun t119 w =>
 Ld P 3 t119 w fun t120 w =>
 Bn P .add 3 true t120 (.int .i64 1) w fun t121 w =>
 Ia P 27 t8 t20 w fun t122 w =>
 Sto P 3 t122 t121 w fun w =>
 Ia P 84 t10 t20 w fun t125 w =>
 Sto P 4 t125 (.bool true) w fun w =>
 Bn P .sub 3 true t11x1 (.int .i64 1) w fun t91 w =>
 k4 t91 w)))
 (R (.returned (.tuple #[t8, (.int .i64 0)])) w)))))
theorem e_ref26_Split (h : s_ref26_Split Tryz.prog t0 t1 w R) : Calls Tryz.prog 25 #[t0, t1] w R :=
 en1 (.sq .z (.sq .z (.sq (.sq .z (.cd (.sq .z .z) .z)) (.sq .z (.sq .z (.sq .z (.sq .z (.sq (.sq .z (.bk (.lp [8, 9, 10, 11, 12] [4, 5, 13, 14, 15, 16, 17, 18, 19, 36, 37, 38, 39, 40, 41, 42, 43, 44, 45, 46, 47, 48, 49, 50, 51, 52, 53, 54, 55, 56, 57, 58, 59, 60, 61, 62, 63, 64, 65, 66, 67, 68, 69, 70, 71, 72, 73, 74, 75, 76, 77, 78, 79, 80, 81, 82, 83, 84, 85, 86, 87] (.sq (.sq .z (.cd .z .z)) (.sq (.bk (.jn [13, 14] [42, 43, 44, 45, 46, 47, 48, 49, 50, 51] (.dr (.pur true 0 (.pur true 2 (.pur true 3 (.pur true 4 (.pur false 5 (.alt (.eff 1 [5] (.alt (.eff 6 [] (.pur true 7 (.pur true 8 (.pur true 9 (.eff 10 [5] (.eff 11 [] (.pur true 12 .done))))))) (.eff 10 [5] (.eff 6 [] (.pur true 7 (.pur true 8 (.pur true 9 (.eff 11 [] (.pur true 12 .done))))))))) (.eff 10 [5] (.eff 1 [5] (.eff 6 [] (.pur true 7 (.pur true 8 (.pur true 9 (.eff 11 [] (.pur true 12 .done))))))))))))))) (.sq (.sq .z (.cd (.sq .z .z) .z)) (.sq .z (.sq (.sq .z (.cd (.sq .z .z) .z)) (.sq .z (.jn [18, 19] [65, 66, 67, 68, 69, 70, 71] (.dr (.pur false 0 (.pur true 1 (.alt (.eff 2 [0] (.alt (.eff 3 [] (.pur true 4 (.pur true 5 (.pur true 6 (.eff 7 [0] (.eff 8 [] (.pur true 9 .done))))))) (.eff 7 [0] (.eff 3 [] (.pur true 4 (.pur true 5 (.pur true 6 (.eff 8 [] (.pur true 9 .done))))))))) (.eff 7 [0] (.eff 2 [0] (.eff 3 [] (.pur true 4 (.pur true 5 (.pur true 6 (.eff 8 [] (.pur true 9 .done)))))))))))) (.sq (.sq .z (.cd (.sq .z .z) .z)) (.sq .z (.sq .z (.sq .z .z))))))))))) .z))))) (.sq (.bk (.lp [11] [20, 21, 22, 88, 89, 90, 91, 92, 93, 94, 95, 96, 97, 98, 99, 100, 101, 102, 103, 104, 105, 106, 107, 108, 109, 110, 111, 112, 113, 114, 115, 116, 117, 118, 119, 120, 121, 122, 123, 124, 125] (.sq (.sq .z (.cd .z .z)) (.sq (.bk (.sq .z (.sq (.sq .z (.bk (.lp [20, 21] [22, 92, 93, 94, 95, 96, 97, 98, 99, 100, 101, 102, 103, 104, 105, 106, 107, 108, 109, 110, 111, 112, 113, 114, 115, 116] (.sq (.sq .z (.cd .z .z)) (.sq (.bk (.sq (.sq .z (.cd .z .z)) (.sq (.sq .z (.cd (.sq .z .z) .z)) (.sq (.dr (.pur true 0 (.pur true 1 (.pur true 2 (.pur false 3 (.pur true 4 (.pur true 5 (.pur true 6 (.pur false 7 (.eff 8 [] (.pur true 9 .done))))))))))) (.sq .z (.cd .z .z)))))) .z))))) (.sq .z .z)))) .z)))) (.sq .z .z)))))))))) [t0, t1] Tryz.func25 (by kernel_rfl) (by kernel_rfl) h
theorem n_ref26_Split : Enters Tryz.prog 25 := enters_of Tryz.func25 (by kernel_rfl) rfl
def s_rational_Mul (P : Program) (t0 t1 : Value) (w : World) (R : Ending → World → Prop) : Prop :=
 Bx P 23 t0 w fun t2 w =>
 Bx P 23 t1 w fun t3 w =>
 Al P 23 w fun t4 w =>
 Bd P 88 [] w fun t8 w =>
 Bx P 88 t8 w fun t9 w =>
 Ld P 23 t2 w fun t11 w =>
 Ld P 23 t3 w fun t12 w =>
 Bs P 28 2 [(0, t11), (1, t12)] w fun t13 w =>
 Cl P 59 #[t9, t13] w (Pk R) fun t14 w =>
 Fa P 23 t2 0 w fun t16 w =>
 Ld P 9 t16 w fun t17 w =>
 Fa P 23 t3 0 w fun t18 w =>
 Ld P 9 t18 w fun t19 w =>
 Cl P 60 #[t9, t17, t19] w (Pk R) fun t20 w =>
 Fa P 23 t2 1 w fun t24 w =>
 Ld P 9 t24 w fun t25 w =>
 Fa P 23 t3 1 w fun t26 w =>
 Ld P 9 t26 w fun t27 w =>
 Cl P 60 #[t9, t25, t27] w (Pk R) fun t28 w =>
 Cl P 61 #[t9, t20, t28] w (Pk R) fun t29 w =>
 Ex t29 0 w fun t30 w =>
 Ex t29 1 w fun t31 w =>
 Sto P 23 t4 t30 w fun w =>
 Rc P 23 t4 w fun r0 =>
 R (.returned (.tuple #[r0, t31])) w
theorem e_rational_Mul (h : s_rational_Mul Tryz.prog t0 t1 w R) : Calls Tryz.prog 28 #[t0, t1] w R :=
 en1 (.sq .z (.sq .z (.sq .z (.sq .z (.sq .z .z))))) [t0, t1] Tryz.func28 (by kernel_rfl) (by kernel_rfl) h
theorem n_rational_Mul : Enters Tryz.prog 28 := enters_of Tryz.func28 (by kernel_rfl) rfl
def s_law26_of (P : Program) (t0 t1 : Value) (w : World) (R : Ending → World → Prop) : Prop :=
 Al P 23 w fun t4 w =>
 Cl P 50 #[t0, t1] w (Pk R) fun t10 w =>
 Ex t10 0 w fun t11 w =>
 Ex t10 1 w fun t12 w =>
 Al P 23 w fun t5 w =>
 Sto P 23 t5 t11 w fun w =>
 Bn P .neq 39 true t12 (.int .i64 0) w fun t14 w =>
 If t14
 (Bd P 23 [] w fun t15 w =>
 Sto P 23 t4 t15 w fun w =>
 Rc P 23 t4 w fun r0 =>
 R (.returned r0) w)
 (Ld P 23 t5 w fun t16 w =>
 Sto P 23 t4 t16 w fun w =>
 Rc P 23 t4 w fun r0 =>
 R (.returned r0) w)
theorem e_law26_of (h : s_law26_of Tryz.prog t0 t1 w R) : Calls Tryz.prog 29 #[t0, t1] w R :=
 en1 (.sq .z (.sq .z (.sq (.sq .z (.cd (.sq .z .z) .z)) (.sq .z .z)))) [t0, t1] Tryz.func29 (by kernel_rfl) (by kernel_rfl) h
theorem n_law26_of : Enters Tryz.prog 29 := enters_of Tryz.func29 (by kernel_rfl) rfl
def s_rational_Div (P : Program) (t0 t1 : Value) (w : World) (R : Ending → World → Prop) : Prop :=
 Bx P 23 t0 w fun t2 w =>
 Bx P 23 t1 w fun t3 w =>
 Al P 23 w fun t4 w =>
 Bd P 88 [] w fun t8 w =>
 Bx P 88 t8 w fun t9 w =>
 Ld P 23 t2 w fun t11 w =>
 Ld P 23 t3 w fun t12 w =>
 Bs P 28 2 [(0, t11), (1, t12)] w fun t13 w =>
 Cl P 59 #[t9, t13] w (Pk R) fun t14 w =>
 Fa P 23 t2 0 w fun t16 w =>
 Ld P 9 t16 w fun t17 w =>
 Fa P 23 t3 1 w fun t18 w =>
 Ld P 9 t18 w fun t19 w =>
 Cl P 60 #[t9, t17, t19] w (Pk R) fun t20 w =>
 Fa P 23 t2 1 w fun t24 w =>
 Ld P 9 t24 w fun t25 w =>
 Fa P 23 t3 0 w fun t26 w =>
 Ld P 9 t26 w fun t27 w =>
 Cl P 60 #[t9, t25, t27] w (Pk R) fun t28 w =>
 Cl P 61 #[t9, t20, t28] w (Pk R) fun t29 w =>
 Ex t29 0 w fun t30 w =>
 Ex t29 1 w fun t31 w =>
 Sto P 23 t4 t30 w fun w =>
 Rc P 23 t4 w fun r0 =>
 R (.returned (.tuple #[r0, t31])) w
theorem e_rational_Div (h : s_rational_Div Tryz.prog t0 t1 w R) : Calls Tryz.prog 30 #[t0, t1] w R :=
 en1 (.sq .z (.sq .z (.sq .z (.sq .z (.sq .z .z))))) [t0, t1] Tryz.func30 (by kernel_rfl) (by kernel_rfl) h
theorem n_rational_Div : Enters Tryz.prog 30 := enters_of Tryz.func30 (by kernel_rfl) rfl
def s_rational_Sub (P : Program) (t0 t1 : Value) (w : World) (R : Ending → World → Prop) : Prop :=
 Bx P 23 t0 w fun t2 w =>
 Bx P 23 t1 w fun t3 w =>
 Al P 23 w fun t4 w =>
 Ld P 23 t2 w fun t6 w =>
 Ld P 23 t3 w fun t7 w =>
 Cl P 62 #[(.func (.func 63) #[] #[]), t6, t7] w (Pk R) fun t8 w =>
 Ex t8 0 w fun t9 w =>
 Ex t8 1 w fun t10 w =>
 Sto P 23 t4 t9 w fun w =>
 Rc P 23 t4 w fun r0 =>
 R (.returned (.tuple #[r0, t10])) w
theorem e_rational_Sub (h : s_rational_Sub Tryz.prog t0 t1 w R) : Calls Tryz.prog 31 #[t0, t1] w R :=
 en1 (.sq .z (.sq .z .z)) [t0, t1] Tryz.func31 (by kernel_rfl) (by kernel_rfl) h
theorem n_rational_Sub : Enters Tryz.prog 31 := enters_of Tryz.func31 (by kernel_rfl) rfl
def s_rational_Compare (P : Program) (t0 t1 : Value) (w : World) (R : Ending → World → Prop) : Prop :=
 Bx P 23 t0 w fun t2 w =>
 Bx P 23 t1 w fun t3 w =>
 Ld P 23 t2 w fun t13 w =>
 Cl P 64 #[t13] w (Pk R) fun t14 w =>
 Un P .not t14 w fun t15 w =>
 Gd t15 false (fun k => Ld P 23 t3 w k) w fun t17 w =>
 Gd t15 false (fun k => Cl P 64 #[t17] w (Pk R) k) w fun t18 w =>
 Gd t15 false (fun k => Un P .not t18 w k) w fun t19 w =>
 Pick t15 (.bool true) t19 w fun t20 w =>
 If t20
 (R (.returned (.int .i64 0)) w)
 (Lp1 (.int .i64 1) w (fun t5 w k1 =>
 Fa P 23 t2 0 w fun t22 w =>
 Ld P 9 t22 w fun t23 w =>
 Fa P 23 t2 1 w fun t24 w =>
 Ld P 9 t24 w fun t25 w =>
 Cl P 65 #[t23, t25] w (Pk R) fun t26 w =>
 Ex t26 0 w fun t27 w =>
 Ex t26 1 w fun t28 w =>
 Ex t26 2 w fun t29 w =>
 Fa P 23 t3 0 w fun t31 w =>
 Ld P 9 t31 w fun t32 w =>
 Fa P 23 t3 1 w fun t33 w =>
 Ld P 9 t33 w fun t34 w =>
 Cl P 65 #[t32, t34] w (Pk R) fun t35 w =>
 Ex t35 0 w fun t36 w =>
 Ex t35 1 w fun t37 w =>
 Ex t35 2 w fun t38 w =>
 Cl P 66 #[t27, t36] w (Pk R) fun t41 w =>
 Bn P .neq 3 true t41 (.int .i64 0) w fun t44 w =>
 If t44
 (Bn P .mul 3 false t5 t41 w fun t47 w =>
 R (.returned t47) w)
 (Bn P .eql 9 true t28 (str [48]) w fun t50 w =>
 Gd t50 true (fun k => k t37 w) w fun t52 w =>
 Gd t50 true (fun k => Bn P .eql 9 true t52 (str [48]) w k) w fun t53 w =>
 Pick t50 t53 (.bool false) w fun t54 w =>
 If t54
 (R (.returned (.int .i64 0)) w)
 (Bn P .eql 9 true t28 (str [48]) w fun t57 w =>
 If t57
 (Un P .neg t5 w fun t59 w =>
 R (.returned t59) w)
 (Bn P .eql 9 true t37 (str [48]) w fun t62 w =>
 If t62
 (R (.returned t5) w)
 (dFl P 23 t2 1 w.drew fun t64 =>
 dL P 9 t64 w.drew fun t65 =>
 Dv P true (Instr.build 23 #[(0, t65), (1, t28)]) w.drew fun t67 =>
 dFl P 23 t3 1 w.drew fun t68 =>
 dL P 9 t68 w.drew fun t69 =>
 Dv P true (Instr.build 23 #[(0, t69), (1, t37)]) w.drew fun t71 =>
 Dv P true (Op.unary .neg t5) w.drew fun t73 =>
 Sto P 23 t2 t67 w.drew fun w =>
 kLd P 9 t68 t69 w <|
 Sto P 23 t3 t71 w fun w =>
 k1 t73 w))))))
theorem e_rational_Compare (h : s_rational_Compare Tryz.prog t0 t1 w R) : Calls Tryz.prog 32 #[t0, t1] w R :=
 en1 (.sq .z (.sc [5] [4, 6, 7, 8, 9, 10, 11, 12, 21, 22, 23, 24, 25, 26, 27, 28, 29, 30, 31, 32, 33, 34, 35, 36, 37, 38, 39, 40, 41, 42, 43, 44, 45, 46, 47, 48, 49, 50, 51, 52, 53, 54, 55, 56, 57, 58, 59, 60, 61, 62, 63, 64, 65, 66, 67, 68, 69, 70, 71, 72, 73] (.sq .z (.cd (.sq .z .z) .z)) .z (.sq .z (.sq .z (.sq (.sq .z (.bk (.sq .z (.cd (.sq .z .z) (.sq .z (.cd (.sq .z .z) (.sq .z (.cd (.sq .z .z) (.sq .z (.cd (.sq .z .z) .z)))))))))) (.sq (.dr (.pur true 0 (.pur false 1 (.pur true 2 (.pur true 3 (.pur true 4 (.pur false 5 (.pur true 6 (.pur true 7 (.pur true 8 (.pur true 9 (.eff 10 [5] (.eff 11 [] (.pur true 12 .done)))))))))))))) .z)))))) [t0, t1] Tryz.func32 (by kernel_rfl) (by kernel_rfl) h
theorem n_rational_Compare : Enters Tryz.prog 32 := enters_of Tryz.func32 (by kernel_rfl) rfl
def s_ref26_pick (P : Program) (t0 t1 : Value) (w : World) (R : Ending → World → Prop) : Prop :=
 Bn P .lss 3 true t0 (.int .i64 0) w fun t6 w =>
 If t6
 (Bn P .add 3 true t0 (.int .i64 1) w fun t8 w =>
 Un P .neg t8 w fun t9 w =>
 Bn P .rem 3 false t9 t1 w fun t12 w =>
 R (.returned t12) w)
 (Bn P .rem 3 false t0 t1 w fun t12x1 w =>
 R (.returned t12x1) w)
theorem e_ref26_pick (h : s_ref26_pick Tryz.prog t0 t1 w R) : Calls Tryz.prog 35 #[t0, t1] w R :=
 en1 (.sq .z (.sq (.sq .z (.cd .z .z)) (.sq .z .z))) [t0, t1] Tryz.func35 (by kernel_rfl) (by kernel_rfl) h
theorem n_ref26_pick : Enters Tryz.prog 35 := enters_of Tryz.func35 (by kernel_rfl) rfl
def s_ref26_Small (P : Program) (t0 t1 : Value) (w : World) (R : Ending → World → Prop) : Prop :=
 Al P 23 w fun t4 w =>
 Cl P 35 #[t0, (.int .i64 10)] w (Pk R) fun t9 w =>
 Cl P 35 #[t1, (.int .i64 9)] w (Pk R) fun t11 w =>
 Bn P .add 3 true (.int .i64 1) t11 w fun t12 w =>
 Cl P 67 #[t9, t12] w (Pk R) fun t13 w =>
 Ex t13 0 w fun t14 w =>
 Ex t13 1 w fun t15 w =>
 Al P 23 w fun t5 w =>
 Sto P 23 t5 t14 w fun w =>
 Bn P .neq 39 true t15 (.int .i64 0) w fun t17 w =>
 If t17
 (Cl P 37 #[(.int .i64 0)] w (Pk R) fun t18 w =>
 Sto P 23 t4 t18 w fun w =>
 Rc P 23 t4 w fun r0 =>
 R (.returned r0) w)
 (Ld P 23 t5 w fun t19 w =>
 Sto P 23 t4 t19 w fun w =>
 Rc P 23 t4 w fun r0 =>
 R (.returned r0) w)
theorem e_ref26_Small (h : s_ref26_Small Tryz.prog t0 t1 w R) : Calls Tryz.prog 36 #[t0, t1] w R :=
 en1 (.sq .z (.sq .z (.sq (.sq .z (.cd (.sq .z .z) .z)) (.sq .z .z)))) [t0, t1] Tryz.func36 (by kernel_rfl) (by kernel_rfl) h
theorem n_ref26_Small : Enters Tryz.prog 36 := enters_of Tryz.func36 (by kernel_rfl) rfl
def s_ref26_Of (P : Program) (t0 : Value) (w : World) (R : Ending → World → Prop) : Prop :=
 Al P 23 w fun t2 w =>
 Cl P 68 #[t0] w (Pk R) fun t4 w =>
 Bd P 23 [(0, t4), (1, (str [49]))] w fun t5 w =>
 Sto P 23 t2 t5 w fun w =>
 Rc P 23 t2 w fun r0 =>
 R (.returned r0) w
theorem e_ref26_Of (h : s_ref26_Of Tryz.prog t0 w R) : Calls Tryz.prog 37 #[t0] w R :=
 en1 (.sq .z (.sq .z .z)) [t0] Tryz.func37 (by kernel_rfl) (by kernel_rfl) h
theorem n_ref26_Of : Enters Tryz.prog 37 := enters_of Tryz.func37 (by kernel_rfl) rfl
def s_contract_month (P : Program) (t0 : Value) (w : World) (R : Ending → World → Prop) : Prop :=
 Bt P .len #[27] 3 #[t0] w fun t4 w =>
 Bn P .leq 3 true t4 (.int .i64 100) w fun t5 w =>
 Gd t5 true (fun k => k t0 w) w fun t7 w =>
 Gd t5 true (fun k => Cl P 69 #[t7, (.func (.func 70) #[] #[])] w (Pk R) k) w fun t8 w =>
 Gd t5 true (fun k => Un P .not t8 w k) w fun t9 w =>
 Pick t5 t9 (.bool false) w fun t10 w =>
 R (.returned t10) w
theorem e_contract_month (h : s_contract_month Tryz.prog t0 w R) : Calls Tryz.prog 38 #[t0] w R :=
 en1 (.sq .z (.sq .z .z)) [t0] Tryz.func38 (by kernel_rfl) (by kernel_rfl) h
theorem n_contract_month : Enters Tryz.prog 38 := enters_of Tryz.func38 (by kernel_rfl) rfl
def s_contract_each_int_int (P : Program) (t0 t1 : Value) (w : World) (R : Ending → World → Prop) : Prop :=
 Bt P .len #[27] 3 #[t0] w fun t9 w =>
 Lp2 (.slice none 0 0) (.int .i64 0) w (fun t5 t10 w k1 =>
 Bn P .lss 3 false t10 t9 w fun t11 w =>
 If t11
 (Ia P 27 t0 t10 w fun t12 w =>
 Ld P 3 t12 w fun t13 w =>
 Cw P t1 #[t13] w (Pk R) fun t17 w =>
 Bs P 27 1 [(0, t17)] w fun t18 w =>
 Bt P .append #[27, 27] 27 #[t5, t18] w fun t19 w =>
 Bn P .add 3 true t10 (.int .i64 1) w fun t20 w =>
 k1 t19 t20 w)
 (R (.returned t5) w))
theorem e_contract_each_int_int (h : s_contract_each_int_int Tryz.prog t0 t1 w R) : Calls Tryz.prog 39 #[t0, t1] w R :=
 en1 (.sq .z (.sq .z (.sq (.sq .z (.bk (.lp [5, 10] [7, 11, 12, 13, 14, 15, 16, 17, 18, 19, 20] (.sq .z (.sq (.cd .z .z) (.sq (.bk (.sq .z .z)) .z)))))) (.sq .z .z)))) [t0, t1] Tryz.func39 (by kernel_rfl) (by kernel_rfl) h
theorem n_contract_each_int_int : Enters Tryz.prog 39 := enters_of Tryz.func39 (by kernel_rfl) rfl
def s_contract_meter_next (P : Program) (t0 t1 : Value) (w : World) (R : Ending → World → Prop) : Prop :=
 Bn P .eql 3 true t1 (.int .i64 0) w fun t11 w =>
 If t11
 (R (.returned (.int .i64 0)) w)
 (Nc t0 w fun t13 w =>
 Fa P 74 t13 1 w fun t14 w =>
 Ld P 3 t14 w fun t15 w =>
 Bn P .gtr 3 true t15 (.int .i64 0) w fun t16 w =>
 If t16
 (Nc t0 w fun t18 w =>
 Fa P 74 t18 1 w fun t19 w =>
 Ld P 3 t19 w fun t20 w =>
 Bn P .sub 3 true t20 (.int .i64 1) w fun t21 w =>
 Nc t0 w fun t22 w =>
 Fa P 74 t22 1 w fun t23 w =>
 Sto P 3 t23 t21 w fun w =>
 R (.returned (.int .i64 0)) w)
 (Cl P 50 #[t1, (.int .i64 1)] w (Pk R) fun t26 w =>
 Ex t26 0 w fun t27 w =>
 Ex t26 1 w fun t28 w =>
 Al P 23 w fun t5 w =>
 Sto P 23 t5 t27 w fun w =>
 Jn1 (fun k1 =>
 NcP t0 fun t31 =>
 dFl P 74 t31 0 w.drew fun t32 =>
 dL P 23 t32 w.drew fun t33 =>
 dL P 23 t5 w.drew fun t34 =>
 (Cl P 28 #[t33, t34] w.drew (Pk R) fun t35 w =>
 ExP t35 0 fun t36 =>
 ExP t35 1 fun t37 =>
 Al P 23 w fun t7 w =>
 kLd P 23 t32 t33 w <|
 kLd P 23 t5 t34 w <|
 Sto P 23 t7 t36 w fun w =>
 k1 t7 w) ∧
 (Al P 23 w.drew fun t7x1 w =>
 kLd P 23 t32 t33 w <|
 kLd P 23 t5 t34 w <|
 Cl P 28 #[t33, t34] w (Pk R) fun t35x1 w =>
 ExP t35x1 0 fun t36x1 =>
 ExP t35x1 1 fun t37x1 =>
 Sto P 23 t7x1 t36x1 w fun w =>
 k1 t7x1 w))
 (fun t7x2 w =>
 dL P 23 t7x2 w.drew fun t38 =>
 NcP t0 fun t40 =>
 dFl P 74 t40 2 w.drew fun t41 =>
 dL P 3 t41 w.drew fun t42 =>
 Cl P 51 #[t38, t42] w.drew (Pk R) fun t43 w =>
 Nc t0 w fun t45 w =>
 Fa P 74 t45 2 w fun t46 w =>
 Ld P 3 t46 w fun t47 w =>
 Bn P .sub 3 false t47 t43 w fun t49 w =>
 Nc t0 w fun t50 w =>
 Fa P 74 t50 2 w fun t51 w =>
 Sto P 3 t51 t49 w fun w =>
 R (.returned t43) w)))
theorem e_contract_meter_next (h : s_contract_meter_next Tryz.prog t0 t1 w R) : Calls Tryz.prog 40 #[t0, t1] w R :=
 en1 (.sq .z (.sq (.sq .z (.cd (.sq .z .z) .z)) (.sq (.sq .z (.cd (.sq .z (.sq .z .z)) .z)) (.sq .z (.jn [7] [8, 29, 30, 31, 32, 33, 34, 35, 36, 37] (.dr (.pur true 0 (.pur true 1 (.pur true 2 (.pur false 3 (.pur false 4 (.alt (.eff 5 [] (.pur true 6 (.pur true 7 (.pur true 8 (.eff 9 [3, 4] (.eff 10 [] (.pur true 11 .done))))))) (.eff 9 [3, 4] (.eff 5 [] (.pur true 6 (.pur true 7 (.pur true 8 (.eff 10 [] (.pur true 11 .done)))))))))))))) (.sq (.dr (.pur false 0 (.pur true 1 (.pur true 2 (.pur true 3 (.pur false 4 (.eff 5 [] (.pur true 6 .done)))))))) (.sq .z (.sq .z .z)))))))) [t0, t1] Tryz.func40 (by kernel_rfl) (by kernel_rfl) h
theorem n_contract_meter_next : Enters Tryz.prog 40 := enters_of Tryz.func40 (by kernel_rfl) rfl
def s_ref26_in (P : Program) (t0 t1 t2 : Value) (w : World) (R : Ending → World → Prop) : Prop :=
 Bn P .geq 3 false t0 t1 w fun t9 w =>
 Gd t9 true (fun k => k t0 w) w fun t11 w =>
 Gd t9 true (fun k => k t2 w) w fun t12 w =>
 Gd t9 true (fun k => Bn P .leq 3 false t11 t12 w k) w fun t13 w =>
 Pick t9 t13 (.bool false) w fun t14 w =>
 R (.returned t14) w
theorem e_ref26_in (h : s_ref26_in Tryz.prog t0 t1 t2 w R) : Calls Tryz.prog 41 #[t0, t1, t2] w R :=
 en1 (.sq .z (.sq .z .z)) [t0, t1, t2] Tryz.func41 (by kernel_rfl) (by kernel_rfl) h
theorem n_ref26_in : Enters Tryz.prog 41 := enters_of Tryz.func41 (by kernel_rfl) rfl
def s_ref04_Mul (P : Program) (t0 t1 : Value) (w : World) (R : Ending → World → Prop) : Prop :=
 Bx P 23 t0 w fun t2 w =>
 Bx P 23 t1 w fun t3 w =>
 Al P 23 w fun t4 w =>
 Ld P 23 t2 w fun t12 w =>
 Cl P 71 #[t12] w (Pk R) fun t13 w =>
 Ld P 23 t3 w fun t14 w =>
 Cl P 71 #[t14] w (Pk R) fun t15 w =>
 Un P .not t13 w fun t17 w =>
 Gd t17 false (fun k => k t15 w) w fun t19 w =>
 Gd t17 false (fun k => Un P .not t19 w k) w fun t20 w =>
 Pick t17 (.bool true) t20 w fun t21 w =>
 If t21
 (Bd P 23 [] w fun t22 w =>
 Sto P 23 t4 t22 w fun w =>
 Rc P 23 t4 w fun r0 =>
 R (.returned (.tuple #[r0, (.int .i64 40)])) w)
 (Fa P 23 t2 0 w fun t24 w =>
 Ld P 9 t24 w fun t25 w =>
 Fa P 23 t3 0 w fun t26 w =>
 Ld P 9 t26 w fun t27 w =>
 Cl P 72 #[t25, t27] w (Pk R) fun t28 w =>
 Ex t28 0 w fun t29 w =>
 Ex t28 1 w fun t30 w =>
 Fa P 23 t2 1 w fun t32 w =>
 Ld P 9 t32 w fun t33 w =>
 Fa P 23 t3 1 w fun t34 w =>
 Ld P 9 t34 w fun t35 w =>
 Cl P 72 #[t33, t35] w (Pk R) fun t36 w =>
 Ex t36 0 w fun t37 w =>
 Ex t36 1 w fun t38 w =>
 Bn P .neq 39 true t30 (.int .i64 0) w fun t40 w =>
 Gd t40 false (fun k => k t38 w) w fun t42 w =>
 Gd t40 false (fun k => Bn P .neq 39 true t42 (.int .i64 0) w k) w fun t43 w =>
 Pick t40 (.bool true) t43 w fun t44 w =>
 If t44
 (Bd P 23 [] w fun t45 w =>
 Sto P 23 t4 t45 w fun w =>
 Rc P 23 t4 w fun r0 =>
 R (.returned (.tuple #[r0, (.int .i64 40)])) w)
 (Cl P 73 #[t29, t37] w (Pk R) fun t48 w =>
 Ex t48 0 w fun t49 w =>
 Ex t48 1 w fun t50 w =>
 Sto P 23 t4 t49 w fun w =>
 Rc P 23 t4 w fun r0 =>
 R (.returned (.tuple #[r0, t50])) w))
theorem e_ref04_Mul (h : s_ref04_Mul Tryz.prog t0 t1 w R) : Calls Tryz.prog 42 #[t0, t1] w R :=
 en1 (.sq .z (.sq .z (.sq .z (.sq (.sq .z (.cd (.sq .z .z) .z)) (.sq .z (.sq .z (.sq (.sq .z (.cd (.sq .z .z) .z)) (.sq .z .z)))))))) [t0, t1] Tryz.func42 (by kernel_rfl) (by kernel_rfl) h
theorem n_ref04_Mul : Enters Tryz.prog 42 := enters_of Tryz.func42 (by kernel_rfl) rfl
def s_ref26_Floor (P : Program) (t0 t1 : Value) (w : World) (R : Ending → World → Prop) : Prop :=
 Bx P 23 t0 w fun t2 w =>
 Bn P .add 3 true t1 (.int .i64 1) w fun t9 w =>
 Lp2 (.int .i64 0) t9 w (fun t5 t6 w k1 =>
 Bn P .sub 3 false t6 t5 w fun t12 w =>
 Bn P .gtr 3 true t12 (.int .i64 1) w fun t13 w =>
 If t13
 (Bn P .sub 3 false t6 t5 w fun t17 w =>
 Bn P .quo 3 true t17 (.int .i64 2) w fun t18 w =>
 Bn P .add 3 false t5 t18 w fun t19 w =>
 dL P 23 t2 w.drew fun t22 =>
 Cl P 37 #[t19] w.drew (Pk R) fun t21 w =>
 kLd P 23 t2 t22 w <|
 Cl P 57 #[t21, t22] w (Pk R) fun t23 w =>
 Dv P true (bn .leq 3 true t23 (.int .i64 0)) w fun t24 =>
 If t24
 (k1 t19 t6 w)
 (k1 t5 t19 w))
 (R (.returned t5) w))
theorem e_ref26_Floor (h : s_ref26_Floor Tryz.prog t0 t1 w R) : Calls Tryz.prog 43 #[t0, t1] w R :=
 en1 (.sq .z (.sq .z (.sq .z (.sq (.bk (.lp [5, 6] [7, 10, 11, 12, 13, 14, 15, 16, 17, 18, 19, 20, 21, 22, 23, 24, 25, 26] (.sq (.sq .z (.cd .z .z)) (.bk (.sq .z (.sq (.dr (.pur true 0 (.pur false 2 (.eff 1 [2] (.eff 3 [] (.pur true 4 .done)))))) (.cd .z .z))))))) (.sq .z .z))))) [t0, t1] Tryz.func43 (by kernel_rfl) (by kernel_rfl) h
theorem n_ref26_Floor : Enters Tryz.prog 43 := enters_of Tryz.func43 (by kernel_rfl) rfl
def s_contract_in (P : Program) (t0 t1 t2 : Value) (w : World) (R : Ending → World → Prop) : Prop :=
 Bn P .geq 3 false t0 t1 w fun t9 w =>
 Gd t9 true (fun k => k t0 w) w fun t11 w =>
 Gd t9 true (fun k => k t2 w) w fun t12 w =>
 Gd t9 true (fun k => Bn P .leq 3 false t11 t12 w k) w fun t13 w =>
 Pick t9 t13 (.bool false) w fun t14 w =>
 R (.returned t14) w
theorem e_contract_in (h : s_contract_in Tryz.prog t0 t1 t2 w R) : Calls Tryz.prog 44 #[t0, t1, t2] w R :=
 en1 (.sq .z (.sq .z .z)) [t0, t1, t2] Tryz.func44 (by kernel_rfl) (by kernel_rfl) h
theorem n_contract_in : Enters Tryz.prog 44 := enters_of Tryz.func44 (by kernel_rfl) rfl
def s_contract_short (P : Program) (t0 t1 : Value) (w : World) (R : Ending → World → Prop) : Prop :=
 Bx P 23 t0 w fun t2 w =>
 Fa P 23 t2 0 w fun t5 w =>
 Ld P 9 t5 w fun t6 w =>
 Bt P .len #[9] 3 #[t6] w fun t7 w =>
 Bn P .leq 3 false t7 t1 w fun t9 w =>
 Gd t9 true (fun k => Fa P 23 t2 1 w k) w fun t11 w =>
 Gd t9 true (fun k => Ld P 9 t11 w k) w fun t12 w =>
 Gd t9 true (fun k => Bt P .len #[9] 3 #[t12] w k) w fun t13 w =>
 Gd t9 true (fun k => k t1 w) w fun t14 w =>
 Gd t9 true (fun k => Bn P .leq 3 false t13 t14 w k) w fun t15 w =>
 Pick t9 t15 (.bool false) w fun t16 w =>
 Gd t16 true (fun k => Ld P 23 t2 w k) w fun t18 w =>
 Gd t16 true (fun k => Cl P 64 #[t18] w (Pk R) k) w fun t19 w =>
 Pick t16 t19 (.bool false) w fun t20 w =>
 Gd t20 true (fun k => Fa P 23 t2 0 w k) w fun t22 w =>
 Gd t20 true (fun k => Ld P 9 t22 w k) w fun t23 w =>
 Gd t20 true (fun k => Cl P 74 #[t23, (str [45])] w (Pk R) k) w fun t24 w =>
 Gd t20 true (fun k => Un P .not t24 w k) w fun t25 w =>
 Pick t20 t25 (.bool false) w fun t26 w =>
 R (.returned t26) w
theorem e_contract_short (h : s_contract_short Tryz.prog t0 t1 w R) : Calls Tryz.prog 45 #[t0, t1] w R :=
 en1 (.sq .z (.sq .z .z)) [t0, t1] Tryz.func45 (by kernel_rfl) (by kernel_rfl) h
theorem n_contract_short : Enters Tryz.prog 45 := enters_of Tryz.func45 (by kernel_rfl) rfl
def s_ref26_short (P : Program) (t0 t1 : Value) (w : World) (R : Ending → World → Prop) : Prop :=
 Bx P 23 t0 w fun t2 w =>
 Fa P 23 t2 0 w fun t5 w =>
 Ld P 9 t5 w fun t6 w =>
 Bt P .len #[9] 3 #[t6] w fun t7 w =>
 Bn P .leq 3 false t7 t1 w fun t9 w =>
 Gd t9 true (fun k => Fa P 23 t2 1 w k) w fun t11 w =>
 Gd t9 true (fun k => Ld P 9 t11 w k) w fun t12 w =>
 Gd t9 true (fun k => Bt P .len #[9] 3 #[t12] w k) w fun t13 w =>
 Gd t9 true (fun k => k t1 w) w fun t14 w =>
 Gd t9 true (fun k => Bn P .leq 3 false t13 t14 w k) w fun t15 w =>
 Pick t9 t15 (.bool false) w fun t16 w =>
 Gd t16 true (fun k => Ld P 23 t2 w k) w fun t18 w =>
 Gd t16 true (fun k => Cl P 71 #[t18] w (Pk R) k) w fun t19 w =>
 Pick t16 t19 (.bool false) w fun t20 w =>
 Gd t20 true (fun k => Fa P 23 t2 0 w k) w fun t22 w =>
 Gd t20 true (fun k => Ld P 9 t22 w k) w fun t23 w =>
 Gd t20 true (fun k => Ix P 9 t23 (.int .i64 0) w k) w fun t24 w =>
 Gd t20 true (fun k => Bn P .neq 5 true t24 (.int .u8 45) w k) w fun t25 w =>
 Pick t20 t25 (.bool false) w fun t26 w =>
 R (.returned t26) w
theorem e_ref26_short (h : s_ref26_short Tryz.prog t0 t1 w R) : Calls Tryz.prog 46 #[t0, t1] w R :=
 en1 (.sq .z (.sq .z .z)) [t0, t1] Tryz.func46 (by kernel_rfl) (by kernel_rfl) h
theorem n_ref26_short : Enters Tryz.prog 46 := enters_of Tryz.func46 (by kernel_rfl) rfl
def s_contract_each_api_Late_int (P : Program) (t0 t1 : Value) (w : World) (R : Ending → World → Prop) : Prop :=
 Bt P .len #[35] 3 #[t0] w fun t9 w =>
 Lp2 (.slice none 0 0) (.int .i64 0) w (fun t5 t10 w k1 =>
 Bn P .lss 3 false t10 t9 w fun t11 w =>
 If t11
 (Ia P 35 t0 t10 w fun t12 w =>
 Ld P 31 t12 w fun t13 w =>
 Al P 31 w fun t7 w =>
 Sto P 31 t7 t13 w fun w =>
 Ld P 31 t7 w fun t16 w =>
 Cw P t1 #[t16] w (Pk R) fun t17 w =>
 Bs P 27 1 [(0, t17)] w fun t18 w =>
 Bt P .append #[27, 27] 27 #[t5, t18] w fun t19 w =>
 Bn P .add 3 true t10 (.int .i64 1) w fun t20 w =>
 k1 t19 t20 w)
 (R (.returned t5) w))
theorem e_contract_each_api_Late_int (h : s_contract_each_api_Late_int Tryz.prog t0 t1 w R) : Calls Tryz.prog 47 #[t0, t1] w R :=
 en1 (.sq .z (.sq .z (.sq (.sq .z (.bk (.lp [5, 10] [7, 11, 12, 13, 14, 15, 16, 17, 18, 19, 20] (.sq .z (.sq (.cd .z .z) (.sq (.bk (.sq .z .z)) .z)))))) (.sq .z .z)))) [t0, t1] Tryz.func47 (by kernel_rfl) (by kernel_rfl) h
theorem n_contract_each_api_Late_int : Enters Tryz.prog 47 := enters_of Tryz.func47 (by kernel_rfl) rfl
def s_contract_Bill_1 (P : Program) (t0 : Value) (w : World) (R : Ending → World → Prop) : Prop :=
 Bx P 31 t0 w fun t1 w =>
 Fa P 31 t1 1 w fun t3 w =>
 Ld P 3 t3 w fun t4 w =>
 R (.returned t4) w
theorem e_contract_Bill_1 (h : s_contract_Bill_1 Tryz.prog t0 w R) : Calls Tryz.prog 48 #[t0] w R :=
 en1 (.sq .z (.sq .z .z)) [t0] Tryz.func48 (by kernel_rfl) (by kernel_rfl) h
theorem n_contract_Bill_1 : Enters Tryz.prog 48 := enters_of Tryz.func48 (by kernel_rfl) rfl
def s_contract_sum (P : Program) (t0 : Value) (w : World) (R : Ending → World → Prop) : Prop :=
 Al P 23 w fun t2 w =>
 Ld P 23 (.pointer (some ⟨0, 0, none⟩)) w fun t9 w =>
 Al P 23 w fun t4 w =>
 Sto P 23 t4 t9 w fun w =>
 Bt P .len #[28] 3 #[t0] w fun t11 w =>
 Lp1 (.int .i64 0) w (fun t12 w k1 =>
 Bn P .lss 3 false t12 t11 w fun t13 w =>
 If t13
 (Ia P 28 t0 t12 w fun t14 w =>
 Ld P 23 t14 w fun t15 w =>
 Al P 23 w fun t6 w =>
 Sto P 23 t6 t15 w fun w =>
 Ld P 23 t4 w fun t17 w =>
 Ld P 23 t6 w fun t18 w =>
 Cl P 58 #[t17, t18] w (Pk R) fun t19 w =>
 Ex t19 0 w fun t20 w =>
 Ex t19 1 w fun t21 w =>
 Al P 23 w fun t7 w =>
 Sto P 23 t7 t20 w fun w =>
 Ld P 23 t6 w fun t22 w =>
 Cl P 45 #[t22, (.int .i64 40)] w (Pk R) fun t23 w =>
 Un P .not t23 w fun t24 w =>
 Gd t24 false (fun k => k t21 w) w fun t26 w =>
 Gd t24 false (fun k => Bn P .neq 39 true t26 (.int .i64 0) w k) w fun t27 w =>
 Pick t24 (.bool true) t27 w fun t28 w =>
 If t28
 (Ld P 23 (.pointer (some ⟨0, 0, none⟩)) w fun t29 w =>
 Sto P 23 t2 t29 w fun w =>
 Rc P 23 t2 w fun r0 =>
 R (.returned (.tuple #[r0, (.bool false)])) w)
 (Ld P 23 t7 w fun t30 w =>
 Sto P 23 t4 t30 w fun w =>
 Bn P .add 3 true t12 (.int .i64 1) w fun t31 w =>
 k1 t31 w))
 (dL P 23 t4 w.drew fun t32 =>
 Dv P true (bV .len #[28] 3 #[t0]) w.drew fun t34 =>
 Cl P 44 #[t34, (.int .i64 1), (.int .i64 12)] w.drew (Pk R) fun t35 w =>
 kLd P 23 t4 t32 w <|
 GdP t35 true (fun k => dL P 23 t4 w k) fun t37 =>
 GdP t35 true (fun k => Dv P false (Instr.loadAt 23 (.pointer (some ⟨0, 0, none⟩))) w k) fun t38 =>
 GdP t35 true (fun k => Dv P false (bn .neq 23 false t37 t38) w k) fun t39 =>
 PickP t35 t39 (.bool false) fun t40 =>
 Sto P 23 t2 t32 w fun w =>
 Kg t35 true P (Instr.loadAt 23 t4) t37 w <|
 Kg t35 true P (Instr.loadAt 23 (.pointer (some ⟨0, 0, none⟩))) t38 w <|
 Kg t35 true P (bn .neq 23 false t37 t38) t39 w <|
 Rc P 23 t2 w fun r0 =>
 R (.returned (.tuple #[r0, t40])) w))
theorem e_contract_sum (h : s_contract_sum Tryz.prog t0 w R) : Calls Tryz.prog 49 #[t0] w R :=
 en1 (.sq .z (.sq .z (.sq (.sq .z (.bk (.lp [12] [3, 6, 7, 8, 13, 14, 15, 16, 17, 18, 19, 20, 21, 22, 23, 24, 25, 26, 27, 28, 29, 30, 31] (.sq .z (.sq (.cd .z .z) (.sq (.bk (.sq .z (.sq .z (.sq (.sq .z (.cd (.sq .z .z) .z)) .z)))) .z)))))) (.sq (.dr (.pur false 0 (.pur true 1 (.pur true 2 (.eff 3 [0] (.pur true 4 (.pur false 5 (.pur false 6 (.pur false 7 (.pur true 8 (.eff 9 [5, 6, 7] (.pur true 10 .done)))))))))))) .z)))) [t0] Tryz.func49 (by kernel_rfl) (by kernel_rfl) h
theorem n_contract_sum : Enters Tryz.prog 49 := enters_of Tryz.func49 (by kernel_rfl) rfl
def s_rational_Of (P : Program) (t0 t1 : Value) (w : World) (R : Ending → World → Prop) : Prop :=
 Al P 23 w fun t4 w =>
 Cl P 76 #[t0] w (Pk R) fun t7 w =>
 Cl P 76 #[t1] w (Pk R) fun t9 w =>
 Cl P 75 #[t7, t9] w (Pk R) fun t10 w =>
 Ex t10 0 w fun t11 w =>
 Ex t10 1 w fun t12 w =>
 Sto P 23 t4 t11 w fun w =>
 Rc P 23 t4 w fun r0 =>
 R (.returned (.tuple #[r0, t12])) w
theorem e_rational_Of (h : s_rational_Of Tryz.prog t0 t1 w R) : Calls Tryz.prog 50 #[t0, t1] w R :=
 en1 (.sq .z (.sq .z .z)) [t0, t1] Tryz.func50 (by kernel_rfl) (by kernel_rfl) h
theorem n_rational_Of : Enters Tryz.prog 50 := enters_of Tryz.func50 (by kernel_rfl) rfl
def s_contract_whole (P : Program) (t0 t1 : Value) (w : World) (R : Ending → World → Prop) : Prop :=
 Bx P 23 t0 w fun t2 w =>
 Cl P 50 #[t1, (.int .i64 1)] w (Pk R) fun t13 w =>
 Ex t13 0 w fun t14 w =>
 Ex t13 1 w fun t15 w =>
 Al P 23 w fun t5 w =>
 Sto P 23 t5 t14 w fun w =>
 Ld P 23 t2 w fun t16 w =>
 Ld P 23 t5 w fun t17 w =>
 Cl P 32 #[t16, t17] w (Pk R) fun t18 w =>
 Bn P .geq 3 true t18 (.int .i64 0) w fun t19 w =>
 If t19
 (R (.returned t1) w)
 (Ld P 23 t2 w fun t22 w =>
 Cl P 77 #[t22, (.int .i64 0)] w (Pk R) fun t23 w =>
 Ex t23 0 w fun t24 w =>
 Ex t23 1 w fun t25 w =>
 Al P 23 w fun t7 w =>
 Sto P 23 t7 t24 w fun w =>
 Fa P 23 t7 0 w fun t26 w =>
 Ld P 9 t26 w fun t27 w =>
 Bt P .len #[9] 3 #[t27] w fun t28 w =>
 Lp2 (.int .i64 0) (.int .i64 0) w (fun t9 t29 w k1 =>
 Bn P .lss 3 false t29 t28 w fun t30 w =>
 If t30
 (Bn P .mul 3 true (.int .i64 10) t9 w fun t33 w =>
 Fa P 23 t7 0 w fun t34 w =>
 Ld P 9 t34 w fun t35 w =>
 Ix P 9 t35 t29 w fun t37 w =>
 Bn P .sub 5 true t37 (.int .u8 48) w fun t38 w =>
 Cv P 5 3 t38 w fun t39 w =>
 Bn P .add 3 false t33 t39 w fun t40 w =>
 Bn P .add 3 true t29 (.int .i64 1) w fun t41 w =>
 k1 t40 t41 w)
 (R (.returned t9) w)))
theorem e_contract_whole (h : s_contract_whole Tryz.prog t0 t1 w R) : Calls Tryz.prog 51 #[t0, t1] w R :=
 en1 (.sq .z (.sq .z (.sq (.sq .z (.cd (.sq .z .z) .z)) (.sq .z (.sq .z (.sq (.sq .z (.bk (.lp [9, 29] [10, 30, 31, 32, 33, 34, 35, 36, 37, 38, 39, 40, 41] (.sq .z (.sq (.cd .z .z) (.sq (.bk (.sq .z .z)) .z)))))) (.sq .z .z))))))) [t0, t1] Tryz.func51 (by kernel_rfl) (by kernel_rfl) h
theorem n_contract_whole : Enters Tryz.prog 51 := enters_of Tryz.func51 (by kernel_rfl) rfl
def s_slices_SortStableFunc_int_int (P : Program) (t0 t1 : Value) (w : World) (R : Ending → World → Prop) : Prop :=
 Bt P .len #[27] 3 #[t0] w fun t6 w =>
 Cl P 78 #[t0, t6, t1] w (Pk R) fun t8 w =>
 R (.returned (.tuple #[])) w
theorem e_slices_SortStableFunc_int_int (h : s_slices_SortStableFunc_int_int Tryz.prog t0 t1 w R) : Calls Tryz.prog 52 #[t0, t1] w R :=
 en1 .z [t0, t1] Tryz.func52 (by kernel_rfl) (by kernel_rfl) h
theorem n_slices_SortStableFunc_int_int : Enters Tryz.prog 52 := enters_of Tryz.func52 (by kernel_rfl) rfl
def s_contract_Split_1 (P : Program) (t0 t1 t2 : Value) (w : World) (R : Ending → World → Prop) : Prop :=
 dL P 28 t2 w.drew fun t6 =>
 dIx P 28 t6 t1 w.drew fun t8 =>
 dL P 23 t8 w.drew fun t9 =>
 dL P 28 t2 w.drew fun t10 =>
 dIx P 28 t10 t0 w.drew fun t12 =>
 dL P 23 t12 w.drew fun t13 =>
 Cl P 32 #[t9, t13] w.drew (Pk R) fun t14 w =>
 R (.returned t14) w
theorem e_contract_Split_1 (h : s_contract_Split_1 Tryz.prog t0 t1 t2 w R) : Calls Tryz.prog 53 #[t0, t1, t2] w R :=
 en1 (.sq .z (.sq (.dr (.pur false 0 (.pur true 1 (.pur true 2 (.pur false 3 (.pur false 4 (.pur true 5 (.pur true 6 (.pur false 7 (.eff 8 [] (.pur true 9 .done))))))))))) .z)) [t0, t1, t2] Tryz.func53 (by kernel_rfl) (by kernel_rfl) h
theorem n_contract_Split_1 : Enters Tryz.prog 53 := enters_of Tryz.func53 (by kernel_rfl) rfl
def s_ref26_Sum (P : Program) (t0 : Value) (w : World) (R : Ending → World → Prop) : Prop :=
 Al P 23 w fun t2 w =>
 Cl P 37 #[(.int .i64 0)] w (Pk R) fun t8 w =>
 Al P 23 w fun t4 w =>
 Sto P 23 t4 t8 w fun w =>
 Bt P .len #[28] 3 #[t0] w fun t10 w =>
 Cl P 41 #[t10, (.int .i64 1), (.int .i64 12)] w (Pk R) fun t11 w =>
 Un P .not t11 w fun t12 w =>
 If t12
 (Ld P 23 t4 w fun t13 w =>
 Sto P 23 t2 t13 w fun w =>
 Rc P 23 t2 w fun r0 =>
 R (.returned (.tuple #[r0, (.bool false)])) w)
 (Lp1 (.int .i64 0) w (fun t5 w k1 =>
 Bt P .len #[28] 3 #[t0] w fun t16 w =>
 Bn P .lss 3 false t5 t16 w fun t17 w =>
 If t17
 (Ia P 28 t0 t5 w fun t22 w =>
 Ld P 23 t22 w fun t23 w =>
 Cl P 46 #[t23, (.int .i64 40)] w (Pk R) fun t24 w =>
 Un P .not t24 w fun t25 w =>
 If t25
 (Ld P 23 t4 w fun t26 w =>
 Sto P 23 t2 t26 w fun w =>
 Rc P 23 t2 w fun r0 =>
 R (.returned (.tuple #[r0, (.bool false)])) w)
 (Jn2 (fun k2 =>
 dL P 23 t4 w.drew fun t28 =>
 dIx P 28 t0 t5 w.drew fun t31 =>
 dL P 23 t31 w.drew fun t32 =>
 (Cl P 79 #[t28, t32] w.drew (Pk R) fun t33 w =>
 ExP t33 0 fun t34 =>
 ExP t33 1 fun t35 =>
 Al P 23 w fun t6 w =>
 kLd P 23 t4 t28 w <|
 kLd P 23 t31 t32 w <|
 Sto P 23 t6 t34 w fun w =>
 k2 t6 t35 w) ∧
 (Al P 23 w.drew fun t6x1 w =>
 kLd P 23 t4 t28 w <|
 kLd P 23 t31 t32 w <|
 Cl P 79 #[t28, t32] w (Pk R) fun t33x1 w =>
 ExP t33x1 0 fun t34x1 =>
 ExP t33x1 1 fun t35x1 =>
 Sto P 23 t6x1 t34x1 w fun w =>
 k2 t6x1 t35x1 w))
 (fun t6x2 t7 w =>
 Bn P .neq 39 true t7 (.int .i64 0) w fun t37 w =>
 If t37
 (Ld P 23 t4 w fun t38 w =>
 Sto P 23 t2 t38 w fun w =>
 Rc P 23 t2 w fun r0 =>
 R (.returned (.tuple #[r0, (.bool false)])) w)
 (Ld P 23 t6x2 w fun t39 w =>
 Sto P 23 t4 t39 w fun w =>
 Bn P .add 3 true t5 (.int .i64 1) w fun t19 w =>
 k1 t19 w))))
 (dL P 23 t4 w.drew fun t40 =>
 dFl P 23 t4 0 w.drew fun t41 =>
 dL P 9 t41 w.drew fun t42 =>
 Dv P true (bn .neq 9 true t42 (str [48])) w.drew fun t43 =>
 Sto P 23 t2 t40 w.drew fun w =>
 kLd P 9 t41 t42 w <|
 Rc P 23 t2 w fun r0 =>
 R (.returned (.tuple #[r0, t43])) w)))
theorem e_ref26_Sum (h : s_ref26_Sum Tryz.prog t0 w R) : Calls Tryz.prog 54 #[t0] w R :=
 en1 (.sq .z (.sq .z (.sq (.sq .z (.cd (.sq .z .z) .z)) (.sq (.sq .z (.bk (.lp [5] [3, 6, 7, 14, 15, 16, 17, 18, 19, 20, 21, 22, 23, 24, 25, 26, 27, 28, 29, 30, 31, 32, 33, 34, 35, 36, 37, 38, 39] (.sq (.sq .z (.cd .z .z)) (.sq (.bk (.sq (.sq .z (.cd (.sq .z .z) .z)) (.jn [6, 7] [27, 28, 29, 30, 31, 32, 33, 34, 35] (.dr (.pur false 0 (.pur true 1 (.pur true 2 (.pur true 3 (.pur false 4 (.alt (.eff 5 [] (.pur true 6 (.pur true 7 (.pur true 8 (.eff 9 [0, 4] (.eff 10 [] (.pur true 11 .done))))))) (.eff 9 [0, 4] (.eff 5 [] (.pur true 6 (.pur true 7 (.pur true 8 (.eff 10 [] (.pur true 11 .done)))))))))))))) (.sq (.sq .z (.cd (.sq .z .z) .z)) .z)))) .z))))) (.sq (.dr (.pur false 0 (.pur true 1 (.pur false 2 (.pur true 3 (.eff 4 [2] (.pur true 5 .done))))))) .z))))) [t0] Tryz.func54 (by kernel_rfl) (by kernel_rfl) h
theorem n_ref26_Sum : Enters Tryz.prog 54 := enters_of Tryz.func54 (by kernel_rfl) rfl
def s_ref04_Div (P : Program) (t0 t1 : Value) (w : World) (R : Ending → World → Prop) : Prop :=
 Bx P 23 t0 w fun t2 w =>
 Bx P 23 t1 w fun t3 w =>
 Al P 23 w fun t4 w =>
 Ld P 23 t2 w fun t12 w =>
 Cl P 71 #[t12] w (Pk R) fun t13 w =>
 Ld P 23 t3 w fun t14 w =>
 Cl P 71 #[t14] w (Pk R) fun t15 w =>
 Un P .not t13 w fun t17 w =>
 Gd t17 false (fun k => k t15 w) w fun t19 w =>
 Gd t17 false (fun k => Un P .not t19 w k) w fun t20 w =>
 Pick t17 (.bool true) t20 w fun t21 w =>
 If t21
 (Bd P 23 [] w fun t22 w =>
 Sto P 23 t4 t22 w fun w =>
 Rc P 23 t4 w fun r0 =>
 R (.returned (.tuple #[r0, (.int .i64 40)])) w)
 (Fa P 23 t2 0 w fun t24 w =>
 Ld P 9 t24 w fun t25 w =>
 Fa P 23 t3 1 w fun t26 w =>
 Ld P 9 t26 w fun t27 w =>
 Cl P 72 #[t25, t27] w (Pk R) fun t28 w =>
 Ex t28 0 w fun t29 w =>
 Ex t28 1 w fun t30 w =>
 Fa P 23 t2 1 w fun t32 w =>
 Ld P 9 t32 w fun t33 w =>
 Fa P 23 t3 0 w fun t34 w =>
 Ld P 9 t34 w fun t35 w =>
 Cl P 72 #[t33, t35] w (Pk R) fun t36 w =>
 Ex t36 0 w fun t37 w =>
 Ex t36 1 w fun t38 w =>
 Bn P .neq 39 true t30 (.int .i64 0) w fun t40 w =>
 Gd t40 false (fun k => k t38 w) w fun t42 w =>
 Gd t40 false (fun k => Bn P .neq 39 true t42 (.int .i64 0) w k) w fun t43 w =>
 Pick t40 (.bool true) t43 w fun t44 w =>
 If t44
 (Bd P 23 [] w fun t45 w =>
 Sto P 23 t4 t45 w fun w =>
 Rc P 23 t4 w fun r0 =>
 R (.returned (.tuple #[r0, (.int .i64 40)])) w)
 (Cl P 73 #[t29, t37] w (Pk R) fun t48 w =>
 Ex t48 0 w fun t49 w =>
 Ex t48 1 w fun t50 w =>
 Sto P 23 t4 t49 w fun w =>
 Rc P 23 t4 w fun r0 =>
 R (.returned (.tuple #[r0, t50])) w))
theorem e_ref04_Div (h : s_ref04_Div Tryz.prog t0 t1 w R) : Calls Tryz.prog 55 #[t0, t1] w R :=
 en1 (.sq .z (.sq .z (.sq .z (.sq (.sq .z (.cd (.sq .z .z) .z)) (.sq .z (.sq .z (.sq (.sq .z (.cd (.sq .z .z) .z)) (.sq .z .z)))))))) [t0, t1] Tryz.func55 (by kernel_rfl) (by kernel_rfl) h
theorem n_ref04_Div : Enters Tryz.prog 55 := enters_of Tryz.func55 (by kernel_rfl) rfl
def s_ref04_Sub (P : Program) (t0 t1 : Value) (w : World) (R : Ending → World → Prop) : Prop :=
 Bx P 23 t0 w fun t2 w =>
 Bx P 23 t1 w fun t3 w =>
 Al P 23 w fun t4 w =>
 Ld P 23 t2 w fun t13 w =>
 Ld P 23 t3 w fun t14 w =>
 Cl P 80 #[t13, t14] w (Pk R) fun t15 w =>
 Ex t15 0 w fun t16 w =>
 Ex t15 1 w fun t17 w =>
 Ex t15 2 w fun t18 w =>
 Ex t15 3 w fun t19 w =>
 Un P .not t19 w fun t21 w =>
 If t21
 (Bd P 23 [] w fun t22 w =>
 Sto P 23 t4 t22 w fun w =>
 Rc P 23 t4 w fun r0 =>
 R (.returned (.tuple #[r0, (.int .i64 40)])) w)
 (Cl P 81 #[t16, t17] w (Pk R) fun t26 w =>
 Ex t26 0 w fun t27 w =>
 Ex t26 1 w fun t28 w =>
 Bn P .neq 39 true t28 (.int .i64 0) w fun t30 w =>
 If t30
 (Bd P 23 [] w fun t31 w =>
 Sto P 23 t4 t31 w fun w =>
 Rc P 23 t4 w fun r0 =>
 R (.returned (.tuple #[r0, (.int .i64 40)])) w)
 (Cl P 73 #[t27, t18] w (Pk R) fun t34 w =>
 Ex t34 0 w fun t35 w =>
 Ex t34 1 w fun t36 w =>
 Sto P 23 t4 t35 w fun w =>
 Rc P 23 t4 w fun r0 =>
 R (.returned (.tuple #[r0, t36])) w))
theorem e_ref04_Sub (h : s_ref04_Sub Tryz.prog t0 t1 w R) : Calls Tryz.prog 56 #[t0, t1] w R :=
 en1 (.sq .z (.sq .z (.sq (.sq .z (.cd (.sq .z .z) .z)) (.sq .z (.sq (.sq .z (.cd (.sq .z .z) .z)) (.sq .z .z)))))) [t0, t1] Tryz.func56 (by kernel_rfl) (by kernel_rfl) h
theorem n_ref04_Sub : Enters Tryz.prog 56 := enters_of Tryz.func56 (by kernel_rfl) rfl
def s_ref04_Compare (P : Program) (t0 t1 : Value) (w : World) (R : Ending → World → Prop) : Prop :=
 Bx P 23 t0 w fun t2 w =>
 Bx P 23 t1 w fun t3 w =>
 Ld P 23 t2 w fun t19 w =>
 Cl P 71 #[t19] w (Pk R) fun t20 w =>
 Ld P 23 t3 w fun t21 w =>
 Cl P 71 #[t21] w (Pk R) fun t22 w =>
 Un P .not t20 w fun t24 w =>
 Gd t24 false (fun k => k t22 w) w fun t26 w =>
 Gd t24 false (fun k => Un P .not t26 w k) w fun t27 w =>
 Pick t24 (.bool true) t27 w fun t28 w =>
 If t28
 (R (.returned (.int .i64 0)) w)
 (Fa P 23 t2 0 w fun t29 w =>
 Ld P 9 t29 w fun t30 w =>
 Fa P 23 t2 1 w fun t31 w =>
 Ld P 9 t31 w fun t32 w =>
 Fa P 23 t3 0 w fun t33 w =>
 Ld P 9 t33 w fun t34 w =>
 Fa P 23 t3 1 w fun t35 w =>
 Ld P 9 t35 w fun t36 w =>
 Lp5 (.int .i64 1) t30 t32 t34 t36 w (fun t7 t8 t9 t10 t11 w k1 =>
 Cl P 82 #[t8, t9] w (Pk R) fun t40 w =>
 Ex t40 0 w fun t41 w =>
 Ex t40 1 w fun t42 w =>
 Ex t40 2 w fun t43 w =>
 Cl P 82 #[t10, t11] w (Pk R) fun t47 w =>
 Ex t47 0 w fun t48 w =>
 Ex t47 1 w fun t49 w =>
 Ex t47 2 w fun t50 w =>
 Cl P 83 #[t41, t48] w (Pk R) fun t53 w =>
 Bn P .neq 3 true t53 (.int .i64 0) w fun t55 w =>
 If t55
 (Bn P .mul 3 false t7 t53 w fun t58 w =>
 R (.returned t58) w)
 (Bn P .eql 9 true t42 (str [48]) w fun t60 w =>
 Gd t60 false (fun k => k t49 w) w fun t62 w =>
 Gd t60 false (fun k => Bn P .eql 9 true t62 (str [48]) w k) w fun t63 w =>
 Pick t60 (.bool true) t63 w fun t64 w =>
 If t64
 (Cl P 84 #[t42] w (Pk R) fun t67 w =>
 Cl P 84 #[t49] w (Pk R) fun t69 w =>
 Cl P 83 #[t67, t69] w (Pk R) fun t70 w =>
 Bn P .mul 3 false t7 t70 w fun t71 w =>
 R (.returned t71) w)
 (Un P .neg t7 w fun t77 w =>
 k1 t77 t9 t42 t11 t49 w))))
theorem e_ref04_Compare (h : s_ref04_Compare Tryz.prog t0 t1 w R) : Calls Tryz.prog 57 #[t0, t1] w R :=
 en1 (.sq .z (.sq .z (.sq .z (.sq (.sq .z (.cd (.sq .z .z) .z)) (.sq .z (.sq .z (.sq .z (.sq .z (.sq .z (.bk (.lp [7, 8, 9, 10, 11] [4, 12, 13, 14, 15, 16, 17, 18, 37, 38, 39, 40, 41, 42, 43, 44, 45, 46, 47, 48, 49, 50, 51, 52, 53, 54, 55, 56, 57, 58, 59, 60, 61, 62, 63, 64, 65, 66, 67, 68, 69, 70, 71, 72, 73, 74, 75, 76, 77] (.bk (.sq .z (.sq .z (.sq .z (.sq (.sq .z (.cd (.sq .z .z) .z)) (.sq (.sq .z (.cd (.sq .z .z) .z)) (.sq .z (.sq .z .z))))))))))))))))))) [t0, t1] Tryz.func57 (by kernel_rfl) (by kernel_rfl) h
theorem n_ref04_Compare : Enters Tryz.prog 57 := enters_of Tryz.func57 (by kernel_rfl) rfl
def s_rational_Add (P : Program) (t0 t1 : Value) (w : World) (R : Ending → World → Prop) : Prop :=
 Bx P 23 t0 w fun t2 w =>
 Bx P 23 t1 w fun t3 w =>
 Al P 23 w fun t4 w =>
 Ld P 23 t2 w fun t6 w =>
 Ld P 23 t3 w fun t7 w =>
 Cl P 62 #[(.func (.func 85) #[] #[]), t6, t7] w (Pk R) fun t8 w =>
 Ex t8 0 w fun t9 w =>
 Ex t8 1 w fun t10 w =>
 Sto P 23 t4 t9 w fun w =>
 Rc P 23 t4 w fun r0 =>
 R (.returned (.tuple #[r0, t10])) w
theorem e_rational_Add (h : s_rational_Add Tryz.prog t0 t1 w R) : Calls Tryz.prog 58 #[t0, t1] w R :=
 en1 (.sq .z (.sq .z .z)) [t0, t1] Tryz.func58 (by kernel_rfl) (by kernel_rfl) h
theorem n_rational_Add : Enters Tryz.prog 58 := enters_of Tryz.func58 (by kernel_rfl) rfl
def s_rational_work_check (P : Program) (t0 t1 : Value) (w : World) (R : Ending → World → Prop) : Prop :=
 Bt P .len #[28] 3 #[t1] w fun t7 w =>
 Lp1 (.int .i64 0) w (fun t8 w k1 =>
 Bn P .lss 3 false t8 t7 w fun t9 w =>
 If t9
 (Ia P 28 t1 t8 w fun t10 w =>
 Ld P 23 t10 w fun t11 w =>
 Al P 23 w fun t5 w =>
 Sto P 23 t5 t11 w fun w =>
 Nc t0 w fun t14 w =>
 Fa P 88 t14 0 w fun t15 w =>
 Ld P 4 t15 w fun t16 w =>
 Gd t16 false (fun k => Ld P 23 t5 w k) w fun t18 w =>
 Gd t16 false (fun k => Cl P 64 #[t18] w (Pk R) k) w fun t19 w =>
 Gd t16 false (fun k => Un P .not t19 w k) w fun t20 w =>
 Pick t16 (.bool true) t20 w fun t21 w =>
 Nc t0 w fun t22 w =>
 Fa P 88 t22 0 w fun t23 w =>
 Sto P 4 t23 t21 w fun w =>
 Bn P .add 3 true t8 (.int .i64 1) w fun t24 w =>
 k1 t24 w)
 (R (.returned (.tuple #[])) w))
theorem e_rational_work_check (h : s_rational_work_check Tryz.prog t0 t1 w R) : Calls Tryz.prog 59 #[t0, t1] w R :=
 en1 (.sq .z (.bk (.lp [8] [5, 9, 10, 11, 12, 13, 14, 15, 16, 17, 18, 19, 20, 21, 22, 23, 24] (.sq .z (.sq (.cd .z .z) (.sq (.bk (.sq .z .z)) .z)))))) [t0, t1] Tryz.func59 (by kernel_rfl) (by kernel_rfl) h
theorem n_rational_work_check : Enters Tryz.prog 59 := enters_of Tryz.func59 (by kernel_rfl) rfl
def s_rational_work_mul (P : Program) (t0 t1 t2 : Value) (w : World) (R : Ending → World → Prop) : Prop :=
 Cl P 86 #[t0, (.func (.func 87) #[] #[]), t1, t2] w (Pk R) fun t10 w =>
 R (.returned t10) w
theorem e_rational_work_mul (h : s_rational_work_mul Tryz.prog t0 t1 t2 w R) : Calls Tryz.prog 60 #[t0, t1, t2] w R :=
 en1 (.sq .z (.sq .z .z)) [t0, t1, t2] Tryz.func60 (by kernel_rfl) (by kernel_rfl) h
theorem n_rational_work_mul : Enters Tryz.prog 60 := enters_of Tryz.func60 (by kernel_rfl) rfl
def s_rational_work_reduced (P : Program) (t0 t1 t2 : Value) (w : World) (R : Ending → World → Prop) : Prop :=
 Al P 23 w fun t6 w =>
 Nc t0 w fun t11 w =>
 Fa P 88 t11 0 w fun t12 w =>
 Ld P 4 t12 w fun t13 w =>
 Gd t13 false (fun k => k t2 w) w fun t15 w =>
 Gd t13 false (fun k => Bn P .eql 9 true t15 (str [48]) w k) w fun t16 w =>
 Pick t13 (.bool true) t16 w fun t17 w =>
 If t17
 (Bd P 23 [] w fun t18 w =>
 Sto P 23 t6 t18 w fun w =>
 Rc P 23 t6 w fun r0 =>
 R (.returned (.tuple #[r0, (.int .i64 40)])) w)
 (Jn2 (fun k1 =>
 Cl P 66 #[t2, (str [48])] w (Pk R) fun t20 w =>
 Bn P .lss 3 true t20 (.int .i64 0) w fun t21 w =>
 If t21
 (Cl P 86 #[t0, (.func (.func 63) #[] #[]), (str [48]), t1] w (Pk R) fun t24 w =>
 Cl P 86 #[t0, (.func (.func 63) #[] #[]), (str [48]), t2] w (Pk R) fun t27 w =>
 k1 t24 t27 w)
 (k1 t1 t2 w))
 (fun t1x1 t2x1 w =>
 Cl P 86 #[t0, (.func (.func 88) #[] #[]), t1x1, t2x1] w (Pk R) fun t31 w =>
 Cl P 89 #[t0, t1x1, t31] w (Pk R) fun t35 w =>
 Cl P 89 #[t0, t2x1, t31] w (Pk R) fun t39 w =>
 Bd P 23 [(0, t35), (1, t39)] w fun t40 w =>
 Al P 23 w fun t9 w =>
 Sto P 23 t9 t40 w fun w =>
 Nc t0 w fun t42 w =>
 Fa P 88 t42 0 w fun t43 w =>
 Ld P 4 t43 w fun t44 w =>
 If t44
 (Bd P 23 [] w fun t45 w =>
 Sto P 23 t6 t45 w fun w =>
 Rc P 23 t6 w fun r0 =>
 R (.returned (.tuple #[r0, (.int .i64 40)])) w)
 (Ld P 23 t9 w fun t46 w =>
 Sto P 23 t6 t46 w fun w =>
 Rc P 23 t6 w fun r0 =>
 R (.returned (.tuple #[r0, (.int .i64 0)])) w)))
theorem e_rational_work_reduced (h : s_rational_work_reduced Tryz.prog t0 t1 t2 w R) : Calls Tryz.prog 61 #[t0, t1, t2] w R :=
 en1 (.sq .z (.sq (.sq .z (.cd (.sq .z .z) .z)) (.jn [1, 2] [19, 20, 21, 22, 23, 24, 25, 26, 27] (.sq .z (.cd .z .z)) (.sq .z (.sq .z (.sq (.sq .z (.cd (.sq .z .z) .z)) (.sq .z .z))))))) [t0, t1, t2] Tryz.func61 (by kernel_rfl) (by kernel_rfl) h
theorem n_rational_work_reduced : Enters Tryz.prog 61 := enters_of Tryz.func61 (by kernel_rfl) rfl
def s_rational_sum (P : Program) (t0 t1 t2 : Value) (w : World) (R : Ending → World → Prop) : Prop :=
 Bx P 23 t1 w fun t4 w =>
 Bx P 23 t2 w fun t5 w =>
 Al P 23 w fun t6 w =>
 Bd P 88 [] w fun t10 w =>
 Bx P 88 t10 w fun t11 w =>
 Ld P 23 t4 w fun t13 w =>
 Ld P 23 t5 w fun t14 w =>
 Bs P 28 2 [(0, t13), (1, t14)] w fun t15 w =>
 Cl P 59 #[t11, t15] w (Pk R) fun t16 w =>
 dFl P 23 t4 0 w.drew fun t20 =>
 dL P 9 t20 w.drew fun t21 =>
 dFl P 23 t5 1 w.drew fun t22 =>
 dL P 9 t22 w.drew fun t23 =>
 dFl P 23 t5 0 w.drew fun t26 =>
 dL P 9 t26 w.drew fun t27 =>
 dFl P 23 t4 1 w.drew fun t28 =>
 dL P 9 t28 w.drew fun t29 =>
 Cl P 60 #[t11, t21, t23] w.drew (Pk R) fun t24 w =>
 kLd P 9 t26 t27 w <|
 kLd P 9 t28 t29 w <|
 Cl P 60 #[t11, t27, t29] w (Pk R) fun t30 w =>
 Cl P 86 #[t11, t0, t24, t30] w (Pk R) fun t31 w =>
 Fa P 23 t4 1 w fun t35 w =>
 Ld P 9 t35 w fun t36 w =>
 Fa P 23 t5 1 w fun t37 w =>
 Ld P 9 t37 w fun t38 w =>
 Cl P 60 #[t11, t36, t38] w (Pk R) fun t39 w =>
 Cl P 61 #[t11, t31, t39] w (Pk R) fun t40 w =>
 Ex t40 0 w fun t41 w =>
 Ex t40 1 w fun t42 w =>
 Sto P 23 t6 t41 w fun w =>
 Rc P 23 t6 w fun r0 =>
 R (.returned (.tuple #[r0, t42])) w
theorem e_rational_sum (h : s_rational_sum Tryz.prog t0 t1 t2 w R) : Calls Tryz.prog 62 #[t0, t1, t2] w R :=
 en1 (.sq .z (.sq .z (.sq .z (.sq (.dr (.pur true 0 (.pur true 1 (.pur true 2 (.pur true 3 (.pur false 4 (.pur true 5 (.pur false 6 (.pur true 8 (.pur true 9 (.pur false 10 (.pur true 11 (.pur false 12 (.eff 7 [10, 12] (.eff 13 [] (.eff 14 [] (.pur true 15 .done))))))))))))))))) (.sq .z .z))))) [t0, t1, t2] Tryz.func62 (by kernel_rfl) (by kernel_rfl) h
theorem n_rational_sum : Enters Tryz.prog 62 := enters_of Tryz.func62 (by kernel_rfl) rfl
def s_integer_Sub (P : Program) (t0 t1 : Value) (w : World) (R : Ending → World → Prop) : Prop :=
 Cl P 90 #[t0, t1] w (Pk R) fun t12 w =>
 Ex t12 0 w fun t13 w =>
 Ex t12 1 w fun t14 w =>
 Ex t12 2 w fun t15 w =>
 Al P 111 w fun t6 w =>
 Al P 111 w fun t7 w =>
 Sto P 111 t6 t13 w fun w =>
 Sto P 111 t7 t14 w fun w =>
 Un P .not t15 w fun t17 w =>
 If t17
 (R (.returned (.tuple #[(str []), (.int .i64 30)])) w)
 (Fa P 111 t7 0 w fun t18 w =>
 Ld P 4 t18 w fun t19 w =>
 Un P .not t19 w fun t20 w =>
 Fa P 111 t7 0 w fun t21 w =>
 Sto P 4 t21 t20 w fun w =>
 Ld P 111 t6 w fun t22 w =>
 Ld P 111 t7 w fun t23 w =>
 Cl P 91 #[t22, t23] w (Pk R) fun t24 w =>
 Cl P 92 #[t24] w (Pk R) fun t25 w =>
 Ex t25 0 w fun t26 w =>
 Ex t25 1 w fun t27 w =>
 R (.returned (.tuple #[t26, t27])) w)
theorem e_integer_Sub (h : s_integer_Sub Tryz.prog t0 t1 w R) : Calls Tryz.prog 63 #[t0, t1] w R :=
 en1 (.sq .z (.sq .z (.sq (.sq .z (.cd (.sq .z .z) .z)) (.sq .z (.sq .z .z))))) [t0, t1] Tryz.func63 (by kernel_rfl) (by kernel_rfl) h
theorem n_integer_Sub : Enters Tryz.prog 63 := enters_of Tryz.func63 (by kernel_rfl) rfl
def s_rational_Valid (P : Program) (t0 : Value) (w : World) (R : Ending → World → Prop) : Prop :=
 Bx P 23 t0 w fun t1 w =>
 Fa P 23 t1 0 w fun t5 w =>
 Ld P 9 t5 w fun t6 w =>
 Cl P 93 #[t6] w (Pk R) fun t7 w =>
 Un P .not t7 w fun t8 w =>
 Gd t8 false (fun k => Fa P 23 t1 1 w k) w fun t10 w =>
 Gd t8 false (fun k => Ld P 9 t10 w k) w fun t11 w =>
 Gd t8 false (fun k => Cl P 93 #[t11] w (Pk R) k) w fun t12 w =>
 Gd t8 false (fun k => Un P .not t12 w k) w fun t13 w =>
 Pick t8 (.bool true) t13 w fun t14 w =>
 Gd t14 false (fun k => Fa P 23 t1 1 w k) w fun t16 w =>
 Gd t14 false (fun k => Ld P 9 t16 w k) w fun t17 w =>
 Gd t14 false (fun k => Cl P 66 #[t17, (str [48])] w (Pk R) k) w fun t18 w =>
 Gd t14 false (fun k => Bn P .leq 3 true t18 (.int .i64 0) w k) w fun t19 w =>
 Pick t14 (.bool true) t19 w fun t20 w =>
 If t20
 (R (.returned (.bool false)) w)
 (Fa P 23 t1 0 w fun t22 w =>
 Ld P 9 t22 w fun t23 w =>
 Fa P 23 t1 1 w fun t24 w =>
 Ld P 9 t24 w fun t25 w =>
 Cl P 88 #[t23, t25] w (Pk R) fun t26 w =>
 Ex t26 0 w fun t27 w =>
 Ex t26 1 w fun t28 w =>
 Bn P .eql 39 true t28 (.int .i64 0) w fun t30 w =>
 Gd t30 true (fun k => k t27 w) w fun t32 w =>
 Gd t30 true (fun k => Bn P .eql 9 true t32 (str [49]) w k) w fun t33 w =>
 Pick t30 t33 (.bool false) w fun t34 w =>
 R (.returned t34) w)
theorem e_rational_Valid (h : s_rational_Valid Tryz.prog t0 w R) : Calls Tryz.prog 64 #[t0] w R :=
 en1 (.sq .z (.sq (.sq .z (.cd (.sq .z .z) .z)) (.sq .z (.sq .z .z)))) [t0] Tryz.func64 (by kernel_rfl) (by kernel_rfl) h
theorem n_rational_Valid : Enters Tryz.prog 64 := enters_of Tryz.func64 (by kernel_rfl) rfl
def s_integer_Div (P : Program) (t0 t1 : Value) (w : World) (R : Ending → World → Prop) : Prop :=
 Cl P 90 #[t0, t1] w (Pk R) fun t19 w =>
 Ex t19 0 w fun t20 w =>
 Ex t19 1 w fun t21 w =>
 Ex t19 2 w fun t22 w =>
 Al P 111 w fun t7 w =>
 Al P 111 w fun t8 w =>
 Sto P 111 t7 t20 w fun w =>
 Sto P 111 t8 t21 w fun w =>
 Un P .not t22 w fun t24 w =>
 Gd t24 false (fun k => Fa P 111 t8 1 w k) w fun t26 w =>
 Gd t24 false (fun k => Ld P 109 t26 w k) w fun t27 w =>
 Gd t24 false (fun k => Bt P .len #[109] 3 #[t27] w k) w fun t28 w =>
 Gd t24 false (fun k => Bn P .eql 3 true t28 (.int .i64 0) w k) w fun t29 w =>
 Pick t24 (.bool true) t29 w fun t30 w =>
 If t30
 (R (.returned (.tuple #[(str []), (str []), (.int .i64 30)])) w)
 (Fa P 111 t7 1 w fun t32 w =>
 Ld P 109 t32 w fun t33 w =>
 Fa P 111 t8 1 w fun t34 w =>
 Ld P 109 t34 w fun t35 w =>
 Cl P 94 #[t33, t35] w (Pk R) fun t36 w =>
 Ex t36 0 w fun t37 w =>
 Ex t36 1 w fun t38 w =>
 Jn2 (fun k1 =>
 Fa P 111 t7 0 w fun t39 w =>
 Ld P 4 t39 w fun t40 w =>
 Gd t40 true (fun k => k t38 w) w fun t42 w =>
 Gd t40 true (fun k => Bt P .len #[109] 3 #[t42] w k) w fun t43 w =>
 Gd t40 true (fun k => Bn P .gtr 3 true t43 (.int .i64 0) w k) w fun t44 w =>
 Pick t40 t44 (.bool false) w fun t45 w =>
 If t45
 (dFl P 111 t8 1 w.drew fun t49 =>
 dL P 109 t49 w.drew fun t50 =>
 Cl P 96 #[] w.drew (Pk R) fun t47 w =>
 kLd P 109 t49 t50 w <|
 Cl P 95 #[t37, t47] w (Pk R) fun t48 w =>
 kLd P 109 t49 t50 w <|
 Cl P 97 #[t50, t38] w (Pk R) fun t52 w =>
 k1 t48 t52 w)
 (k1 t37 t38 w))
 (fun t10 t11 w =>
 Fa P 111 t7 0 w fun t54 w =>
 Ld P 4 t54 w fun t55 w =>
 Fa P 111 t8 0 w fun t56 w =>
 Ld P 4 t56 w fun t57 w =>
 Bn P .neq 4 false t55 t57 w fun t58 w =>
 Bd P 111 [(0, t58), (1, t10)] w fun t60 w =>
 Cl P 92 #[t60] w (Pk R) fun t61 w =>
 Ex t61 0 w fun t62 w =>
 Ex t61 1 w fun t63 w =>
 Bn P .neq 39 true t63 (.int .i64 0) w fun t65 w =>
 If t65
 (R (.returned (.tuple #[(str []), (str []), t63])) w)
 (Bd P 111 [(1, t11)] w fun t69 w =>
 Cl P 92 #[t69] w (Pk R) fun t70 w =>
 Ex t70 0 w fun t71 w =>
 Ex t70 1 w fun t72 w =>
 R (.returned (.tuple #[t62, t71, (.int .i64 0)])) w)))
theorem e_integer_Div (h : s_integer_Div Tryz.prog t0 t1 w R) : Calls Tryz.prog 65 #[t0, t1] w R :=
 en1 (.sq .z (.sq .z (.sq (.sq .z (.cd (.sq .z .z) .z)) (.sq .z (.jn [10, 11] [39, 40, 41, 42, 43, 44, 45, 46, 47, 48, 49, 50, 51, 52] (.sq .z (.cd (.dr (.pur true 0 (.pur true 3 (.pur false 4 (.pur true 5 (.eff 1 [4] (.eff 2 [4] (.eff 6 [] (.pur true 7 (.pur true 8 .done)))))))))) .z)) (.sq .z (.sq (.sq .z (.cd (.sq .z .z) .z)) (.sq .z (.sq .z .z))))))))) [t0, t1] Tryz.func65 (by kernel_rfl) (by kernel_rfl) h
theorem n_integer_Div : Enters Tryz.prog 65 := enters_of Tryz.func65 (by kernel_rfl) rfl
def s_integer_Compare (P : Program) (t0 t1 : Value) (w : World) (R : Ending → World → Prop) : Prop :=
 Cl P 90 #[t0, t1] w (Pk R) fun t11 w =>
 Ex t11 0 w fun t12 w =>
 Ex t11 1 w fun t13 w =>
 Ex t11 2 w fun t14 w =>
 Al P 111 w fun t5 w =>
 Al P 111 w fun t6 w =>
 Sto P 111 t5 t12 w fun w =>
 Sto P 111 t6 t13 w fun w =>
 Un P .not t14 w fun t17 w =>
 If t17
 (R (.returned (.int .i64 0)) w)
 (Fa P 111 t5 0 w fun t19 w =>
 Ld P 4 t19 w fun t20 w =>
 Gd t20 true (fun k => Fa P 111 t6 0 w k) w fun t22 w =>
 Gd t20 true (fun k => Ld P 4 t22 w k) w fun t23 w =>
 Pick t20 t23 (.bool false) w fun t24 w =>
 If t24
 (Fa P 111 t6 1 w fun t25 w =>
 Ld P 109 t25 w fun t26 w =>
 Fa P 111 t5 1 w fun t27 w =>
 Ld P 109 t27 w fun t28 w =>
 Cl P 98 #[t26, t28] w (Pk R) fun t29 w =>
 R (.returned t29) w)
 (Fa P 111 t5 0 w fun t31 w =>
 Ld P 4 t31 w fun t32 w =>
 If t32
 (R (.returned (.int .i64 (-1))) w)
 (Fa P 111 t6 0 w fun t34 w =>
 Ld P 4 t34 w fun t35 w =>
 If t35
 (R (.returned (.int .i64 1)) w)
 (Fa P 111 t5 1 w fun t36 w =>
 Ld P 109 t36 w fun t37 w =>
 Fa P 111 t6 1 w fun t38 w =>
 Ld P 109 t38 w fun t39 w =>
 Cl P 98 #[t37, t39] w (Pk R) fun t40 w =>
 R (.returned t40) w))))
theorem e_integer_Compare (h : s_integer_Compare Tryz.prog t0 t1 w R) : Calls Tryz.prog 66 #[t0, t1] w R :=
 en1 (.sq .z (.sq .z (.sq (.bk (.sq .z (.cd (.sq .z .z) (.sq .z (.cd (.sq .z .z) (.sq .z (.cd (.sq .z .z) (.sq .z (.cd (.sq .z .z) .z))))))))) (.sq .z .z)))) [t0, t1] Tryz.func66 (by kernel_rfl) (by kernel_rfl) h
theorem n_integer_Compare : Enters Tryz.prog 66 := enters_of Tryz.func66 (by kernel_rfl) rfl
def s_ref04_Of (P : Program) (t0 t1 : Value) (w : World) (R : Ending → World → Prop) : Prop :=
 Al P 23 w fun t4 w =>
 Cl P 68 #[t0] w (Pk R) fun t7 w =>
 Cl P 68 #[t1] w (Pk R) fun t9 w =>
 Cl P 73 #[t7, t9] w (Pk R) fun t10 w =>
 Ex t10 0 w fun t11 w =>
 Ex t10 1 w fun t12 w =>
 Sto P 23 t4 t11 w fun w =>
 Rc P 23 t4 w fun r0 =>
 R (.returned (.tuple #[r0, t12])) w
theorem e_ref04_Of (h : s_ref04_Of Tryz.prog t0 t1 w R) : Calls Tryz.prog 67 #[t0, t1] w R :=
 en1 (.sq .z (.sq .z .z)) [t0, t1] Tryz.func67 (by kernel_rfl) (by kernel_rfl) h
theorem n_ref04_Of : Enters Tryz.prog 67 := enters_of Tryz.func67 (by kernel_rfl) rfl
def s_ref03_FromInt (P : Program) (t0 : Value) (w : World) (R : Ending → World → Prop) : Prop :=
 Lp2 (.slice none 0 0) t0 w (fun t3 t4 w k1 =>
 Bn P .neq 3 true t4 (.int .i64 0) w fun t10 w =>
 If t10
 (Bn P .rem 3 true t4 (.int .i64 10) w fun t14 w =>
 Bn P .lss 3 true t14 (.int .i64 0) w fun t16 w =>
 If t16
 (Un P .neg t14 w fun t18 w =>
 Bs P 27 1 [(0, t18)] w fun t21 w =>
 Bt P .append #[27, 27] 27 #[t3, t21] w fun t22 w =>
 Bn P .quo 3 true t4 (.int .i64 10) w fun t12 w =>
 k1 t22 t12 w)
 (Bs P 27 1 [(0, t14)] w fun t21x1 w =>
 Bt P .append #[27, 27] 27 #[t3, t21x1] w fun t22x1 w =>
 Bn P .quo 3 true t4 (.int .i64 10) w fun t12x1 w =>
 k1 t22x1 t12x1 w))
 (Bn P .lss 3 true t0 (.int .i64 0) w fun t25 w =>
 Cl P 99 #[t25, t3] w (Pk R) fun t27 w =>
 Ex t27 0 w fun t28 w =>
 Ex t27 1 w fun t29 w =>
 R (.returned t28) w))
theorem e_ref03_FromInt (h : s_ref03_FromInt Tryz.prog t0 w R) : Calls Tryz.prog 68 #[t0] w R :=
 en1 (.sq .z (.sq .z (.sq (.sq .z (.bk (.lp [3, 4] [5, 9, 10, 11, 12, 13, 14, 15, 16, 17, 18, 19, 20, 21, 22] (.sq (.sq .z (.cd .z .z)) (.sq (.bk (.sq .z (.sq (.sq .z (.cd .z .z)) .z))) .z))))) (.sq .z (.sq .z .z))))) [t0] Tryz.func68 (by kernel_rfl) (by kernel_rfl) h
theorem n_ref03_FromInt : Enters Tryz.prog 68 := enters_of Tryz.func68 (by kernel_rfl) rfl
def s_slices_ContainsFunc_int_int (P : Program) (t0 t1 : Value) (w : World) (R : Ending → World → Prop) : Prop :=
 Cl P 100 #[t0, t1] w (Pk R) fun t7 w =>
 Bn P .geq 3 true t7 (.int .i64 0) w fun t8 w =>
 R (.returned t8) w
theorem e_slices_ContainsFunc_int_int (h : s_slices_ContainsFunc_int_int Tryz.prog t0 t1 w R) : Calls Tryz.prog 69 #[t0, t1] w R :=
 en1 (.sq .z (.sq .z .z)) [t0, t1] Tryz.func69 (by kernel_rfl) (by kernel_rfl) h
theorem n_slices_ContainsFunc_int_int : Enters Tryz.prog 69 := enters_of Tryz.func69 (by kernel_rfl) rfl
def s_contract_month_1 (P : Program) (t0 : Value) (w : World) (R : Ending → World → Prop) : Prop :=
 Cl P 44 #[t0, (.int .i64 0), (.int .i64 4398046511104)] w (Pk R) fun t4 w =>
 Un P .not t4 w fun t5 w =>
 R (.returned t5) w
theorem e_contract_month_1 (h : s_contract_month_1 Tryz.prog t0 w R) : Calls Tryz.prog 70 #[t0] w R :=
 en1 (.sq .z (.sq .z .z)) [t0] Tryz.func70 (by kernel_rfl) (by kernel_rfl) h
theorem n_contract_month_1 : Enters Tryz.prog 70 := enters_of Tryz.func70 (by kernel_rfl) rfl
def s_ref04_Valid (P : Program) (t0 : Value) (w : World) (R : Ending → World → Prop) : Prop :=
 Bx P 23 t0 w fun t1 w =>
 Fa P 23 t1 0 w fun t7 w =>
 Ld P 9 t7 w fun t8 w =>
 Cl P 101 #[t8] w (Pk R) fun t9 w =>
 Fa P 23 t1 1 w fun t10 w =>
 Ld P 9 t10 w fun t11 w =>
 Cl P 101 #[t11] w (Pk R) fun t12 w =>
 Un P .not t9 w fun t14 w =>
 Gd t14 false (fun k => k t12 w) w fun t16 w =>
 Gd t14 false (fun k => Un P .not t16 w k) w fun t17 w =>
 Pick t14 (.bool true) t17 w fun t18 w =>
 Gd t18 false (fun k => Fa P 23 t1 1 w k) w fun t20 w =>
 Gd t18 false (fun k => Ld P 9 t20 w k) w fun t21 w =>
 Gd t18 false (fun k => Cl P 83 #[t21, (str [48])] w (Pk R) k) w fun t22 w =>
 Gd t18 false (fun k => Bn P .leq 3 true t22 (.int .i64 0) w k) w fun t23 w =>
 Pick t18 (.bool true) t23 w fun t24 w =>
 If t24
 (R (.returned (.bool false)) w)
 (Fa P 23 t1 0 w fun t26 w =>
 Ld P 9 t26 w fun t27 w =>
 Fa P 23 t1 1 w fun t28 w =>
 Ld P 9 t28 w fun t29 w =>
 Cl P 102 #[t27, t29] w (Pk R) fun t30 w =>
 Ex t30 0 w fun t31 w =>
 Ex t30 1 w fun t32 w =>
 Bn P .eql 39 true t32 (.int .i64 0) w fun t34 w =>
 Gd t34 true (fun k => k t31 w) w fun t36 w =>
 Gd t34 true (fun k => Bn P .eql 9 true t36 (str [49]) w k) w fun t37 w =>
 Pick t34 t37 (.bool false) w fun t38 w =>
 R (.returned t38) w)
theorem e_ref04_Valid (h : s_ref04_Valid Tryz.prog t0 w R) : Calls Tryz.prog 71 #[t0] w R :=
 en1 (.sq .z (.sq .z (.sq .z (.sq (.sq .z (.cd (.sq .z .z) .z)) (.sq .z (.sq .z .z)))))) [t0] Tryz.func71 (by kernel_rfl) (by kernel_rfl) h
theorem n_ref04_Valid : Enters Tryz.prog 71 := enters_of Tryz.func71 (by kernel_rfl) rfl
def s_ref03_Mul (P : Program) (t0 t1 : Value) (w : World) (R : Ending → World → Prop) : Prop :=
 Cl P 101 #[t0] w (Pk R) fun t11 w =>
 Un P .not t11 w fun t12 w =>
 Gd t12 false (fun k => k t1 w) w fun t14 w =>
 Gd t12 false (fun k => Cl P 101 #[t14] w (Pk R) k) w fun t15 w =>
 Gd t12 false (fun k => Un P .not t15 w k) w fun t16 w =>
 Pick t12 (.bool true) t16 w fun t17 w =>
 If t17
 (R (.returned (.tuple #[(str []), (.int .i64 30)])) w)
 (Cl P 103 #[t0] w (Pk R) fun t20 w =>
 Ex t20 0 w fun t21 w =>
 Ex t20 1 w fun t22 w =>
 Cl P 103 #[t1] w (Pk R) fun t25 w =>
 Ex t25 0 w fun t26 w =>
 Ex t25 1 w fun t27 w =>
 Bn P .neq 4 false t21 t26 w fun t30 w =>
 Cl P 105 #[t22, t27] w (Pk R) fun t33 w =>
 Cl P 104 #[t30, t33] w (Pk R) fun t34 w =>
 Ex t34 0 w fun t35 w =>
 Ex t34 1 w fun t36 w =>
 R (.returned (.tuple #[t35, t36])) w)
theorem e_ref03_Mul (h : s_ref03_Mul Tryz.prog t0 t1 w R) : Calls Tryz.prog 72 #[t0, t1] w R :=
 en1 (.sq .z (.sq (.sq .z (.cd (.sq .z .z) .z)) (.sq .z (.sq .z (.sq .z .z))))) [t0, t1] Tryz.func72 (by kernel_rfl) (by kernel_rfl) h
theorem n_ref03_Mul : Enters Tryz.prog 72 := enters_of Tryz.func72 (by kernel_rfl) rfl
def s_ref04_Make (P : Program) (t0 t1 : Value) (w : World) (R : Ending → World → Prop) : Prop :=
 Al P 23 w fun t4 w =>
 Cl P 101 #[t0] w (Pk R) fun t17 w =>
 Cl P 101 #[t1] w (Pk R) fun t19 w =>
 Un P .not t17 w fun t21 w =>
 Gd t21 false (fun k => k t19 w) w fun t23 w =>
 Gd t21 false (fun k => Un P .not t23 w k) w fun t24 w =>
 Pick t21 (.bool true) t24 w fun t25 w =>
 Gd t25 false (fun k => k t1 w) w fun t27 w =>
 Gd t25 false (fun k => Bn P .eql 9 true t27 (str [48]) w k) w fun t28 w =>
 Pick t25 (.bool true) t28 w fun t29 w =>
 If t29
 (Bd P 23 [] w fun t30 w =>
 Sto P 23 t4 t30 w fun w =>
 Rc P 23 t4 w fun r0 =>
 R (.returned (.tuple #[r0, (.int .i64 40)])) w)
 (Jn2 (fun k1 =>
 Cl P 83 #[t1, (str [48])] w (Pk R) fun t32 w =>
 Bn P .lss 3 true t32 (.int .i64 0) w fun t33 w =>
 If t33
 (Cl P 81 #[(str [48]), t0] w (Pk R) fun t36 w =>
 Ex t36 0 w fun t37 w =>
 Ex t36 1 w fun t38 w =>
 Cl P 81 #[(str [48]), t1] w (Pk R) fun t41 w =>
 Ex t41 0 w fun t42 w =>
 Ex t41 1 w fun t43 w =>
 k1 t37 t42 w)
 (k1 t0 t1 w))
 (fun t0x1 t1x1 w =>
 Cl P 102 #[t0x1, t1x1] w (Pk R) fun t47 w =>
 Ex t47 0 w fun t48 w =>
 Ex t47 1 w fun t49 w =>
 Cl P 82 #[t0x1, t48] w (Pk R) fun t53 w =>
 Ex t53 0 w fun t54 w =>
 Ex t53 1 w fun t55 w =>
 Ex t53 2 w fun t56 w =>
 Cl P 82 #[t1x1, t48] w (Pk R) fun t60 w =>
 Ex t60 0 w fun t61 w =>
 Ex t60 1 w fun t62 w =>
 Ex t60 2 w fun t63 w =>
 Bn P .neq 39 true t56 (.int .i64 0) w fun t65 w =>
 Gd t65 false (fun k => k t63 w) w fun t67 w =>
 Gd t65 false (fun k => Bn P .neq 39 true t67 (.int .i64 0) w k) w fun t68 w =>
 Pick t65 (.bool true) t68 w fun t69 w =>
 If t69
 (Bd P 23 [] w fun t70 w =>
 Sto P 23 t4 t70 w fun w =>
 Rc P 23 t4 w fun r0 =>
 R (.returned (.tuple #[r0, (.int .i64 40)])) w)
 (Bd P 23 [(0, t54), (1, t61)] w fun t73 w =>
 Sto P 23 t4 t73 w fun w =>
 Rc P 23 t4 w fun r0 =>
 R (.returned (.tuple #[r0, (.int .i64 0)])) w)))
theorem e_ref04_Make (h : s_ref04_Make Tryz.prog t0 t1 w R) : Calls Tryz.prog 73 #[t0, t1] w R :=
 en1 (.sq .z (.sq .z (.sq .z (.sq (.sq .z (.cd (.sq .z .z) .z)) (.jn [0, 1] [31, 32, 33, 34, 35, 36, 37, 38, 39, 40, 41, 42, 43] (.sq .z (.cd (.sq .z .z) .z)) (.sq .z (.sq .z (.sq .z (.sq (.sq .z (.cd (.sq .z .z) .z)) (.sq .z .z)))))))))) [t0, t1] Tryz.func73 (by kernel_rfl) (by kernel_rfl) h
theorem n_ref04_Make : Enters Tryz.prog 73 := enters_of Tryz.func73 (by kernel_rfl) rfl
theorem n_strings_HasPrefix : Enters Tryz.prog 74 := enters_of Tryz.func74 (by kernel_rfl) rfl
def s_rational_Make (P : Program) (t0 t1 : Value) (w : World) (R : Ending → World → Prop) : Prop :=
 Al P 23 w fun t4 w =>
 Cl P 93 #[t0] w (Pk R) fun t8 w =>
 Un P .not t8 w fun t9 w =>
 Gd t9 false (fun k => k t1 w) w fun t11 w =>
 Gd t9 false (fun k => Cl P 93 #[t11] w (Pk R) k) w fun t12 w =>
 Gd t9 false (fun k => Un P .not t12 w k) w fun t13 w =>
 Pick t9 (.bool true) t13 w fun t14 w =>
 Bd P 88 [(0, t14)] w fun t15 w =>
 Bx P 88 t15 w fun t16 w =>
 Cl P 61 #[t16, t0, t1] w (Pk R) fun t20 w =>
 Ex t20 0 w fun t21 w =>
 Ex t20 1 w fun t22 w =>
 Sto P 23 t4 t21 w fun w =>
 Rc P 23 t4 w fun r0 =>
 R (.returned (.tuple #[r0, t22])) w
theorem e_rational_Make (h : s_rational_Make Tryz.prog t0 t1 w R) : Calls Tryz.prog 75 #[t0, t1] w R :=
 en1 (.sq .z (.sq .z (.sq .z .z))) [t0, t1] Tryz.func75 (by kernel_rfl) (by kernel_rfl) h
theorem n_rational_Make : Enters Tryz.prog 75 := enters_of Tryz.func75 (by kernel_rfl) rfl
def s_integer_FromInt (P : Program) (t0 : Value) (w : World) (R : Ending → World → Prop) : Prop :=
 Cl P 107 #[t0] w (Pk R) fun t4 w =>
 R (.returned t4) w
theorem e_integer_FromInt (h : s_integer_FromInt Tryz.prog t0 w R) : Calls Tryz.prog 76 #[t0] w R :=
 en1 (.sq .z (.sq .z .z)) [t0] Tryz.func76 (by kernel_rfl) (by kernel_rfl) h
theorem n_integer_FromInt : Enters Tryz.prog 76 := enters_of Tryz.func76 (by kernel_rfl) rfl
def s_rational_Down (P : Program) (t0 t1 : Value) (w : World) (R : Ending → World → Prop) : Prop :=
 Bx P 23 t0 w fun t2 w =>
 Al P 23 w fun t4 w =>
 Ld P 23 t2 w fun t6 w =>
 Cl P 108 #[t6, t1, (.bool false)] w (Pk R) fun t8 w =>
 Ex t8 0 w fun t9 w =>
 Ex t8 1 w fun t10 w =>
 Sto P 23 t4 t9 w fun w =>
 Rc P 23 t4 w fun r0 =>
 R (.returned (.tuple #[r0, t10])) w
theorem e_rational_Down (h : s_rational_Down Tryz.prog t0 t1 w R) : Calls Tryz.prog 77 #[t0, t1] w R :=
 en1 (.sq .z (.sq .z .z)) [t0, t1] Tryz.func77 (by kernel_rfl) (by kernel_rfl) h
theorem n_rational_Down : Enters Tryz.prog 77 := enters_of Tryz.func77 (by kernel_rfl) rfl
def s_slices_stableCmpFunc_int (P : Program) (t0 t1 t2 : Value) (w : World) (R : Ending → World → Prop) : Prop :=
 Lp2 (.int .i64 0) (.int .i64 20) w (fun t7 t8 w k1 =>
 Bn P .leq 3 false t8 t1 w fun t13 w =>
 If t13
 (Cl P 109 #[t0, t7, t8, t2] w (Pk R) fun t18 w =>
 Bn P .add 3 false t8 (.int .i64 20) w fun t22 w =>
 k1 t8 t22 w)
 (Cl P 109 #[t0, t7, t1, t2] w (Pk R) fun t27 w =>
 Lp1 (.int .i64 20) w (fun t6 w k2 =>
 Bn P .lss 3 false t6 t1 w fun t30 w =>
 If t30
 (Bn P .mul 3 true (.int .i64 2) t6 w fun t32 w =>
 Lp2 (.int .i64 0) t32 w (fun t7x1 t8x1 w k3 =>
 Bn P .leq 3 false t8x1 t1 w fun t35 w =>
 If t35
 (Bn P .add 3 false t7x1 t6 w fun t40 w =>
 Cl P 110 #[t0, t7x1, t40, t8x1, t2] w (Pk R) fun t43 w =>
 Bn P .mul 3 true (.int .i64 2) t6 w fun t47 w =>
 Bn P .add 3 false t8x1 t47 w fun t48 w =>
 k3 t8x1 t48 w)
 (Bn P .add 3 false t7x1 t6 w fun t51 w =>
 Bn P .lss 3 false t51 t1 w fun t54 w =>
 If t54
 (Cl P 110 #[t0, t7x1, t51, t1, t2] w (Pk R) fun t60 w =>
 Bn P .mul 3 true t6 (.int .i64 2) w fun t62 w =>
 k2 t62 w)
 (Bn P .mul 3 true t6 (.int .i64 2) w fun t62x1 w =>
 k2 t62x1 w))))
 (R (.returned (.tuple #[])) w))))
theorem e_slices_stableCmpFunc_int (h : s_slices_stableCmpFunc_int Tryz.prog t0 t1 t2 w R) : Calls Tryz.prog 78 #[t0, t1, t2] w R :=
 en1 (.sq .z (.sq .z (.sq (.bk (.lp [7, 8] [11, 12, 13, 14, 15, 16, 17, 18, 19, 20, 21, 22] (.sq (.sq .z (.cd .z .z)) (.bk (.sq .z (.sq .z .z)))))) (.sq .z (.bk (.lp [6] [7, 8, 9, 28, 29, 30, 31, 32, 33, 34, 35, 36, 37, 38, 39, 40, 41, 42, 43, 44, 45, 46, 47, 48, 49, 50, 51, 52, 53, 54, 55, 56, 57, 58, 59, 60, 61, 62] (.sq (.sq .z (.cd .z .z)) (.bk (.sq .z (.sq (.bk (.lp [7, 8] [33, 34, 35, 36, 37, 38, 39, 40, 41, 42, 43, 44, 45, 46, 47, 48] (.sq (.sq .z (.cd .z .z)) (.bk (.sq .z (.sq .z .z)))))) (.sq (.sq .z (.sq .z (.cd .z .z))) .z))))))))))) [t0, t1, t2] Tryz.func78 (by kernel_rfl) (by kernel_rfl) h
theorem n_slices_stableCmpFunc_int : Enters Tryz.prog 78 := enters_of Tryz.func78 (by kernel_rfl) rfl
def s_ref04_Add (P : Program) (t0 t1 : Value) (w : World) (R : Ending → World → Prop) : Prop :=
 Bx P 23 t0 w fun t2 w =>
 Bx P 23 t1 w fun t3 w =>
 Al P 23 w fun t4 w =>
 Ld P 23 t2 w fun t13 w =>
 Ld P 23 t3 w fun t14 w =>
 Cl P 80 #[t13, t14] w (Pk R) fun t15 w =>
 Ex t15 0 w fun t16 w =>
 Ex t15 1 w fun t17 w =>
 Ex t15 2 w fun t18 w =>
 Ex t15 3 w fun t19 w =>
 Un P .not t19 w fun t21 w =>
 If t21
 (Bd P 23 [] w fun t22 w =>
 Sto P 23 t4 t22 w fun w =>
 Rc P 23 t4 w fun r0 =>
 R (.returned (.tuple #[r0, (.int .i64 40)])) w)
 (Cl P 111 #[t16, t17] w (Pk R) fun t26 w =>
 Ex t26 0 w fun t27 w =>
 Ex t26 1 w fun t28 w =>
 Bn P .neq 39 true t28 (.int .i64 0) w fun t30 w =>
 If t30
 (Bd P 23 [] w fun t31 w =>
 Sto P 23 t4 t31 w fun w =>
 Rc P 23 t4 w fun r0 =>
 R (.returned (.tuple #[r0, (.int .i64 40)])) w)
 (Cl P 73 #[t27, t18] w (Pk R) fun t34 w =>
 Ex t34 0 w fun t35 w =>
 Ex t34 1 w fun t36 w =>
 Sto P 23 t4 t35 w fun w =>
 Rc P 23 t4 w fun r0 =>
 R (.returned (.tuple #[r0, t36])) w))
theorem e_ref04_Add (h : s_ref04_Add Tryz.prog t0 t1 w R) : Calls Tryz.prog 79 #[t0, t1] w R :=
 en1 (.sq .z (.sq .z (.sq (.sq .z (.cd (.sq .z .z) .z)) (.sq .z (.sq (.sq .z (.cd (.sq .z .z) .z)) (.sq .z .z)))))) [t0, t1] Tryz.func79 (by kernel_rfl) (by kernel_rfl) h
theorem n_ref04_Add : Enters Tryz.prog 79 := enters_of Tryz.func79 (by kernel_rfl) rfl
def s_ref04_cross (P : Program) (t0 t1 : Value) (w : World) (R : Ending → World → Prop) : Prop :=
 Bx P 23 t0 w fun t2 w =>
 Bx P 23 t1 w fun t3 w =>
 Ld P 23 t2 w fun t16 w =>
 Cl P 71 #[t16] w (Pk R) fun t17 w =>
 Ld P 23 t3 w fun t18 w =>
 Cl P 71 #[t18] w (Pk R) fun t19 w =>
 Un P .not t17 w fun t21 w =>
 Gd t21 false (fun k => k t19 w) w fun t23 w =>
 Gd t21 false (fun k => Un P .not t23 w k) w fun t24 w =>
 Pick t21 (.bool true) t24 w fun t25 w =>
 If t25
 (R (.returned (.tuple #[(str []), (str []), (str []), (.bool false)])) w)
 (Fa P 23 t2 0 w fun t27 w =>
 Ld P 9 t27 w fun t28 w =>
 Fa P 23 t3 1 w fun t29 w =>
 Ld P 9 t29 w fun t30 w =>
 Cl P 72 #[t28, t30] w (Pk R) fun t31 w =>
 Ex t31 0 w fun t32 w =>
 Ex t31 1 w fun t33 w =>
 Fa P 23 t3 0 w fun t35 w =>
 Ld P 9 t35 w fun t36 w =>
 Fa P 23 t2 1 w fun t37 w =>
 Ld P 9 t37 w fun t38 w =>
 Cl P 72 #[t36, t38] w (Pk R) fun t39 w =>
 Ex t39 0 w fun t40 w =>
 Ex t39 1 w fun t41 w =>
 Fa P 23 t2 1 w fun t43 w =>
 Ld P 9 t43 w fun t44 w =>
 Fa P 23 t3 1 w fun t45 w =>
 Ld P 9 t45 w fun t46 w =>
 Cl P 72 #[t44, t46] w (Pk R) fun t47 w =>
 Ex t47 0 w fun t48 w =>
 Ex t47 1 w fun t49 w =>
 Bn P .eql 39 true t33 (.int .i64 0) w fun t54 w =>
 Gd t54 true (fun k => k t41 w) w fun t56 w =>
 Gd t54 true (fun k => Bn P .eql 39 true t56 (.int .i64 0) w k) w fun t57 w =>
 Pick t54 t57 (.bool false) w fun t58 w =>
 Gd t58 true (fun k => k t49 w) w fun t60 w =>
 Gd t58 true (fun k => Bn P .eql 39 true t60 (.int .i64 0) w k) w fun t61 w =>
 Pick t58 t61 (.bool false) w fun t62 w =>
 R (.returned (.tuple #[t32, t40, t48, t62])) w)
theorem e_ref04_cross (h : s_ref04_cross Tryz.prog t0 t1 w R) : Calls Tryz.prog 80 #[t0, t1] w R :=
 en1 (.sq .z (.sq .z (.sq .z (.sq (.sq .z (.cd (.sq .z .z) .z)) (.sq .z (.sq .z (.sq .z (.sq .z .z)))))))) [t0, t1] Tryz.func80 (by kernel_rfl) (by kernel_rfl) h
theorem n_ref04_cross : Enters Tryz.prog 80 := enters_of Tryz.func80 (by kernel_rfl) rfl
def s_ref03_Sub (P : Program) (t0 t1 : Value) (w : World) (R : Ending → World → Prop) : Prop :=
 Cl P 101 #[t0] w (Pk R) fun t11 w =>
 Un P .not t11 w fun t12 w =>
 Gd t12 false (fun k => k t1 w) w fun t14 w =>
 Gd t12 false (fun k => Cl P 101 #[t14] w (Pk R) k) w fun t15 w =>
 Gd t12 false (fun k => Un P .not t15 w k) w fun t16 w =>
 Pick t12 (.bool true) t16 w fun t17 w =>
 If t17
 (R (.returned (.tuple #[(str []), (.int .i64 30)])) w)
 (Cl P 103 #[t0] w (Pk R) fun t20 w =>
 Ex t20 0 w fun t21 w =>
 Ex t20 1 w fun t22 w =>
 Cl P 103 #[t1] w (Pk R) fun t25 w =>
 Ex t25 0 w fun t26 w =>
 Ex t25 1 w fun t27 w =>
 Un P .not t26 w fun t31 w =>
 Cl P 112 #[t21, t22, t31, t27] w (Pk R) fun t33 w =>
 Ex t33 0 w fun t34 w =>
 Ex t33 1 w fun t35 w =>
 R (.returned (.tuple #[t34, t35])) w)
theorem e_ref03_Sub (h : s_ref03_Sub Tryz.prog t0 t1 w R) : Calls Tryz.prog 81 #[t0, t1] w R :=
 en1 (.sq .z (.sq (.sq .z (.cd (.sq .z .z) .z)) (.sq .z (.sq .z (.sq .z .z))))) [t0, t1] Tryz.func81 (by kernel_rfl) (by kernel_rfl) h
theorem n_ref03_Sub : Enters Tryz.prog 81 := enters_of Tryz.func81 (by kernel_rfl) rfl
def s_ref03_Div (P : Program) (t0 t1 : Value) (w : World) (R : Ending → World → Prop) : Prop :=
 Cl P 101 #[t0] w (Pk R) fun t18 w =>
 Un P .not t18 w fun t19 w =>
 Gd t19 false (fun k => k t1 w) w fun t21 w =>
 Gd t19 false (fun k => Cl P 101 #[t21] w (Pk R) k) w fun t22 w =>
 Gd t19 false (fun k => Un P .not t22 w k) w fun t23 w =>
 Pick t19 (.bool true) t23 w fun t24 w =>
 Gd t24 false (fun k => k t1 w) w fun t26 w =>
 Gd t24 false (fun k => Bn P .eql 9 true t26 (str [48]) w k) w fun t27 w =>
 Pick t24 (.bool true) t27 w fun t28 w =>
 If t28
 (R (.returned (.tuple #[(str []), (str []), (.int .i64 30)])) w)
 (Cl P 103 #[t0] w (Pk R) fun t31 w =>
 Ex t31 0 w fun t32 w =>
 Ex t31 1 w fun t33 w =>
 Cl P 103 #[t1] w (Pk R) fun t36 w =>
 Ex t36 0 w fun t37 w =>
 Ex t36 1 w fun t38 w =>
 Cl P 113 #[t33, t38] w (Pk R) fun t42 w =>
 Ex t42 0 w fun t43 w =>
 Ex t42 1 w fun t44 w =>
 Jn2 (fun k1 =>
 Gd t32 true (fun k => k t44 w) w fun t47 w =>
 Gd t32 true (fun k => Bt P .len #[27] 3 #[t47] w k) w fun t48 w =>
 Gd t32 true (fun k => Bn P .gtr 3 true t48 (.int .i64 0) w k) w fun t49 w =>
 Pick t32 t49 (.bool false) w fun t50 w =>
 If t50
 (Bs P 27 1 [(0, (.int .i64 1))] w fun t52 w =>
 Cl P 114 #[t43, t52] w (Pk R) fun t53 w =>
 Cl P 115 #[t38, t44] w (Pk R) fun t56 w =>
 k1 t53 t56 w)
 (k1 t43 t44 w))
 (fun t11 t12 w =>
 Bn P .neq 4 false t32 t37 w fun t60 w =>
 Cl P 104 #[t60, t11] w (Pk R) fun t62 w =>
 Ex t62 0 w fun t63 w =>
 Ex t62 1 w fun t64 w =>
 Cl P 99 #[(.bool false), t12] w (Pk R) fun t67 w =>
 Ex t67 0 w fun t68 w =>
 Ex t67 1 w fun t69 w =>
 Bn P .neq 39 true t64 (.int .i64 0) w fun t71 w =>
 If t71
 (R (.returned (.tuple #[(str []), (str []), t64])) w)
 (R (.returned (.tuple #[t63, t68, (.int .i64 0)])) w)))
theorem e_ref03_Div (h : s_ref03_Div Tryz.prog t0 t1 w R) : Calls Tryz.prog 82 #[t0, t1] w R :=
 en1 (.sq .z (.sq (.sq .z (.cd (.sq .z .z) .z)) (.sq .z (.sq .z (.sq .z (.jn [11, 12] [45, 46, 47, 48, 49, 50, 51, 52, 53, 54, 55, 56] (.sq .z (.cd (.sq .z .z) .z)) (.sq .z (.sq .z (.sq (.sq .z (.cd (.sq .z .z) .z)) (.sq .z .z)))))))))) [t0, t1] Tryz.func82 (by kernel_rfl) (by kernel_rfl) h
theorem n_ref03_Div : Enters Tryz.prog 82 := enters_of Tryz.func82 (by kernel_rfl) rfl
def s_ref03_Compare (P : Program) (t0 t1 : Value) (w : World) (R : Ending → World → Prop) : Prop :=
 Cl P 101 #[t0] w (Pk R) fun t10 w =>
 Un P .not t10 w fun t11 w =>
 Gd t11 false (fun k => k t1 w) w fun t13 w =>
 Gd t11 false (fun k => Cl P 101 #[t13] w (Pk R) k) w fun t14 w =>
 Gd t11 false (fun k => Un P .not t14 w k) w fun t15 w =>
 Pick t11 (.bool true) t15 w fun t16 w =>
 If t16
 (R (.returned (.int .i64 0)) w)
 (Cl P 103 #[t0] w (Pk R) fun t19 w =>
 Ex t19 0 w fun t20 w =>
 Ex t19 1 w fun t21 w =>
 Cl P 103 #[t1] w (Pk R) fun t24 w =>
 Ex t24 0 w fun t25 w =>
 Ex t24 1 w fun t26 w =>
 Bn P .neq 4 false t20 t25 w fun t29 w =>
 If t29
 (If t20
 (R (.returned (.int .i64 (-1))) w)
 (R (.returned (.int .i64 1)) w))
 (If t20
 (Cl P 116 #[t26, t21] w (Pk R) fun t34 w =>
 R (.returned t34) w)
 (Cl P 116 #[t21, t26] w (Pk R) fun t37 w =>
 R (.returned t37) w)))
theorem e_ref03_Compare (h : s_ref03_Compare Tryz.prog t0 t1 w R) : Calls Tryz.prog 83 #[t0, t1] w R :=
 en1 (.sq .z (.sq (.sq .z (.cd (.sq .z .z) .z)) (.sq .z (.sq .z (.sq (.sq .z (.cd (.sq (.sq .z (.cd (.sq .z .z) .z)) (.sq .z .z)) .z)) (.sq (.sq .z (.cd (.sq .z .z) .z)) (.sq .z .z))))))) [t0, t1] Tryz.func83 (by kernel_rfl) (by kernel_rfl) h
theorem n_ref03_Compare : Enters Tryz.prog 83 := enters_of Tryz.func83 (by kernel_rfl) rfl
def s_ref04_zeroOr (P : Program) (t0 : Value) (w : World) (R : Ending → World → Prop) : Prop :=
 Bn P .eql 9 true t0 (str [48]) w fun t4 w =>
 If t4
 (R (.returned t0) w)
 (R (.returned (str [49])) w)
theorem e_ref04_zeroOr (h : s_ref04_zeroOr Tryz.prog t0 w R) : Calls Tryz.prog 84 #[t0] w R :=
 en1 (.sq .z (.sq (.sq .z (.cd (.sq .z .z) .z)) (.sq .z .z))) [t0] Tryz.func84 (by kernel_rfl) (by kernel_rfl) h
theorem n_ref04_zeroOr : Enters Tryz.prog 84 := enters_of Tryz.func84 (by kernel_rfl) rfl
def s_integer_Add (P : Program) (t0 t1 : Value) (w : World) (R : Ending → World → Prop) : Prop :=
 Cl P 90 #[t0, t1] w (Pk R) fun t12 w =>
 Ex t12 0 w fun t13 w =>
 Ex t12 1 w fun t14 w =>
 Ex t12 2 w fun t15 w =>
 Al P 111 w fun t6 w =>
 Al P 111 w fun t7 w =>
 Sto P 111 t6 t13 w fun w =>
 Sto P 111 t7 t14 w fun w =>
 Un P .not t15 w fun t17 w =>
 If t17
 (R (.returned (.tuple #[(str []), (.int .i64 30)])) w)
 (Ld P 111 t6 w fun t18 w =>
 Ld P 111 t7 w fun t19 w =>
 Cl P 91 #[t18, t19] w (Pk R) fun t20 w =>
 Cl P 92 #[t20] w (Pk R) fun t21 w =>
 Ex t21 0 w fun t22 w =>
 Ex t21 1 w fun t23 w =>
 R (.returned (.tuple #[t22, t23])) w)
theorem e_integer_Add (h : s_integer_Add Tryz.prog t0 t1 w R) : Calls Tryz.prog 85 #[t0, t1] w R :=
 en1 (.sq .z (.sq .z (.sq (.sq .z (.cd (.sq .z .z) .z)) (.sq .z .z)))) [t0, t1] Tryz.func85 (by kernel_rfl) (by kernel_rfl) h
theorem n_integer_Add : Enters Tryz.prog 85 := enters_of Tryz.func85 (by kernel_rfl) rfl
def s_rational_work_do (P : Program) (t0 t1 t2 t3 : Value) (w : World) (R : Ending → World → Prop) : Prop :=
 Nc t0 w fun t12 w =>
 Fa P 88 t12 0 w fun t13 w =>
 Ld P 4 t13 w fun t14 w =>
 If t14
 (R (.returned (str [])) w)
 (Cw P t1 #[t2, t3] w (Pk R) fun t19 w =>
 Ex t19 0 w fun t20 w =>
 Ex t19 1 w fun t21 w =>
 Bn P .neq 39 true t21 (.int .i64 0) w fun t24 w =>
 Nc t0 w fun t25 w =>
 Fa P 88 t25 0 w fun t26 w =>
 Sto P 4 t26 t24 w fun w =>
 R (.returned t20) w)
theorem e_rational_work_do (h : s_rational_work_do Tryz.prog t0 t1 t2 t3 w R) : Calls Tryz.prog 86 #[t0, t1, t2, t3] w R :=
 en1 (.sq .z (.sq (.sq .z (.cd (.sq .z .z) .z)) (.sq .z (.sq .z (.sq .z .z))))) [t0, t1, t2, t3] Tryz.func86 (by kernel_rfl) (by kernel_rfl) h
theorem n_rational_work_do : Enters Tryz.prog 86 := enters_of Tryz.func86 (by kernel_rfl) rfl
def s_integer_Mul (P : Program) (t0 t1 : Value) (w : World) (R : Ending → World → Prop) : Prop :=
 Cl P 90 #[t0, t1] w (Pk R) fun t12 w =>
 Ex t12 0 w fun t13 w =>
 Ex t12 1 w fun t14 w =>
 Ex t12 2 w fun t15 w =>
 Al P 111 w fun t6 w =>
 Al P 111 w fun t7 w =>
 Sto P 111 t6 t13 w fun w =>
 Sto P 111 t7 t14 w fun w =>
 Un P .not t15 w fun t17 w =>
 If t17
 (R (.returned (.tuple #[(str []), (.int .i64 30)])) w)
 (dFl P 111 t6 0 w.drew fun t18 =>
 dL P 4 t18 w.drew fun t19 =>
 dFl P 111 t7 0 w.drew fun t20 =>
 dL P 4 t20 w.drew fun t21 =>
 Dv P true (bn .neq 4 false t19 t21) w.drew fun t22 =>
 dFl P 111 t6 1 w.drew fun t23 =>
 dL P 109 t23 w.drew fun t24 =>
 dFl P 111 t7 1 w.drew fun t25 =>
 dL P 109 t25 w.drew fun t26 =>
 Cl P 117 #[t24, t26] w.drew (Pk R) fun t27 w =>
 kLd P 4 t18 t19 w <|
 kLd P 4 t20 t21 w <|
 Dv P true (Instr.build 111 #[(0, t22), (1, t27)]) w fun t28 =>
 Cl P 92 #[t28] w (Pk R) fun t29 w =>
 ExP t29 0 fun t30 =>
 ExP t29 1 fun t31 =>
 R (.returned (.tuple #[t30, t31])) w)
theorem e_integer_Mul (h : s_integer_Mul Tryz.prog t0 t1 w R) : Calls Tryz.prog 87 #[t0, t1] w R :=
 en1 (.sq .z (.sq .z (.sq (.sq .z (.cd (.sq .z .z) .z)) (.sq (.dr (.pur true 0 (.pur false 1 (.pur true 2 (.pur false 3 (.pur true 4 (.pur true 5 (.pur false 6 (.pur true 7 (.pur false 8 (.eff 9 [1, 3] (.pur true 10 (.eff 11 [] (.pur true 12 (.pur true 13 (.pur true 14 (.pur true 15 .done))))))))))))))))) .z)))) [t0, t1] Tryz.func87 (by kernel_rfl) (by kernel_rfl) h
theorem n_integer_Mul : Enters Tryz.prog 87 := enters_of Tryz.func87 (by kernel_rfl) rfl
def s_integer_Gcd (P : Program) (t0 t1 : Value) (w : World) (R : Ending → World → Prop) : Prop :=
 Cl P 90 #[t0, t1] w (Pk R) fun t16 w =>
 Ex t16 0 w fun t17 w =>
 Ex t16 1 w fun t18 w =>
 Ex t16 2 w fun t19 w =>
 Al P 111 w fun t6 w =>
 Al P 111 w fun t7 w =>
 Sto P 111 t6 t17 w fun w =>
 Sto P 111 t7 t18 w fun w =>
 Un P .not t19 w fun t21 w =>
 If t21
 (R (.returned (.tuple #[(str []), (.int .i64 30)])) w)
 (dFl P 111 t6 1 w.drew fun t22 =>
 dL P 109 t22 w.drew fun t23 =>
 dFl P 111 t7 1 w.drew fun t24 =>
 dL P 109 t24 w.drew fun t25 =>
 Lp2 t23 t25 w.drew (fun t9 t10 w k1 =>
 Bt P .len #[109] 3 #[t10] w fun t27 w =>
 Bn P .gtr 3 true t27 (.int .i64 0) w fun t28 w =>
 If t28
 (Cl P 94 #[t9, t10] w (Pk R) fun t32 w =>
 Ex t32 0 w fun t33 w =>
 Ex t32 1 w fun t34 w =>
 k1 t10 t34 w)
 (Bd P 111 [(1, t9)] w fun t38 w =>
 Cl P 92 #[t38] w (Pk R) fun t39 w =>
 Ex t39 0 w fun t40 w =>
 Ex t39 1 w fun t41 w =>
 R (.returned (.tuple #[t40, t41])) w)))
theorem e_integer_Gcd (h : s_integer_Gcd Tryz.prog t0 t1 w R) : Calls Tryz.prog 88 #[t0, t1] w R :=
 en1 (.sq .z (.sq .z (.sq (.sq .z (.cd (.sq .z .z) .z)) (.sq (.dr (.pur true 0 (.pur false 1 (.pur true 2 (.pur false 3 (.pur true 4 (.pur true 5 .done))))))) (.sq (.bk (.lp [9, 10] [11, 12, 26, 27, 28, 29, 30, 31, 32, 33, 34, 35, 36] (.sq (.sq .z (.cd .z .z)) (.bk (.sq .z .z))))) (.sq .z .z)))))) [t0, t1] Tryz.func88 (by kernel_rfl) (by kernel_rfl) h
theorem n_integer_Gcd : Enters Tryz.prog 88 := enters_of Tryz.func88 (by kernel_rfl) rfl
def s_rational_work_quotient (P : Program) (t0 t1 t2 : Value) (w : World) (R : Ending → World → Prop) : Prop :=
 Cl P 86 #[t0, (.func (.func 118) #[] #[]), t1, t2] w (Pk R) fun t10 w =>
 R (.returned t10) w
theorem e_rational_work_quotient (h : s_rational_work_quotient Tryz.prog t0 t1 t2 w R) : Calls Tryz.prog 89 #[t0, t1, t2] w R :=
 en1 (.sq .z (.sq .z .z)) [t0, t1, t2] Tryz.func89 (by kernel_rfl) (by kernel_rfl) h
theorem n_rational_work_quotient : Enters Tryz.prog 89 := enters_of Tryz.func89 (by kernel_rfl) rfl
def s_integer_both (P : Program) (t0 t1 : Value) (w : World) (R : Ending → World → Prop) : Prop :=
 Al P 111 w fun t4 w =>
 Al P 111 w fun t5 w =>
 Cl P 119 #[t0] w (Pk R) fun t8 w =>
 Un P .not t8 w fun t9 w =>
 Gd t9 false (fun k => k t1 w) w fun t11 w =>
 Gd t9 false (fun k => Cl P 119 #[t11] w (Pk R) k) w fun t12 w =>
 Gd t9 false (fun k => Un P .not t12 w k) w fun t13 w =>
 Pick t9 (.bool true) t13 w fun t14 w =>
 If t14
 (Bd P 111 [] w fun t15 w =>
 Bd P 111 [] w fun t16 w =>
 Sto P 111 t4 t15 w fun w =>
 Sto P 111 t5 t16 w fun w =>
 Rc P 111 t4 w fun r0 =>
 Rc P 111 t5 w fun r1 =>
 R (.returned (.tuple #[r0, r1, (.bool false)])) w)
 (Cl P 120 #[t0] w (Pk R) fun t18 w =>
 Cl P 120 #[t1] w (Pk R) fun t20 w =>
 Sto P 111 t4 t18 w fun w =>
 Sto P 111 t5 t20 w fun w =>
 Rc P 111 t4 w fun r0 =>
 Rc P 111 t5 w fun r1 =>
 R (.returned (.tuple #[r0, r1, (.bool true)])) w)
theorem e_integer_both (h : s_integer_both Tryz.prog t0 t1 w R) : Calls Tryz.prog 90 #[t0, t1] w R :=
 en1 (.sq .z (.sq (.sq .z (.cd (.sq .z .z) .z)) (.sq .z .z))) [t0, t1] Tryz.func90 (by kernel_rfl) (by kernel_rfl) h
theorem n_integer_both : Enters Tryz.prog 90 := enters_of Tryz.func90 (by kernel_rfl) rfl
def s_integer_signed_plus (P : Program) (t0 t1 : Value) (w : World) (R : Ending → World → Prop) : Prop :=
 Bx P 111 t0 w fun t2 w =>
 Bx P 111 t1 w fun t3 w =>
 Al P 111 w fun t4 w =>
 Fa P 111 t2 0 w fun t6 w =>
 Ld P 4 t6 w fun t7 w =>
 Fa P 111 t3 0 w fun t8 w =>
 Ld P 4 t8 w fun t9 w =>
 Bn P .eql 4 false t7 t9 w fun t10 w =>
 If t10
 (dFl P 111 t2 0 w.drew fun t11 =>
 dL P 4 t11 w.drew fun t12 =>
 dFl P 111 t2 1 w.drew fun t13 =>
 dL P 109 t13 w.drew fun t14 =>
 dFl P 111 t3 1 w.drew fun t15 =>
 dL P 109 t15 w.drew fun t16 =>
 Cl P 95 #[t14, t16] w.drew (Pk R) fun t17 w =>
 kLd P 4 t11 t12 w <|
 Dv P true (Instr.build 111 #[(0, t12), (1, t17)]) w fun t18 =>
 Sto P 111 t4 t18 w fun w =>
 Rc P 111 t4 w fun r0 =>
 R (.returned r0) w)
 (Fa P 111 t2 1 w fun t20 w =>
 Ld P 109 t20 w fun t21 w =>
 Fa P 111 t3 1 w fun t22 w =>
 Ld P 109 t22 w fun t23 w =>
 Cl P 98 #[t21, t23] w (Pk R) fun t24 w =>
 Bn P .geq 3 true t24 (.int .i64 0) w fun t25 w =>
 If t25
 (dFl P 111 t2 0 w.drew fun t26 =>
 dL P 4 t26 w.drew fun t27 =>
 dFl P 111 t2 1 w.drew fun t28 =>
 dL P 109 t28 w.drew fun t29 =>
 dFl P 111 t3 1 w.drew fun t30 =>
 dL P 109 t30 w.drew fun t31 =>
 Cl P 97 #[t29, t31] w.drew (Pk R) fun t32 w =>
 kLd P 4 t26 t27 w <|
 Dv P true (Instr.build 111 #[(0, t27), (1, t32)]) w fun t33 =>
 Sto P 111 t4 t33 w fun w =>
 Rc P 111 t4 w fun r0 =>
 R (.returned r0) w)
 (dFl P 111 t3 0 w.drew fun t34 =>
 dL P 4 t34 w.drew fun t35 =>
 dFl P 111 t3 1 w.drew fun t36 =>
 dL P 109 t36 w.drew fun t37 =>
 dFl P 111 t2 1 w.drew fun t38 =>
 dL P 109 t38 w.drew fun t39 =>
 Cl P 97 #[t37, t39] w.drew (Pk R) fun t40 w =>
 kLd P 4 t34 t35 w <|
 Dv P true (Instr.build 111 #[(0, t35), (1, t40)]) w fun t41 =>
 Sto P 111 t4 t41 w fun w =>
 Rc P 111 t4 w fun r0 =>
 R (.returned r0) w))
theorem e_integer_signed_plus (h : s_integer_signed_plus Tryz.prog t0 t1 w R) : Calls Tryz.prog 91 #[t0, t1] w R :=
 en1 (.sq .z (.sq (.bk (.sq .z (.cd (.sq (.dr (.pur true 0 (.pur false 1 (.pur true 2 (.pur false 3 (.pur true 4 (.pur false 5 (.eff 6 [1] (.pur true 7 (.eff 8 [] .done)))))))))) .z) (.sq .z (.cd (.sq (.dr (.pur true 0 (.pur false 1 (.pur true 2 (.pur false 3 (.pur true 4 (.pur false 5 (.eff 6 [1] (.pur true 7 (.eff 8 [] .done)))))))))) .z) .z))))) (.sq (.dr (.pur true 0 (.pur false 1 (.pur true 2 (.pur false 3 (.pur true 4 (.pur false 5 (.eff 6 [1] (.pur true 7 (.eff 8 [] .done)))))))))) .z))) [t0, t1] Tryz.func91 (by kernel_rfl) (by kernel_rfl) h
theorem n_integer_signed_plus : Enters Tryz.prog 91 := enters_of Tryz.func91 (by kernel_rfl) rfl
def s_integer_signed_text (P : Program) (t0 : Value) (w : World) (R : Ending → World → Prop) : Prop :=
 Bx P 111 t0 w fun t1 w =>
 Fa P 111 t1 1 w fun t9 w =>
 Ld P 109 t9 w fun t10 w =>
 Bt P .len #[109] 3 #[t10] w fun t11 w =>
 Bn P .eql 3 true t11 (.int .i64 0) w fun t12 w =>
 If t12
 (R (.returned (.tuple #[(str [48]), (.int .i64 0)])) w)
 (Al P 140 w fun t4 w =>
 Fa P 111 t1 1 w fun t13 w =>
 Ld P 109 t13 w fun t14 w =>
 Cl P 121 #[t14] w (Pk R) fun t15 w =>
 Rf2 P t15 w (fun t16 t17 w next lv =>
 Cl P 107 #[t17] w (fun _ _ => False) fun t19 w =>
 Fa P 111 t1 1 w fun t21 w =>
 Ld P 109 t21 w fun t22 w =>
 Bt P .len #[109] 3 #[t22] w fun t23 w =>
 Bn P .sub 3 true t23 (.int .i64 1) w fun t24 w =>
 Bn P .lss 3 false t16 t24 w fun t25 w =>
 If t25
 (Bt P .len #[9] 3 #[t19] w fun t27 w =>
 Bn P .sub 3 true (.int .i64 4) t27 w fun t28 w =>
 Cl P 122 #[(str [48]), t28] w (fun _ _ => False) fun t29 w =>
 Bn P .add 9 false t29 t19 w fun t31 w =>
 Cl P 123 #[t4, t31] w (fun _ _ => False) fun t33 w =>
 next w)
 (Cl P 123 #[t4, t19] w (fun _ _ => False) fun t33x1 w =>
 next w))
 (fun D1 w =>
 Cl P 124 #[t4] w (fun c w => Tk P D1 w fun w => R (.panicked c) w) fun t34 w =>
 Bt P .len #[9] 3 #[t34] w fun t36 w =>
 Bn P .gtr 3 true t36 (.int .i64 200) w fun t37 w =>
 If t37
 (Tk P D1 w fun w =>
 R (.returned (.tuple #[(str []), (.int .i64 30)])) w)
 (Fa P 111 t1 0 w fun t38 w =>
 Ld P 4 t38 w fun t39 w =>
 If t39
 (Bn P .add 9 true (str [45]) t34 w fun t41 w =>
 Tk P D1 w fun w =>
 R (.returned (.tuple #[t41, (.int .i64 0)])) w)
 (Tk P D1 w fun w =>
 R (.returned (.tuple #[t34, (.int .i64 0)])) w)))
 (fun D1 w =>
 Tk P D1 w fun w =>
 R (.returned (.tuple #[(str []), (.int .i64 0)])) w) [])
theorem e_integer_signed_text (h : s_integer_signed_text Tryz.prog t0 w R) : Calls Tryz.prog 92 #[t0] w R :=
 en1 (.sq .z (.sq (.sq .z (.cd (.sq .z .z) .z)) (.sq .z (.sq (.sq .z (.bk (.rf (.bk (.sq .z (.sq (.sq .z (.cd .z .z)) .z))) []))) (.sq .z (.sq (.sq .z (.cd (.sq .z .z) .z)) (.sq (.sq .z (.cd (.sq .z .z) .z)) (.sq .z .z)))))))) [t0] Tryz.func92 (by kernel_rfl) (by kernel_rfl) h
theorem n_integer_signed_text : Enters Tryz.prog 92 := enters_of Tryz.func92 (by kernel_rfl) rfl
def s_integer_Valid (P : Program) (t0 : Value) (w : World) (R : Ending → World → Prop) : Prop :=
 Cl P 119 #[t0] w (Pk R) fun t4 w =>
 R (.returned t4) w
theorem e_integer_Valid (h : s_integer_Valid Tryz.prog t0 w R) : Calls Tryz.prog 93 #[t0] w R :=
 en1 (.sq .z (.sq .z .z)) [t0] Tryz.func93 (by kernel_rfl) (by kernel_rfl) h
theorem n_integer_Valid : Enters Tryz.prog 93 := enters_of Tryz.func93 (by kernel_rfl) rfl
def s_integer_number_over (P : Program) (t0 t1 : Value) (w : World) (R : Ending → World → Prop) : Prop :=
 Bx P 109 t1 w fun t3 w =>
 Al P 109 w fun t4 w =>
 Al P 109 w fun t5 w =>
 Bt P .len #[109] 3 #[t0] w fun t11 w =>
 Ms P 109 t11 t11 w fun t12 w =>
 Sto P 109 t4 t12 w fun w =>
 Cl P 121 #[t0] w (Pk R) fun t14 w =>
 Rf2 P t14 w (fun t15 t16 w next lv =>
 Bs P 109 1 [(0, t16)] w fun t18 w =>
 Ld P 109 t5 w fun t19 w =>
 Bt P .append #[109, 109] 109 #[t18, t19] w fun t20 w =>
 Cl P 125 #[t20] w (fun _ _ => False) fun t21 w =>
 Sto P 109 t5 t21 w fun w =>
 Ld P 109 t3 w fun t22 w =>
 Al P 150 w fun t8 w =>
 Sto P 150 t8 (.func (.func 126) #[t22] #[]) w fun w =>
 dL P 109 t4 w.drew fun t25 =>
 Cl P 128 #[(.int .i64 9999), (.func (.func 127) #[] #[t8, t5])] w.drew (fun _ _ => False) fun t28 w =>
 kLd P 109 t4 t25 w <|
 dIx P 109 t25 t15 w fun t29 =>
 Sto P 3 t29 t28 w fun w =>
 dL P 109 t5 w.drew fun t30 =>
 dL P 150 t8 w.drew fun t31 =>
 dL P 109 t4 w.drew fun t32 =>
 dIx P 109 t32 t15 w.drew fun t34 =>
 dL P 3 t34 w.drew fun t35 =>
 Cw P t31 #[t35] w.drew (fun _ _ => False) fun t36 w =>
 kLd P 109 t5 t30 w <|
 Cl P 97 #[t30, t36] w (fun _ _ => False) fun t37 w =>
 Sto P 109 t5 t37 w fun w =>
 next w)
 (fun D1 w =>
 dL P 109 t4 w.drew fun t38 =>
 dL P 109 t5 w.drew fun t40 =>
 Cl P 125 #[t38] w.drew (fun c w => Tk P D1 w fun w => R (.panicked c) w) fun t39 w =>
 kLd P 109 t5 t40 w <|
 Sto P 109 t4 t39 w fun w =>
 kLd P 109 t5 t40 w <|
 Sto P 109 t5 t40 w fun w =>
 Tk P D1 w fun w =>
 Rc P 109 t4 w fun r0 =>
 Rc P 109 t5 w fun r1 =>
 R (.returned (.tuple #[r0, r1])) w)
 (fun D1 w =>
 Tk P D1 w fun w =>
 Rc P 109 t4 w fun r0 =>
 Rc P 109 t5 w fun r1 =>
 R (.returned (.tuple #[r0, r1])) w) []
theorem e_integer_number_over (h : s_integer_number_over Tryz.prog t0 t1 w R) : Calls Tryz.prog 94 #[t0, t1] w R :=
 en1 (.sq .z (.sq .z (.sq (.sq .z (.bk (.rf (.bk (.sq .z (.sq .z (.sq .z (.sq (.dr (.pur false 0 (.pur true 1 (.pur true 2 (.eff 3 [0] (.pur true 4 (.eff 5 [] .done))))))) (.dr (.pur false 0 (.pur false 1 (.pur false 2 (.pur true 3 (.pur true 4 (.pur false 5 (.eff 6 [0] (.eff 7 [] (.eff 8 [] .done))))))))))))))) []))) (.sq (.dr (.pur false 0 (.pur false 2 (.eff 1 [2] (.eff 3 [2] (.eff 4 [] .done)))))) .z)))) [t0, t1] Tryz.func94 (by kernel_rfl) (by kernel_rfl) h
theorem n_integer_number_over : Enters Tryz.prog 94 := enters_of Tryz.func94 (by kernel_rfl) rfl
def s_integer_number_plus (P : Program) (t0 t1 : Value) (w : World) (R : Ending → World → Prop) : Prop :=
 Bx P 109 t0 w fun t2 w =>
 Bx P 109 t1 w fun t3 w =>
 Ld P 109 t2 w fun t5 w =>
 Bt P .len #[109] 3 #[t5] w fun t6 w =>
 Ld P 109 t3 w fun t7 w =>
 Bt P .len #[109] 3 #[t7] w fun t8 w =>
 Bt P .max #[3, 3] 3 #[t6, t8] w fun t9 w =>
 Cl P 129 #[t9, (.int .i64 0), (.func (.func 130) #[] #[t2, t3])] w (Pk R) fun t11 w =>
 Cl P 125 #[t11] w (Pk R) fun t12 w =>
 R (.returned t12) w
theorem e_integer_number_plus (h : s_integer_number_plus Tryz.prog t0 t1 w R) : Calls Tryz.prog 95 #[t0, t1] w R :=
 en1 (.sq .z (.sq .z .z)) [t0, t1] Tryz.func95 (by kernel_rfl) (by kernel_rfl) h
theorem n_integer_number_plus : Enters Tryz.prog 95 := enters_of Tryz.func95 (by kernel_rfl) rfl
def s_integer_one (P : Program) (w : World) (R : Ending → World → Prop) : Prop :=
 Bs P 109 1 [(0, (.int .i64 1))] w fun t1 w =>
 R (.returned t1) w
theorem e_integer_one (h : s_integer_one Tryz.prog  w R) : Calls Tryz.prog 96 #[] w R :=
 en1 (.sq .z (.sq .z .z)) [] Tryz.func96 (by kernel_rfl) (by kernel_rfl) h
theorem n_integer_one : Enters Tryz.prog 96 := enters_of Tryz.func96 (by kernel_rfl) rfl
def s_integer_number_minus (P : Program) (t0 t1 : Value) (w : World) (R : Ending → World → Prop) : Prop :=
 Bx P 109 t0 w fun t2 w =>
 Bx P 109 t1 w fun t3 w =>
 Ld P 109 t2 w fun t5 w =>
 Bt P .len #[109] 3 #[t5] w fun t6 w =>
 Cl P 129 #[t6, (.int .i64 0), (.func (.func 132) #[] #[t2, t3])] w (Pk R) fun t8 w =>
 Cl P 125 #[t8] w (Pk R) fun t9 w =>
 R (.returned t9) w
theorem e_integer_number_minus (h : s_integer_number_minus Tryz.prog t0 t1 w R) : Calls Tryz.prog 97 #[t0, t1] w R :=
 en1 (.sq .z (.sq .z .z)) [t0, t1] Tryz.func97 (by kernel_rfl) (by kernel_rfl) h
theorem n_integer_number_minus : Enters Tryz.prog 97 := enters_of Tryz.func97 (by kernel_rfl) rfl
def s_integer_number_compare (P : Program) (t0 t1 : Value) (w : World) (R : Ending → World → Prop) : Prop :=
 Bx P 109 t1 w fun t3 w =>
 Al P 3 w fun t4 w =>
 Bt P .len #[109] 3 #[t0] w fun t8 w =>
 Ld P 109 t3 w fun t9 w =>
 Bt P .len #[109] 3 #[t9] w fun t10 w =>
 Bn P .neq 3 false t8 t10 w fun t11 w =>
 If t11
 (Bt P .len #[109] 3 #[t0] w fun t13 w =>
 Ld P 109 t3 w fun t14 w =>
 Bt P .len #[109] 3 #[t14] w fun t15 w =>
 Cl P 133 #[t13, t15] w (Pk R) fun t16 w =>
 Sto P 3 t4 t16 w fun w =>
 Rc P 3 t4 w fun r0 =>
 R (.returned r0) w)
 (Cl P 121 #[t0] w (Pk R) fun t18 w =>
 Rf2 P t18 w (fun t19 t20 w next lv =>
 Ld P 109 t3 w fun t22 w =>
 Ia P 109 t22 t19 w fun t24 w =>
 Ld P 3 t24 w fun t25 w =>
 Bn P .neq 3 false t20 t25 w fun t26 w =>
 If t26
 (Ld P 109 t3 w fun t28 w =>
 Ia P 109 t28 t19 w fun t30 w =>
 Ld P 3 t30 w fun t31 w =>
 Cl P 133 #[t20, t31] w (fun _ _ => False) fun t32 w =>
 Sto P 3 t4 t32 w fun w =>
 lv .ret w)
 (next w))
 (fun D1 w =>
 Sto P 3 t4 (.int .i64 0) w fun w =>
 Tk P D1 w fun w =>
 Rc P 3 t4 w fun r0 =>
 R (.returned r0) w)
 (fun D1 w =>
 Tk P D1 w fun w =>
 Rc P 3 t4 w fun r0 =>
 R (.returned r0) w) [])
theorem e_integer_number_compare (h : s_integer_number_compare Tryz.prog t0 t1 w R) : Calls Tryz.prog 98 #[t0, t1] w R :=
 en1 (.sq .z (.sq (.sq .z (.cd (.sq .z .z) .z)) (.sq (.sq .z (.bk (.rf (.bk (.sq .z (.cd (.sq .z .z) .z))) []))) (.sq .z .z)))) [t0, t1] Tryz.func98 (by kernel_rfl) (by kernel_rfl) h
theorem n_integer_number_compare : Enters Tryz.prog 98 := enters_of Tryz.func98 (by kernel_rfl) rfl
def s_ref03_text (P : Program) (t0 t1 : Value) (w : World) (R : Ending → World → Prop) : Prop :=
 Bt P .len #[27] 3 #[t1] w fun t9 w =>
 Bn P .eql 3 true t9 (.int .i64 0) w fun t10 w =>
 If t10
 (R (.returned (.tuple #[(str [48]), (.bool true)])) w)
 (Jn1 (fun k1 =>
 If t0
 (Bs P 138 1 [(0, (.int .u8 45))] w fun t13 w =>
 Bt P .append #[138, 138] 138 #[(.slice none 0 0), t13] w fun t14 w =>
 k1 t14 w)
 (k1 (.slice none 0 0) w))
 (fun t6 w =>
 Bt P .len #[27] 3 #[t1] w fun t16 w =>
 Bn P .sub 3 true t16 (.int .i64 1) w fun t17 w =>
 Lp2 t6 t17 w (fun t6x1 t7 w k2 =>
 Bn P .geq 3 true t7 (.int .i64 0) w fun t19 w =>
 If t19
 (Ia P 27 t1 t7 w fun t25 w =>
 Ld P 3 t25 w fun t26 w =>
 Bn P .add 3 true (.int .i64 48) t26 w fun t27 w =>
 Cv P 3 5 t27 w fun t28 w =>
 Bs P 138 1 [(0, t28)] w fun t29 w =>
 Bt P .append #[138, 138] 138 #[t6x1, t29] w fun t30 w =>
 Bn P .sub 3 true t7 (.int .i64 1) w fun t21 w =>
 k2 t30 t21 w)
 (Cv P 138 9 t6x1 w fun t32 w =>
 Bt P .len #[27] 3 #[t1] w fun t34 w =>
 Bn P .leq 3 true t34 (.int .i64 200) w fun t35 w =>
 R (.returned (.tuple #[t32, t35])) w))))
theorem e_ref03_text (h : s_ref03_text Tryz.prog t0 t1 w R) : Calls Tryz.prog 99 #[t0, t1] w R :=
 en1 (.sq .z (.sq (.sq .z (.cd (.sq .z .z) .z)) (.sq .z (.jn [6] [11, 12, 13, 14] (.sq .z (.cd .z .z)) (.sq (.sq .z (.bk (.lp [6, 7] [18, 19, 20, 21, 22, 23, 24, 25, 26, 27, 28, 29, 30] (.sq (.sq .z (.cd .z .z)) (.sq (.bk .z) .z))))) (.sq .z .z)))))) [t0, t1] Tryz.func99 (by kernel_rfl) (by kernel_rfl) h
theorem n_ref03_text : Enters Tryz.prog 99 := enters_of Tryz.func99 (by kernel_rfl) rfl
def s_slices_IndexFunc_int_int (P : Program) (t0 t1 : Value) (w : World) (R : Ending → World → Prop) : Prop :=
 Bt P .len #[27] 3 #[t0] w fun t7 w =>
 Lp1 (.int .i64 0) w (fun t8 w k1 =>
 Bn P .lss 3 false t8 t7 w fun t9 w =>
 If t9
 (Ia P 27 t0 t8 w fun t14 w =>
 Ld P 3 t14 w fun t15 w =>
 Cw P t1 #[t15] w (Pk R) fun t16 w =>
 If t16
 (R (.returned t8) w)
 (Bn P .add 3 true t8 (.int .i64 1) w fun t18 w =>
 k1 t18 w))
 (R (.returned (.int .i64 (-1))) w))
theorem e_slices_IndexFunc_int_int (h : s_slices_IndexFunc_int_int Tryz.prog t0 t1 w R) : Calls Tryz.prog 100 #[t0, t1] w R :=
 en1 (.sq .z (.sq (.sq .z (.bk (.lp [8] [4, 5, 9, 10, 11, 12, 13, 14, 15, 16, 17, 18] (.sq .z (.sq (.cd .z .z) (.sq (.bk (.sq .z (.sq .z (.cd (.sq .z .z) .z)))) .z)))))) (.sq .z .z))) [t0, t1] Tryz.func100 (by kernel_rfl) (by kernel_rfl) h
theorem n_slices_IndexFunc_int_int : Enters Tryz.prog 100 := enters_of Tryz.func100 (by kernel_rfl) rfl
def s_ref03_Valid (P : Program) (t0 : Value) (w : World) (R : Ending → World → Prop) : Prop :=
 Jn1 (fun k1 =>
 Bt P .len #[9] 3 #[t0] w fun t5 w =>
 Bn P .gtr 3 true t5 (.int .i64 0) w fun t6 w =>
 Gd t6 true (fun k => k t0 w) w fun t8 w =>
 Gd t6 true (fun k => Ix P 9 t8 (.int .i64 0) w k) w fun t9 w =>
 Gd t6 true (fun k => Bn P .eql 5 true t9 (.int .u8 45) w k) w fun t10 w =>
 Pick t6 t10 (.bool false) w fun t11 w =>
 If t11
 (Sc P 9 t0 (some (.int .i64 1)) none none w fun t13 w =>
 Bn P .eql 9 true t13 (str [48]) w fun t15 w =>
 If t15
 (R (.returned (.bool false)) w)
 (k1 t13 w))
 (k1 t0 w))
 (fun t0x1 w =>
 Lp1 (.int .i64 0) w (fun t3 w k2 =>
 Bt P .len #[9] 3 #[t0x1] w fun t18 w =>
 Bn P .lss 3 false t3 t18 w fun t19 w =>
 If t19
 (Ix P 9 t0x1 t3 w fun t24 w =>
 Bn P .lss 5 true t24 (.int .u8 48) w fun t25 w =>
 Gd t25 false (fun k => k t0x1 w) w fun t27 w =>
 Gd t25 false (fun k => k t3 w) w fun t28 w =>
 Gd t25 false (fun k => Ix P 9 t27 t28 w k) w fun t29 w =>
 Gd t25 false (fun k => Bn P .gtr 5 true t29 (.int .u8 57) w k) w fun t30 w =>
 Pick t25 (.bool true) t30 w fun t31 w =>
 If t31
 (R (.returned (.bool false)) w)
 (Bn P .add 3 true t3 (.int .i64 1) w fun t21 w =>
 k2 t21 w))
 (Bt P .len #[9] 3 #[t0x1] w fun t33 w =>
 Bn P .gtr 3 true t33 (.int .i64 0) w fun t34 w =>
 Gd t34 true (fun k => k t0x1 w) w fun t36 w =>
 Gd t34 true (fun k => Bt P .len #[9] 3 #[t36] w k) w fun t37 w =>
 Gd t34 true (fun k => Bn P .leq 3 true t37 (.int .i64 200) w k) w fun t38 w =>
 Pick t34 t38 (.bool false) w fun t39 w =>
 Gd t39 true (fun k => k t0x1 w) w fun t41 w =>
 Gd t39 true (fun k => Bn P .eql 9 true t41 (str [48]) w k) w fun t42 w =>
 Gd t39 true (fun k => k t42 w) w fun t43 w =>
 Gd t43 false (fun k => k t0x1 w) w fun t44 w =>
 Gd t43 false (fun k => Ix P 9 t44 (.int .i64 0) w k) w fun t45 w =>
 Gd t43 false (fun k => Bn P .neq 5 true t45 (.int .u8 48) w k) w fun t46 w =>
 Gd t39 true (fun k => Pick t43 (.bool true) t46 w k) w fun t47 w =>
 Pick t39 t47 (.bool false) w fun t48 w =>
 R (.returned t48) w)))
theorem e_ref03_Valid (h : s_ref03_Valid Tryz.prog t0 w R) : Calls Tryz.prog 101 #[t0] w R :=
 en1 (.sq .z (.jn [0] [2, 4, 5, 6, 7, 8, 9, 10, 11, 12, 13, 14, 15] (.sq .z (.cd (.sq .z (.sq .z (.cd (.sq .z .z) .z))) .z)) (.sq (.sq .z (.bk (.lp [3] [2, 16, 17, 18, 19, 20, 21, 22, 23, 24, 25, 26, 27, 28, 29, 30, 31] (.sq (.sq .z (.cd .z .z)) (.sq (.bk (.sq .z (.cd (.sq .z .z) .z))) .z))))) (.sq .z .z)))) [t0] Tryz.func101 (by kernel_rfl) (by kernel_rfl) h
theorem n_ref03_Valid : Enters Tryz.prog 101 := enters_of Tryz.func101 (by kernel_rfl) rfl
def s_ref03_Gcd (P : Program) (t0 t1 : Value) (w : World) (R : Ending → World → Prop) : Prop :=
 Cl P 101 #[t0] w (Pk R) fun t13 w =>
 Un P .not t13 w fun t14 w =>
 Gd t14 false (fun k => k t1 w) w fun t16 w =>
 Gd t14 false (fun k => Cl P 101 #[t16] w (Pk R) k) w fun t17 w =>
 Gd t14 false (fun k => Un P .not t17 w k) w fun t18 w =>
 Pick t14 (.bool true) t18 w fun t19 w =>
 If t19
 (R (.returned (.tuple #[(str []), (.int .i64 30)])) w)
 (Cl P 103 #[t0] w (Pk R) fun t22 w =>
 Ex t22 0 w fun t23 w =>
 Ex t22 1 w fun t24 w =>
 Cl P 103 #[t1] w (Pk R) fun t27 w =>
 Ex t27 0 w fun t28 w =>
 Ex t27 1 w fun t29 w =>
 Lp2 t24 t29 w (fun t7 t9 w k1 =>
 Bt P .len #[27] 3 #[t9] w fun t31 w =>
 Bn P .gtr 3 true t31 (.int .i64 0) w fun t32 w =>
 If t32
 (Cl P 113 #[t7, t9] w (Pk R) fun t36 w =>
 Ex t36 0 w fun t37 w =>
 Ex t36 1 w fun t38 w =>
 k1 t9 t38 w)
 (Cl P 104 #[(.bool false), t7] w (Pk R) fun t42 w =>
 Ex t42 0 w fun t43 w =>
 Ex t42 1 w fun t44 w =>
 R (.returned (.tuple #[t43, t44])) w)))
theorem e_ref03_Gcd (h : s_ref03_Gcd Tryz.prog t0 t1 w R) : Calls Tryz.prog 102 #[t0, t1] w R :=
 en1 (.sq .z (.sq (.sq .z (.cd (.sq .z .z) .z)) (.sq .z (.sq .z (.sq (.bk (.lp [7, 9] [10, 11, 30, 31, 32, 33, 34, 35, 36, 37, 38, 39, 40] (.sq (.sq .z (.cd .z .z)) (.bk (.sq .z (.sq .z .z)))))) (.sq .z .z)))))) [t0, t1] Tryz.func102 (by kernel_rfl) (by kernel_rfl) h
theorem n_ref03_Gcd : Enters Tryz.prog 102 := enters_of Tryz.func102 (by kernel_rfl) rfl
def s_ref03_digits (P : Program) (t0 : Value) (w : World) (R : Ending → World → Prop) : Prop :=
 Ix P 9 t0 (.int .i64 0) w fun t8 w =>
 Bn P .eql 5 true t8 (.int .u8 45) w fun t9 w =>
 Jn1 (fun k1 =>
 If t9
 (Sc P 9 t0 (some (.int .i64 1)) none none w fun t12 w =>
 k1 t12 w)
 (k1 t0 w))
 (fun t0x1 w =>
 Bt P .len #[9] 3 #[t0x1] w fun t14 w =>
 Bn P .sub 3 true t14 (.int .i64 1) w fun t15 w =>
 Lp2 (.slice none 0 0) t15 w (fun t5 t6 w k2 =>
 Bn P .geq 3 true t6 (.int .i64 0) w fun t17 w =>
 Gd t17 true (fun k => k t0x1 w) w fun t19 w =>
 Gd t17 true (fun k => Bn P .neq 9 true t19 (str [48]) w k) w fun t20 w =>
 Pick t17 t20 (.bool false) w fun t21 w =>
 If t21
 (Ix P 9 t0x1 t6 w fun t27 w =>
 Bn P .sub 5 true t27 (.int .u8 48) w fun t28 w =>
 Cv P 5 3 t28 w fun t29 w =>
 Bs P 27 1 [(0, t29)] w fun t30 w =>
 Bt P .append #[27, 27] 27 #[t5, t30] w fun t31 w =>
 Bn P .sub 3 true t6 (.int .i64 1) w fun t23 w =>
 k2 t31 t23 w)
 (R (.returned (.tuple #[t9, t5])) w)))
theorem e_ref03_digits (h : s_ref03_digits Tryz.prog t0 w R) : Calls Tryz.prog 103 #[t0] w R :=
 en1 (.sq .z (.sq .z (.jn [0] [10, 11, 12] (.sq .z (.cd .z .z)) (.sq .z (.sq (.sq .z (.bk (.lp [5, 6] [16, 17, 18, 19, 20, 21, 22, 23, 24, 25, 26, 27, 28, 29, 30, 31] (.sq (.sq .z (.cd .z .z)) (.sq (.bk .z) .z))))) (.sq .z .z)))))) [t0] Tryz.func103 (by kernel_rfl) (by kernel_rfl) h
theorem n_ref03_digits : Enters Tryz.prog 103 := enters_of Tryz.func103 (by kernel_rfl) rfl
def s_ref03_checked (P : Program) (t0 t1 : Value) (w : World) (R : Ending → World → Prop) : Prop :=
 Cl P 99 #[t0, t1] w (Pk R) fun t11 w =>
 Ex t11 0 w fun t12 w =>
 Ex t11 1 w fun t13 w =>
 Un P .not t13 w fun t15 w =>
 If t15
 (R (.returned (.tuple #[(str []), (.int .i64 30)])) w)
 (R (.returned (.tuple #[t12, (.int .i64 0)])) w)
theorem e_ref03_checked (h : s_ref03_checked Tryz.prog t0 t1 w R) : Calls Tryz.prog 104 #[t0, t1] w R :=
 en1 (.sq .z (.sq .z (.sq (.sq .z (.cd (.sq .z .z) .z)) (.sq .z .z)))) [t0, t1] Tryz.func104 (by kernel_rfl) (by kernel_rfl) h
theorem n_ref03_checked : Enters Tryz.prog 104 := enters_of Tryz.func104 (by kernel_rfl) rfl
def s_ref03_times (P : Program) (t0 t1 : Value) (w : World) (R : Ending → World → Prop) : Prop :=
 Bt P .len #[27] 3 #[t0] w fun t11 w =>
 Bt P .len #[27] 3 #[t1] w fun t13 w =>
 Bn P .add 3 false t11 t13 w fun t14 w =>
 Ms P 27 t14 t14 w fun t15 w =>
 Lp1 (.int .i64 0) w (fun t6 w k1 =>
 Bt P .len #[27] 3 #[t0] w fun t18 w =>
 Bn P .lss 3 false t6 t18 w fun t19 w =>
 If t19
 (Lp2 (.int .i64 0) (.int .i64 0) w (fun t7 t8 w k2 =>
 Bt P .len #[27] 3 #[t1] w fun t24 w =>
 Bn P .lss 3 false t8 t24 w fun t25 w =>
 Gd t25 false (fun k => k t7 w) w fun t27 w =>
 Gd t25 false (fun k => Bn P .gtr 3 true t27 (.int .i64 0) w k) w fun t28 w =>
 Pick t25 (.bool true) t28 w fun t29 w =>
 If t29
 (Bn P .add 3 false t6 t8 w fun t35 w =>
 Ia P 27 t15 t35 w fun t36 w =>
 Ld P 3 t36 w fun t37 w =>
 Bn P .add 3 false t37 t7 w fun t39 w =>
 Jn1 (fun k3 =>
 Bt P .len #[27] 3 #[t1] w fun t42 w =>
 Bn P .lss 3 false t8 t42 w fun t43 w =>
 If t43
 (dIx P 27 t0 t6 w.drew fun t47 =>
 dL P 3 t47 w.drew fun t48 =>
 dIx P 27 t1 t8 w.drew fun t51 =>
 dL P 3 t51 w.drew fun t52 =>
 Dv P true (bn .mul 3 false t48 t52) w.drew fun t53 =>
 Dv P true (bn .add 3 false t39 t53) w.drew fun t54 =>
 k3 t54 w.drew)
 (k3 t39 w))
 (fun t9 w =>
 Bn P .add 3 false t6 t8 w fun t58 w =>
 Bn P .rem 3 true t9 (.int .i64 10) w fun t60 w =>
 Ia P 27 t15 t58 w fun t61 w =>
 Sto P 3 t61 t60 w fun w =>
 Bn P .quo 3 true t9 (.int .i64 10) w fun t63 w =>
 Bn P .add 3 true t8 (.int .i64 1) w fun t31 w =>
 k2 t63 t31 w))
 (Bn P .add 3 true t6 (.int .i64 1) w fun t21 w =>
 k1 t21 w)))
 (Cl P 134 #[t15] w (Pk R) fun t65 w =>
 R (.returned t65) w))
theorem e_ref03_times (h : s_ref03_times Tryz.prog t0 t1 w R) : Calls Tryz.prog 105 #[t0, t1] w R :=
 en1 (.sq .z (.sq .z (.sq (.sq .z (.bk (.lp [6] [7, 8, 9, 16, 17, 18, 19, 20, 21, 22, 23, 24, 25, 26, 27, 28, 29, 30, 31, 32, 33, 34, 35, 36, 37, 38, 39, 40, 41, 42, 43, 44, 45, 46, 47, 48, 49, 50, 51, 52, 53, 54, 55, 56, 57, 58, 59, 60, 61, 62, 63] (.sq (.sq .z (.cd .z .z)) (.sq (.bk (.sq .z (.sq .z (.bk (.lp [7, 8] [9, 22, 23, 24, 25, 26, 27, 28, 29, 30, 31, 32, 33, 34, 35, 36, 37, 38, 39, 40, 41, 42, 43, 44, 45, 46, 47, 48, 49, 50, 51, 52, 53, 54, 55, 56, 57, 58, 59, 60, 61, 62, 63] (.sq (.sq .z (.cd .z .z)) (.sq (.bk (.sq .z (.jn [9] [40, 41, 42, 43, 44, 45, 46, 47, 48, 49, 50, 51, 52, 53, 54] (.sq .z (.cd (.dr (.pur true 0 (.pur true 1 (.pur true 2 (.pur true 3 (.pur false 4 (.pur true 5 (.pur true 6 (.pur true 7 (.pur false 8 (.pur true 9 (.pur true 10 (.pur true 11 .done))))))))))))) .z)) (.sq .z .z)))) .z))))))) .z))))) (.sq .z .z)))) [t0, t1] Tryz.func105 (by kernel_rfl) (by kernel_rfl) h
theorem n_ref03_times : Enters Tryz.prog 105 := enters_of Tryz.func105 (by kernel_rfl) rfl
theorem n_strconv_Itoa : Enters Tryz.prog 107 := enters_of Tryz.func107 (by kernel_rfl) rfl
def s_rational_round (P : Program) (t0 t1 t2 : Value) (w : World) (R : Ending → World → Prop) : Prop :=
 Bx P 23 t0 w fun t3 w =>
 Al P 23 w fun t6 w =>
 Bn P .lss 3 true t1 (.int .i64 0) w fun t15 w =>
 Gd t15 false (fun k => k t1 w) w fun t17 w =>
 Gd t15 false (fun k => Bn P .gtr 3 true t17 (.int .i64 30) w k) w fun t18 w =>
 Pick t15 (.bool true) t18 w fun t19 w =>
 Bd P 88 [(0, t19)] w fun t20 w =>
 Bx P 88 t20 w fun t21 w =>
 Ld P 23 t3 w fun t23 w =>
 Bs P 28 1 [(0, t23)] w fun t24 w =>
 Cl P 59 #[t21, t24] w (Pk R) fun t25 w =>
 Nc t21 w fun t27 w =>
 Fa P 88 t27 0 w fun t28 w =>
 Ld P 4 t28 w fun t29 w =>
 If t29
 (Bd P 23 [] w fun t30 w =>
 Sto P 23 t6 t30 w fun w =>
 Rc P 23 t6 w fun r0 =>
 R (.returned (.tuple #[r0, (.int .i64 40)])) w)
 (Cl P 122 #[(str [48]), t1] w (Pk R) fun t32 w =>
 Bn P .add 9 true (str [49]) t32 w fun t33 w =>
 Fa P 23 t3 0 w fun t35 w =>
 Ld P 9 t35 w fun t36 w =>
 Cl P 60 #[t21, t36, t33] w (Pk R) fun t38 w =>
 Nc t21 w fun t40 w =>
 Fa P 88 t40 0 w fun t41 w =>
 Ld P 4 t41 w fun t42 w =>
 If t42
 (Bd P 23 [] w fun t43 w =>
 Sto P 23 t6 t43 w fun w =>
 Rc P 23 t6 w fun r0 =>
 R (.returned (.tuple #[r0, (.int .i64 40)])) w)
 (Fa P 23 t3 1 w fun t46 w =>
 Ld P 9 t46 w fun t47 w =>
 Cl P 65 #[t38, t47] w (Pk R) fun t48 w =>
 Ex t48 0 w fun t49 w =>
 Ex t48 1 w fun t50 w =>
 Ex t48 2 w fun t51 w =>
 Jn1 (fun k1 =>
 Bn P .neq 39 true t51 (.int .i64 0) w fun t54 w =>
 Nc t21 w fun t55 w =>
 Fa P 88 t55 0 w fun t56 w =>
 Sto P 4 t56 t54 w fun w =>
 Gd t2 true (fun k => k t50 w) w fun t59 w =>
 Gd t2 true (fun k => Bn P .neq 9 true t59 (str [48]) w k) w fun t60 w =>
 Pick t2 t60 (.bool false) w fun t61 w =>
 If t61
 (Cl P 86 #[t21, (.func (.func 85) #[] #[]), t49, (str [49])] w (Pk R) fun t64 w =>
 k1 t64 w)
 (k1 t49 w))
 (fun t11 w =>
 Cl P 61 #[t21, t11, t33] w (Pk R) fun t68 w =>
 Ex t68 0 w fun t69 w =>
 Ex t68 1 w fun t70 w =>
 Sto P 23 t6 t69 w fun w =>
 Rc P 23 t6 w fun r0 =>
 R (.returned (.tuple #[r0, t70])) w)))
theorem e_rational_round (h : s_rational_round Tryz.prog t0 t1 t2 w R) : Calls Tryz.prog 108 #[t0, t1, t2] w R :=
 en1 (.sq .z (.sq .z (.sq .z (.sq (.sq .z (.cd (.sq .z .z) .z)) (.sq .z (.sq .z (.sq (.sq .z (.cd (.sq .z .z) .z)) (.sq .z (.jn [11] [52, 53, 54, 55, 56, 57, 58, 59, 60, 61, 62, 63, 64] (.sq .z (.sq .z (.cd .z .z))) (.sq .z .z)))))))))) [t0, t1, t2] Tryz.func108 (by kernel_rfl) (by kernel_rfl) h
theorem n_rational_round : Enters Tryz.prog 108 := enters_of Tryz.func108 (by kernel_rfl) rfl
def s_slices_insertionSortCmpFunc_int (P : Program) (t0 t1 t2 t3 : Value) (w : World) (R : Ending → World → Prop) : Prop :=
 Bn P .add 3 true t1 (.int .i64 1) w fun t11 w =>
 Lp1 t11 w (fun t8 w k1 =>
 Bn P .lss 3 false t8 t2 w fun t14 w =>
 If t14
 (Lp1 t8 w (fun t9 w k2 =>
 Dv P true (bn .gtr 3 false t9 t1) w.drew fun t20 =>
 GdP t20 true (fun k => k t3) fun t22 =>
 GdP t20 true (fun k => k t0) fun t23 =>
 GdP t20 true (fun k => k t9) fun t24 =>
 GdP t20 true (fun k => dIx P 27 t23 t24 w.drew k) fun t25 =>
 GdP t20 true (fun k => dL P 3 t25 w.drew k) fun t26 =>
 GdP t20 true (fun k => k t0) fun t27 =>
 GdP t20 true (fun k => k t9) fun t28 =>
 GdP t20 true (fun k => Dv P true (bn .sub 3 true t28 (.int .i64 1)) w.drew k) fun t29 =>
 GdP t20 true (fun k => dIx P 27 t27 t29 w.drew k) fun t30 =>
 GdP t20 true (fun k => dL P 3 t30 w.drew k) fun t31 =>
 Gd t20 true (fun k => Cw P t22 #[t26, t31] w.drew (Pk R) k) w.drew fun t32 w =>
 GdP t20 true (fun k => Dv P true (bn .lss 3 true t32 (.int .i64 0)) w k) fun t33 =>
 PickP t20 t33 (.bool false) fun t34 =>
 If t34
 (Dv P true (bn .sub 3 true t9 (.int .i64 1)) w.drew fun t41 =>
 Dv P true (bn .sub 3 true t9 (.int .i64 1)) w.drew fun t44 =>
 dIx P 27 t0 t44 w.drew fun t45 =>
 dL P 3 t45 w.drew fun t46 =>
 dIx P 27 t0 t9 w.drew fun t49 =>
 dL P 3 t49 w.drew fun t50 =>
 dIx P 27 t0 t9 w.drew fun t51 =>
 Sto P 3 t51 t46 w.drew fun w =>
 dIx P 27 t0 t41 w fun t52 =>
 Sto P 3 t52 t50 w fun w =>
 Bn P .sub 3 true t9 (.int .i64 1) w fun t36 w =>
 k2 t36 w)
 (Bn P .add 3 true t8 (.int .i64 1) w fun t16 w =>
 k1 t16 w)))
 (R (.returned (.tuple #[])) w))
theorem e_slices_insertionSortCmpFunc_int (h : s_slices_insertionSortCmpFunc_int Tryz.prog t0 t1 t2 t3 w R) : Calls Tryz.prog 109 #[t0, t1, t2, t3] w R :=
 en1 (.sq .z (.bk (.lp [8] [9, 12, 13, 14, 15, 16, 17, 18, 19, 20, 21, 22, 23, 24, 25, 26, 27, 28, 29, 30, 31, 32, 33, 34, 35, 36, 37, 38, 39, 40, 41, 42, 43, 44, 45, 46, 47, 48, 49, 50, 51, 52] (.sq (.sq .z (.cd .z .z)) (.sq (.bk (.sq .z (.bk (.lp [9] [18, 19, 20, 21, 22, 23, 24, 25, 26, 27, 28, 29, 30, 31, 32, 33, 34, 35, 36, 37, 38, 39, 40, 41, 42, 43, 44, 45, 46, 47, 48, 49, 50, 51, 52] (.sq (.sq (.dr (.pur true 0 (.pur true 1 (.pur true 2 (.pur true 3 (.pur true 4 (.pur true 5 (.pur true 6 (.pur true 7 (.pur false 8 (.pur true 9 (.pur true 10 (.pur true 11 (.pur true 12 (.pur false 13 (.eff 14 [] (.pur true 15 (.pur true 16 .done)))))))))))))))))) (.cd .z .z)) (.sq (.bk (.dr (.pur true 0 (.pur true 1 (.pur true 2 (.pur true 3 (.pur true 4 (.pur true 5 (.pur true 6 (.pur true 7 (.pur true 8 (.pur false 9 (.pur true 10 (.pur true 11 (.pur true 12 (.pur false 13 (.pur true 14 (.eff 15 [] (.pur true 16 (.eff 17 [] .done)))))))))))))))))))) .z)))))) .z))))) [t0, t1, t2, t3] Tryz.func109 (by kernel_rfl) (by kernel_rfl) h
theorem n_slices_insertionSortCmpFunc_int : Enters Tryz.prog 109 := enters_of Tryz.func109 (by kernel_rfl) rfl
def s_ref03_Add (P : Program) (t0 t1 : Value) (w : World) (R : Ending → World → Prop) : Prop :=
 Cl P 101 #[t0] w (Pk R) fun t11 w =>
 Un P .not t11 w fun t12 w =>
 Gd t12 false (fun k => k t1 w) w fun t14 w =>
 Gd t12 false (fun k => Cl P 101 #[t14] w (Pk R) k) w fun t15 w =>
 Gd t12 false (fun k => Un P .not t15 w k) w fun t16 w =>
 Pick t12 (.bool true) t16 w fun t17 w =>
 If t17
 (R (.returned (.tuple #[(str []), (.int .i64 30)])) w)
 (Cl P 103 #[t0] w (Pk R) fun t20 w =>
 Ex t20 0 w fun t21 w =>
 Ex t20 1 w fun t22 w =>
 Cl P 103 #[t1] w (Pk R) fun t25 w =>
 Ex t25 0 w fun t26 w =>
 Ex t25 1 w fun t27 w =>
 Cl P 112 #[t21, t22, t26, t27] w (Pk R) fun t32 w =>
 Ex t32 0 w fun t33 w =>
 Ex t32 1 w fun t34 w =>
 R (.returned (.tuple #[t33, t34])) w)
theorem e_ref03_Add (h : s_ref03_Add Tryz.prog t0 t1 w R) : Calls Tryz.prog 111 #[t0, t1] w R :=
 en1 (.sq .z (.sq (.sq .z (.cd (.sq .z .z) .z)) (.sq .z (.sq .z (.sq .z .z))))) [t0, t1] Tryz.func111 (by kernel_rfl) (by kernel_rfl) h
theorem n_ref03_Add : Enters Tryz.prog 111 := enters_of Tryz.func111 (by kernel_rfl) rfl
def s_ref03_sum (P : Program) (t0 t1 t2 t3 : Value) (w : World) (R : Ending → World → Prop) : Prop :=
 Jn2 (fun k1 =>
 Bn P .eql 4 false t0 t2 w fun t15 w =>
 If t15
 (Cl P 114 #[t1, t3] w (Pk R) fun t18 w =>
 k1 t0 t18 w)
 (Cl P 116 #[t1, t3] w (Pk R) fun t21 w =>
 Bn P .geq 3 true t21 (.int .i64 0) w fun t22 w =>
 If t22
 (Cl P 115 #[t1, t3] w (Pk R) fun t25 w =>
 k1 t0 t25 w)
 (Cl P 115 #[t3, t1] w (Pk R) fun t29 w =>
 k1 t2 t29 w)))
 (fun t10 t11 w =>
 Cl P 104 #[t10, t11] w (Pk R) fun t32 w =>
 Ex t32 0 w fun t33 w =>
 Ex t32 1 w fun t34 w =>
 R (.returned (.tuple #[t33, t34])) w)
theorem e_ref03_sum (h : s_ref03_sum Tryz.prog t0 t1 t2 t3 w R) : Calls Tryz.prog 112 #[t0, t1, t2, t3] w R :=
 en1 (.sq .z (.sq .z (.sq .z (.jn [10, 11] [13, 14, 15, 16, 17, 18, 19, 20, 21, 22, 23, 24, 25, 26, 27, 28, 29] (.sq .z (.cd .z (.sq .z (.cd .z (.sq .z .z))))) (.sq .z .z))))) [t0, t1, t2, t3] Tryz.func112 (by kernel_rfl) (by kernel_rfl) h
theorem n_ref03_sum : Enters Tryz.prog 112 := enters_of Tryz.func112 (by kernel_rfl) rfl
def s_ref03_divided (P : Program) (t0 t1 : Value) (w : World) (R : Ending → World → Prop) : Prop :=
 Bt P .len #[27] 3 #[t0] w fun t10 w =>
 Ms P 27 t10 t10 w fun t11 w =>
 Bt P .len #[27] 3 #[t0] w fun t13 w =>
 Bn P .sub 3 true t13 (.int .i64 1) w fun t14 w =>
 Lp2 (.slice none 0 0) t14 w (fun t7 t8 w k1 =>
 Bn P .geq 3 true t8 (.int .i64 0) w fun t16 w =>
 If t16
 (Ia P 27 t0 t8 w fun t21 w =>
 Ld P 3 t21 w fun t22 w =>
 Bs P 27 1 [(0, t22)] w fun t23 w =>
 Bt P .append #[27, 27] 27 #[t23, t7] w fun t25 w =>
 Cl P 134 #[t25] w (Pk R) fun t26 w =>
 Lp1 t26 w (fun t7x1 w k2 =>
 Cl P 116 #[t7x1, t1] w (Pk R) fun t29 w =>
 Bn P .geq 3 true t29 (.int .i64 0) w fun t30 w =>
 If t30
 (Cl P 115 #[t7x1, t1] w (Pk R) fun t33 w =>
 Ia P 27 t11 t8 w fun t36 w =>
 Ld P 3 t36 w fun t37 w =>
 Bn P .add 3 true t37 (.int .i64 1) w fun t38 w =>
 Ia P 27 t11 t8 w fun t39 w =>
 Sto P 3 t39 t38 w fun w =>
 k2 t33 w)
 (Bn P .sub 3 true t8 (.int .i64 1) w fun t18 w =>
 k1 t7x1 t18 w)))
 (Cl P 134 #[t11] w (Pk R) fun t41 w =>
 R (.returned (.tuple #[t41, t7])) w))
theorem e_ref03_divided (h : s_ref03_divided Tryz.prog t0 t1 w R) : Calls Tryz.prog 113 #[t0, t1] w R :=
 en1 (.sq .z (.sq .z (.sq .z (.sq (.sq .z (.bk (.lp [7, 8] [15, 16, 17, 18, 19, 20, 21, 22, 23, 24, 25, 26, 27, 28, 29, 30, 31, 32, 33, 34, 35, 36, 37, 38, 39] (.sq (.sq .z (.cd .z .z)) (.sq (.bk (.sq .z (.bk (.lp [7] [27, 28, 29, 30, 31, 32, 33, 34, 35, 36, 37, 38, 39] (.sq (.sq .z (.cd .z .z)) (.bk (.sq .z .z))))))) .z))))) (.sq .z .z))))) [t0, t1] Tryz.func113 (by kernel_rfl) (by kernel_rfl) h
theorem n_ref03_divided : Enters Tryz.prog 113 := enters_of Tryz.func113 (by kernel_rfl) rfl
def s_ref03_plus (P : Program) (t0 t1 : Value) (w : World) (R : Ending → World → Prop) : Prop :=
 Lp3 (.slice none 0 0) (.int .i64 0) (.int .i64 0) w (fun t5 t6 t7 w k1 =>
 Bt P .len #[27] 3 #[t0] w fun t11 w =>
 Bn P .lss 3 false t7 t11 w fun t12 w =>
 Gd t12 false (fun k => k t7 w) w fun t14 w =>
 Gd t12 false (fun k => k t1 w) w fun t15 w =>
 Gd t12 false (fun k => Bt P .len #[27] 3 #[t15] w k) w fun t16 w =>
 Gd t12 false (fun k => Bn P .lss 3 false t14 t16 w k) w fun t17 w =>
 Pick t12 (.bool true) t17 w fun t18 w =>
 Gd t18 false (fun k => k t6 w) w fun t20 w =>
 Gd t18 false (fun k => Bn P .gtr 3 true t20 (.int .i64 0) w k) w fun t21 w =>
 Pick t18 (.bool true) t21 w fun t22 w =>
 If t22
 (Jn1 (fun k2 =>
 Bt P .len #[27] 3 #[t0] w fun t28 w =>
 Bn P .lss 3 false t7 t28 w fun t29 w =>
 If t29
 (Ia P 27 t0 t7 w fun t33 w =>
 Ld P 3 t33 w fun t34 w =>
 Bn P .add 3 false t6 t34 w fun t35 w =>
 k2 t35 w)
 (k2 t6 w))
 (fun t8 w =>
 Jn1 (fun k3 =>
 Bt P .len #[27] 3 #[t1] w fun t38 w =>
 Bn P .lss 3 false t7 t38 w fun t39 w =>
 If t39
 (Ia P 27 t1 t7 w fun t43 w =>
 Ld P 3 t43 w fun t44 w =>
 Bn P .add 3 false t8 t44 w fun t45 w =>
 k3 t45 w)
 (k3 t8 w))
 (fun t8x1 w =>
 Bn P .rem 3 true t8x1 (.int .i64 10) w fun t48 w =>
 Bs P 27 1 [(0, t48)] w fun t49 w =>
 Bt P .append #[27, 27] 27 #[t5, t49] w fun t50 w =>
 Bn P .quo 3 true t8x1 (.int .i64 10) w fun t52 w =>
 Bn P .add 3 true t7 (.int .i64 1) w fun t24 w =>
 k1 t50 t52 t24 w)))
 (R (.returned t5) w))
theorem e_ref03_plus (h : s_ref03_plus Tryz.prog t0 t1 w R) : Calls Tryz.prog 114 #[t0, t1] w R :=
 en1 (.sq .z (.sq .z (.sq .z (.sq (.sq .z (.bk (.lp [5, 6, 7] [8, 9, 10, 11, 12, 13, 14, 15, 16, 17, 18, 19, 20, 21, 22, 23, 24, 25, 26, 27, 28, 29, 30, 31, 32, 33, 34, 35, 36, 37, 38, 39, 40, 41, 42, 43, 44, 45, 46, 47, 48, 49, 50, 51, 52] (.sq (.sq .z (.cd .z .z)) (.sq (.bk (.sq .z (.jn [8] [26, 27, 28, 29, 30, 31, 32, 33, 34, 35] (.sq .z (.cd .z .z)) (.jn [8] [36, 37, 38, 39, 40, 41, 42, 43, 44, 45] (.sq .z (.cd .z .z)) (.sq .z .z))))) .z))))) (.sq .z .z))))) [t0, t1] Tryz.func114 (by kernel_rfl) (by kernel_rfl) h
theorem n_ref03_plus : Enters Tryz.prog 114 := enters_of Tryz.func114 (by kernel_rfl) rfl
def s_ref03_minus (P : Program) (t0 t1 : Value) (w : World) (R : Ending → World → Prop) : Prop :=
 Lp3 (.slice none 0 0) (.int .i64 0) (.int .i64 0) w (fun t5 t6 t7 w k1 =>
 Bt P .len #[27] 3 #[t0] w fun t11 w =>
 Bn P .lss 3 false t7 t11 w fun t12 w =>
 If t12
 (Ia P 27 t0 t7 w fun t17 w =>
 Ld P 3 t17 w fun t18 w =>
 Bn P .sub 3 false t18 t6 w fun t20 w =>
 Jn1 (fun k2 =>
 Bt P .len #[27] 3 #[t1] w fun t23 w =>
 Bn P .lss 3 false t7 t23 w fun t24 w =>
 If t24
 (Ia P 27 t1 t7 w fun t28 w =>
 Ld P 3 t28 w fun t29 w =>
 Bn P .sub 3 false t20 t29 w fun t30 w =>
 k2 t30 w)
 (k2 t20 w))
 (fun t8 w =>
 Bn P .lss 3 true t8 (.int .i64 0) w fun t32 w =>
 If t32
 (Bn P .add 3 true t8 (.int .i64 10) w fun t34 w =>
 Bs P 27 1 [(0, t34)] w fun t37 w =>
 Bt P .append #[27, 27] 27 #[t5, t37] w fun t38 w =>
 Bn P .add 3 true t7 (.int .i64 1) w fun t14 w =>
 k1 t38 (.int .i64 1) t14 w)
 (Bs P 27 1 [(0, t8)] w fun t37x1 w =>
 Bt P .append #[27, 27] 27 #[t5, t37x1] w fun t38x1 w =>
 Bn P .add 3 true t7 (.int .i64 1) w fun t14x1 w =>
 k1 t38x1 (.int .i64 0) t14x1 w)))
 (Cl P 134 #[t5] w (Pk R) fun t40 w =>
 R (.returned t40) w))
theorem e_ref03_minus (h : s_ref03_minus Tryz.prog t0 t1 w R) : Calls Tryz.prog 115 #[t0, t1] w R :=
 en1 (.sq .z (.sq .z (.sq .z (.sq (.sq .z (.bk (.lp [5, 6, 7] [8, 9, 10, 11, 12, 13, 14, 15, 16, 17, 18, 19, 20, 21, 22, 23, 24, 25, 26, 27, 28, 29, 30, 31, 32, 33, 34, 35, 36, 37, 38] (.sq (.sq .z (.cd .z .z)) (.sq (.bk (.sq .z (.jn [8] [21, 22, 23, 24, 25, 26, 27, 28, 29, 30] (.sq .z (.cd .z .z)) (.sq .z (.sq (.sq .z (.cd (.sq .z .z) .z)) .z))))) .z))))) (.sq .z .z))))) [t0, t1] Tryz.func115 (by kernel_rfl) (by kernel_rfl) h
theorem n_ref03_minus : Enters Tryz.prog 115 := enters_of Tryz.func115 (by kernel_rfl) rfl
def s_ref03_order (P : Program) (t0 t1 : Value) (w : World) (R : Ending → World → Prop) : Prop :=
 Bt P .len #[27] 3 #[t0] w fun t7 w =>
 Bt P .len #[27] 3 #[t1] w fun t9 w =>
 Bn P .neq 3 false t7 t9 w fun t10 w =>
 If t10
 (Bt P .len #[27] 3 #[t0] w fun t12 w =>
 Bt P .len #[27] 3 #[t1] w fun t14 w =>
 Bn P .lss 3 false t12 t14 w fun t15 w =>
 If t15
 (R (.returned (.int .i64 (-1))) w)
 (R (.returned (.int .i64 1)) w))
 (Bt P .len #[27] 3 #[t0] w fun t17 w =>
 Bn P .sub 3 true t17 (.int .i64 1) w fun t18 w =>
 Lp1 t18 w (fun t5 w k1 =>
 Bn P .geq 3 true t5 (.int .i64 0) w fun t20 w =>
 If t20
 (dIx P 27 t0 t5 w.drew fun t25 =>
 dL P 3 t25 w.drew fun t26 =>
 dIx P 27 t1 t5 w.drew fun t29 =>
 dL P 3 t29 w.drew fun t30 =>
 Dv P true (bn .neq 3 false t26 t30) w.drew fun t31 =>
 If t31
 (Dv P true (Instr.indexAt 27 t0 t5) w.drew.drew fun t34 =>
 Dv P false (Instr.loadAt 3 t34) w.drew.drew fun t35 =>
 Dv P true (Instr.indexAt 27 t1 t5) w.drew.drew fun t38 =>
 Dv P false (Instr.loadAt 3 t38) w.drew.drew fun t39 =>
 Dv P true (bn .lss 3 false t35 t39) w.drew.drew fun t40 =>
 If t40
 (R (.returned (.int .i64 (-1))) w.drew.drew)
 (R (.returned (.int .i64 1)) w.drew.drew))
 (Bn P .sub 3 true t5 (.int .i64 1) w.drew fun t22 w =>
 k1 t22 w))
 (R (.returned (.int .i64 0)) w)))
theorem e_ref03_order (h : s_ref03_order Tryz.prog t0 t1 w R) : Calls Tryz.prog 116 #[t0, t1] w R :=
 en1 (.sq .z (.sq (.sq .z (.cd (.sq (.sq .z (.cd (.sq .z .z) .z)) (.sq .z .z)) .z)) (.sq (.sq .z (.bk (.lp [5] [4, 19, 20, 21, 22, 23, 24, 25, 26, 27, 28, 29, 30, 31, 32, 33, 34, 35, 36, 37, 38, 39, 40] (.sq (.sq .z (.cd .z .z)) (.sq (.bk (.sq (.dr (.pur true 0 (.pur true 1 (.pur true 2 (.pur false 3 (.pur true 4 (.pur true 5 (.pur true 6 (.pur false 7 (.pur true 8 .done)))))))))) (.cd (.sq (.sq (.dr (.pur true 0 (.pur true 1 (.pur true 2 (.pur false 3 (.pur true 4 (.pur true 5 (.pur true 6 (.pur false 7 (.pur true 8 .done)))))))))) (.cd (.sq .z .z) .z)) (.sq .z .z)) .z))) .z))))) (.sq .z .z)))) [t0, t1] Tryz.func116 (by kernel_rfl) (by kernel_rfl) h
theorem n_ref03_order : Enters Tryz.prog 116 := enters_of Tryz.func116 (by kernel_rfl) rfl
def s_integer_number_times (P : Program) (t0 t1 : Value) (w : World) (R : Ending → World → Prop) : Prop :=
 Bx P 109 t0 w fun t2 w =>
 Al P 109 w fun t5 w =>
 Cl P 121 #[t1] w (Pk R) fun t9 w =>
 Rf2 P t9 w (fun t10 t11 w next lv =>
 Jn0 (fun k1 =>
 Ld P 109 t5 w fun t12 w =>
 Bt P .len #[109] 3 #[t12] w fun t13 w =>
 Bn P .gtr 3 true t13 (.int .i64 0) w fun t14 w =>
 If t14
 (Bs P 109 1 [(0, (.int .i64 0))] w fun t15 w =>
 Ld P 109 t5 w fun t16 w =>
 Bt P .append #[109, 109] 109 #[t15, t16] w fun t17 w =>
 Sto P 109 t5 t17 w fun w =>
 k1 w)
 (k1 w))
 (fun w =>
 dL P 109 t5 w.drew fun t18 =>
 dL P 109 t2 w.drew fun t19 =>
 Cl P 126 #[t19, t11] w.drew (fun _ _ => False) fun t21 w =>
 kLd P 109 t5 t18 w <|
 Cl P 95 #[t18, t21] w (fun _ _ => False) fun t22 w =>
 Sto P 109 t5 t22 w fun w =>
 next w))
 (fun D1 w =>
 Ld P 109 t5 w fun t23 w =>
 Tk P D1 w fun w =>
 R (.returned t23) w)
 (fun D1 w =>
 Tk P D1 w fun w =>
 R (.returned (.slice none 0 0)) w) []
theorem e_integer_number_times (h : s_integer_number_times Tryz.prog t0 t1 w R) : Calls Tryz.prog 117 #[t0, t1] w R :=
 en1 (.sq .z (.sq .z (.sq (.sq .z (.bk (.rf (.bk (.jn [] [12, 13, 14, 15, 16, 17] (.sq .z (.cd .z .z)) (.dr (.pur false 0 (.pur false 1 (.pur true 2 (.eff 3 [0] (.eff 4 [] (.eff 5 [] .done))))))))) []))) (.sq .z .z)))) [t0, t1] Tryz.func117 (by kernel_rfl) (by kernel_rfl) h
theorem n_integer_number_times : Enters Tryz.prog 117 := enters_of Tryz.func117 (by kernel_rfl) rfl
def s_rational_work_quotient_1 (P : Program) (t0 t1 : Value) (w : World) (R : Ending → World → Prop) : Prop :=
 Cl P 65 #[t0, t1] w (Pk R) fun t12 w =>
 Ex t12 0 w fun t13 w =>
 Ex t12 1 w fun t14 w =>
 Ex t12 2 w fun t15 w =>
 R (.returned (.tuple #[t13, t15])) w
theorem e_rational_work_quotient_1 (h : s_rational_work_quotient_1 Tryz.prog t0 t1 w R) : Calls Tryz.prog 118 #[t0, t1] w R :=
 en1 (.sq .z (.sq .z (.sq .z .z))) [t0, t1] Tryz.func118 (by kernel_rfl) (by kernel_rfl) h
theorem n_rational_work_quotient_1 : Enters Tryz.prog 118 := enters_of Tryz.func118 (by kernel_rfl) rfl
def s_integer_isValid (P : Program) (t0 : Value) (w : World) (R : Ending → World → Prop) : Prop :=
 Cl P 137 #[t0, (str [45])] w (Pk R) fun t5 w =>
 Bn P .eql 9 true t5 (str []) w fun t7 w =>
 Gd t7 false (fun k => k t5 w) w fun t9 w =>
 Gd t7 false (fun k => Bt P .len #[9] 3 #[t9] w k) w fun t10 w =>
 Gd t7 false (fun k => Bn P .gtr 3 true t10 (.int .i64 200) w k) w fun t11 w =>
 Pick t7 (.bool true) t11 w fun t12 w =>
 Gd t12 false (fun k => k t5 w) w fun t14 w =>
 Gd t12 false (fun k => Cl P 138 #[t14, (str [48, 49, 50, 51, 52, 53, 54, 55, 56, 57])] w (Pk R) k) w fun t15 w =>
 Gd t12 false (fun k => Bn P .neq 9 true t15 (str []) w k) w fun t16 w =>
 Pick t12 (.bool true) t16 w fun t17 w =>
 If t17
 (R (.returned (.bool false)) w)
 (Bn P .eql 9 true t0 (str [48]) w fun t19 w =>
 Gd t19 false (fun k => k t5 w) w fun t21 w =>
 Gd t19 false (fun k => Ix P 9 t21 (.int .i64 0) w k) w fun t22 w =>
 Gd t19 false (fun k => Bn P .neq 5 true t22 (.int .u8 48) w k) w fun t23 w =>
 Pick t19 (.bool true) t23 w fun t24 w =>
 R (.returned t24) w)
theorem e_integer_isValid (h : s_integer_isValid Tryz.prog t0 w R) : Calls Tryz.prog 119 #[t0] w R :=
 en1 (.sq .z (.sq .z (.sq (.sq .z (.cd (.sq .z .z) .z)) (.sq .z .z)))) [t0] Tryz.func119 (by kernel_rfl) (by kernel_rfl) h
theorem n_integer_isValid : Enters Tryz.prog 119 := enters_of Tryz.func119 (by kernel_rfl) rfl
def s_integer_parse (P : Program) (t0 : Value) (w : World) (R : Ending → World → Prop) : Prop :=
 Al P 111 w fun t2 w =>
 Cl P 137 #[t0, (str [45])] w (Pk R) fun t9 w =>
 Bt P .len #[9] 3 #[t9] w fun t11 w =>
 Bt P .len #[9] 3 #[t0] w fun t13 w =>
 Bn P .lss 3 false t11 t13 w fun t14 w =>
 Bd P 111 [(0, t14)] w fun t15 w =>
 Al P 111 w fun t4 w =>
 Sto P 111 t4 t15 w fun w =>
 Lp1 t9 w (fun t3 w k1 =>
 Bt P .len #[9] 3 #[t3] w fun t17 w =>
 Bn P .gtr 3 true t17 (.int .i64 0) w fun t18 w =>
 If t18
 (Bt P .len #[9] 3 #[t3] w fun t20 w =>
 Bn P .sub 3 true t20 (.int .i64 4) w fun t21 w =>
 Bt P .max #[3, 3] 3 #[(.int .i64 0), t21] w fun t22 w =>
 Sc P 9 t3 (some t22) none none w fun t26 w =>
 Cl P 139 #[t26] w (Pk R) fun t27 w =>
 Ex t27 0 w fun t28 w =>
 Ex t27 1 w fun t29 w =>
 Fa P 111 t4 1 w fun t30 w =>
 Ld P 109 t30 w fun t31 w =>
 Bs P 109 1 [(0, t28)] w fun t33 w =>
 Bt P .append #[109, 109] 109 #[t31, t33] w fun t34 w =>
 Fa P 111 t4 1 w fun t35 w =>
 Sto P 109 t35 t34 w fun w =>
 Sc P 9 t3 none (some t22) none w fun t38 w =>
 k1 t38 w)
 (Fa P 111 t4 1 w fun t39 w =>
 Ld P 109 t39 w fun t40 w =>
 Cl P 125 #[t40] w (Pk R) fun t41 w =>
 Fa P 111 t4 1 w fun t42 w =>
 Sto P 109 t42 t41 w fun w =>
 Ld P 111 t4 w fun t43 w =>
 Sto P 111 t2 t43 w fun w =>
 Rc P 111 t2 w fun r0 =>
 R (.returned r0) w))
theorem e_integer_parse (h : s_integer_parse Tryz.prog t0 w R) : Calls Tryz.prog 120 #[t0] w R :=
 en1 (.sq .z (.sq .z (.sq .z (.sq (.bk (.lp [3] [5, 6, 7, 16, 17, 18, 19, 20, 21, 22, 23, 24, 25, 26, 27, 28, 29, 30, 31, 32, 33, 34, 35, 36, 37, 38] (.sq (.sq .z (.cd .z .z)) (.bk (.sq .z (.sq .z (.sq .z .z))))))) (.sq .z (.sq .z .z)))))) [t0] Tryz.func120 (by kernel_rfl) (by kernel_rfl) h
theorem n_integer_parse : Enters Tryz.prog 120 := enters_of Tryz.func120 (by kernel_rfl) rfl
def s_slices_Backward_integer_number_int (P : Program) (t0 : Value) (w : World) (R : Ending → World → Prop) : Prop :=
 Bx P 109 t0 w fun t1 w =>
 R (.returned (.func (.func 140) #[] #[t1])) w
theorem e_slices_Backward_integer_number_int (h : s_slices_Backward_integer_number_int Tryz.prog t0 w R) : Calls Tryz.prog 121 #[t0] w R :=
 en1 (.sq .z (.sq .z .z)) [t0] Tryz.func121 (by kernel_rfl) (by kernel_rfl) h
theorem n_slices_Backward_integer_number_int : Enters Tryz.prog 121 := enters_of Tryz.func121 (by kernel_rfl) rfl
theorem n_strings_Repeat : Enters Tryz.prog 122 := enters_of Tryz.func122 (by kernel_rfl) rfl
def s_strings_Builder_WriteString (P : Program) (t0 t1 : Value) (w : World) (R : Ending → World → Prop) : Prop :=
 Cl P 144 #[t0] w (Pk R) fun t7 w =>
 Nc t0 w fun t10 w =>
 Fa P 140 t10 1 w fun t11 w =>
 Ld P 138 t11 w fun t12 w =>
 Bt P .append #[138, 9] 138 #[t12, t1] w fun t14 w =>
 Nc t0 w fun t15 w =>
 Fa P 140 t15 1 w fun t16 w =>
 Sto P 138 t16 t14 w fun w =>
 Bt P .len #[9] 3 #[t1] w fun t18 w =>
 R (.returned (.tuple #[t18, .nilIface])) w
theorem e_strings_Builder_WriteString (h : s_strings_Builder_WriteString Tryz.prog t0 t1 w R) : Calls Tryz.prog 123 #[t0, t1] w R :=
 en1 (.sq .z (.sq .z (.sq .z (.sq .z .z)))) [t0, t1] Tryz.func123 (by kernel_rfl) (by kernel_rfl) h
theorem n_strings_Builder_WriteString : Enters Tryz.prog 123 := enters_of Tryz.func123 (by kernel_rfl) rfl
theorem n_strings_Builder_String : Enters Tryz.prog 124 := enters_of Tryz.func124 (by kernel_rfl) rfl
def s_integer_number_trimmed (P : Program) (t0 : Value) (w : World) (R : Ending → World → Prop) : Prop :=
 Lp1 t0 w (fun t0x1 w k1 =>
 Bt P .len #[109] 3 #[t0x1] w fun t4 w =>
 Bn P .gtr 3 true t4 (.int .i64 0) w fun t5 w =>
 Gd t5 true (fun k => k t0x1 w) w fun t7 w =>
 Gd t5 true (fun k => k t0x1 w) w fun t8 w =>
 Gd t5 true (fun k => Bt P .len #[109] 3 #[t8] w k) w fun t9 w =>
 Gd t5 true (fun k => Bn P .sub 3 true t9 (.int .i64 1) w k) w fun t10 w =>
 Gd t5 true (fun k => Ia P 109 t7 t10 w k) w fun t11 w =>
 Gd t5 true (fun k => Ld P 3 t11 w k) w fun t12 w =>
 Gd t5 true (fun k => Bn P .eql 3 true t12 (.int .i64 0) w k) w fun t13 w =>
 Pick t5 t13 (.bool false) w fun t14 w =>
 If t14
 (Bt P .len #[109] 3 #[t0x1] w fun t17 w =>
 Bn P .sub 3 true t17 (.int .i64 1) w fun t18 w =>
 Sc P 109 t0x1 none (some t18) none w fun t19 w =>
 k1 t19 w)
 (R (.returned t0x1) w))
theorem e_integer_number_trimmed (h : s_integer_number_trimmed Tryz.prog t0 w R) : Calls Tryz.prog 125 #[t0] w R :=
 en1 (.sq .z (.sq (.bk (.lp [0] [3, 4, 5, 6, 7, 8, 9, 10, 11, 12, 13, 14, 15, 16, 17, 18, 19] (.sq (.sq .z (.cd .z .z)) (.bk .z)))) (.sq .z .z))) [t0] Tryz.func125 (by kernel_rfl) (by kernel_rfl) h
theorem n_integer_number_trimmed : Enters Tryz.prog 125 := enters_of Tryz.func125 (by kernel_rfl) rfl
def s_integer_number_by (P : Program) (t0 t1 : Value) (w : World) (R : Ending → World → Prop) : Prop :=
 Bx P 109 t0 w fun t2 w =>
 Bx P 3 t1 w fun t3 w =>
 Ld P 109 t2 w fun t5 w =>
 Bt P .len #[109] 3 #[t5] w fun t6 w =>
 Cl P 129 #[t6, (.int .i64 0), (.func (.func 145) #[] #[t2, t3])] w (Pk R) fun t8 w =>
 Cl P 125 #[t8] w (Pk R) fun t9 w =>
 R (.returned t9) w
theorem e_integer_number_by (h : s_integer_number_by Tryz.prog t0 t1 w R) : Calls Tryz.prog 126 #[t0, t1] w R :=
 en1 (.sq .z (.sq .z .z)) [t0, t1] Tryz.func126 (by kernel_rfl) (by kernel_rfl) h
theorem n_integer_number_by : Enters Tryz.prog 126 := enters_of Tryz.func126 (by kernel_rfl) rfl
def s_integer_number_over_1 (P : Program) (t0 t1 t2 : Value) (w : World) (R : Ending → World → Prop) : Prop :=
 dL P 150 t1 w.drew fun t5 =>
 Dv P true (bn .add 3 true t0 (.int .i64 1)) w.drew fun t7 =>
 dL P 109 t2 w.drew fun t9 =>
 Cw P t5 #[t7] w.drew (Pk R) fun t8 w =>
 kLd P 109 t2 t9 w <|
 Cl P 98 #[t8, t9] w (Pk R) fun t10 w =>
 Dv P true (bn .gtr 3 true t10 (.int .i64 0)) w fun t11 =>
 R (.returned t11) w
theorem e_integer_number_over_1 (h : s_integer_number_over_1 Tryz.prog t0 t1 t2 w R) : Calls Tryz.prog 127 #[t0, t1, t2] w R :=
 en1 (.sq .z (.sq (.dr (.pur false 0 (.pur true 1 (.pur true 2 (.pur false 4 (.eff 3 [4] (.eff 5 [] (.pur true 6 (.pur true 7 .done))))))))) .z)) [t0, t1, t2] Tryz.func127 (by kernel_rfl) (by kernel_rfl) h
theorem n_integer_number_over_1 : Enters Tryz.prog 127 := enters_of Tryz.func127 (by kernel_rfl) rfl
def s_sort_Search (P : Program) (t0 t1 : Value) (w : World) (R : Ending → World → Prop) : Prop :=
 Lp2 (.int .i64 0) t0 w (fun t5 t6 w k1 =>
 Bn P .lss 3 false t5 t6 w fun t11 w =>
 If t11
 (Bn P .add 3 false t5 t6 w fun t14 w =>
 Cv P 3 153 t14 w fun t15 w =>
 Bn P .shr 153 true t15 (.int .u64 1) w fun t16 w =>
 Cv P 153 3 t16 w fun t17 w =>
 Cw P t1 #[t17] w (Pk R) fun t20 w =>
 Un P .not t20 w fun t21 w =>
 If t21
 (Bn P .add 3 true t17 (.int .i64 1) w fun t23 w =>
 k1 t23 t6 w)
 (k1 t5 t17 w))
 (R (.returned t5) w))
theorem e_sort_Search (h : s_sort_Search Tryz.prog t0 t1 w R) : Calls Tryz.prog 128 #[t0, t1] w R :=
 en1 (.sq .z (.sq .z (.sq (.bk (.lp [5, 6] [7, 9, 10, 11, 12, 13, 14, 15, 16, 17, 18, 19, 20, 21, 22, 23, 24] (.sq (.sq .z (.cd .z .z)) (.bk (.sq .z (.sq .z (.cd .z .z))))))) (.sq .z .z)))) [t0, t1] Tryz.func128 (by kernel_rfl) (by kernel_rfl) h
theorem n_sort_Search : Enters Tryz.prog 128 := enters_of Tryz.func128 (by kernel_rfl) rfl
def s_integer_fold_integer_number (P : Program) (t0 t1 t2 : Value) (w : World) (R : Ending → World → Prop) : Prop :=
 Bn P .add 3 true t0 (.int .i64 1) w fun t11 w =>
 Ms P 109 (.int .i64 0) t11 w fun t12 w =>
 Lp3 t1 t12 (.int .i64 0) w (fun t1x1 t7 t8 w k1 =>
 Bn P .lss 3 false t8 t0 w fun t15 w =>
 Gd t15 false (fun k => k t1x1 w) w fun t17 w =>
 Gd t15 false (fun k => Bn P .neq 3 true t17 (.int .i64 0) w k) w fun t18 w =>
 Pick t15 (.bool true) t18 w fun t19 w =>
 If t19
 (Cw P t2 #[t8] w (Pk R) fun t24 w =>
 Bn P .add 3 false t24 t1x1 w fun t26 w =>
 Bn P .lss 3 true t26 (.int .i64 0) w fun t28 w =>
 If t28
 (Bn P .add 3 true t26 (.int .i64 10000) w fun t30 w =>
 Bs P 109 1 [(0, t30)] w fun t39 w =>
 Bt P .append #[109, 109] 109 #[t7, t39] w fun t40 w =>
 Bn P .add 3 true t8 (.int .i64 1) w fun t21 w =>
 k1 (.int .i64 (-1)) t40 t21 w)
 (Bn P .geq 3 true t26 (.int .i64 10000) w fun t32 w =>
 If t32
 (Bn P .quo 3 true t26 (.int .i64 10000) w fun t34 w =>
 Bn P .rem 3 true t26 (.int .i64 10000) w fun t36 w =>
 Bs P 109 1 [(0, t36)] w fun t39x1 w =>
 Bt P .append #[109, 109] 109 #[t7, t39x1] w fun t40x1 w =>
 Bn P .add 3 true t8 (.int .i64 1) w fun t21x1 w =>
 k1 t34 t40x1 t21x1 w)
 (Bs P 109 1 [(0, t26)] w fun t39x2 w =>
 Bt P .append #[109, 109] 109 #[t7, t39x2] w fun t40x2 w =>
 Bn P .add 3 true t8 (.int .i64 1) w fun t21x2 w =>
 k1 (.int .i64 0) t40x2 t21x2 w)))
 (R (.returned t7) w))
theorem e_integer_fold_integer_number (h : s_integer_fold_integer_number Tryz.prog t0 t1 t2 w R) : Calls Tryz.prog 129 #[t0, t1, t2] w R :=
 en1 (.sq .z (.sq .z (.sq (.sq .z (.bk (.lp [1, 7, 8] [9, 13, 14, 15, 16, 17, 18, 19, 20, 21, 22, 23, 24, 25, 26, 27, 28, 29, 30, 31, 32, 33, 34, 35, 36, 37, 38, 39, 40] (.sq (.sq .z (.cd .z .z)) (.sq (.bk (.sq .z (.sq .z (.sq (.sq .z (.cd (.sq .z .z) (.sq .z (.cd (.sq .z .z) .z)))) .z)))) .z))))) (.sq .z .z)))) [t0, t1, t2] Tryz.func129 (by kernel_rfl) (by kernel_rfl) h
theorem n_integer_fold_integer_number : Enters Tryz.prog 129 := enters_of Tryz.func129 (by kernel_rfl) rfl
def s_integer_number_plus_1 (P : Program) (t0 t1 t2 : Value) (w : World) (R : Ending → World → Prop) : Prop :=
 dL P 109 t1 w.drew fun t5 =>
 dL P 109 t2 w.drew fun t8 =>
 Cl P 131 #[t5, t0] w.drew (Pk R) fun t7 w =>
 kLd P 109 t2 t8 w <|
 Cl P 131 #[t8, t0] w (Pk R) fun t10 w =>
 Dv P true (bn .add 3 false t7 t10) w fun t11 =>
 R (.returned t11) w
theorem e_integer_number_plus_1 (h : s_integer_number_plus_1 Tryz.prog t0 t1 t2 w R) : Calls Tryz.prog 130 #[t0, t1, t2] w R :=
 en1 (.sq .z (.sq (.dr (.pur false 0 (.pur true 1 (.pur false 3 (.pur true 4 (.eff 2 [3] (.eff 5 [] (.pur true 6 (.pur true 7 .done))))))))) .z)) [t0, t1, t2] Tryz.func130 (by kernel_rfl) (by kernel_rfl) h
theorem n_integer_number_plus_1 : Enters Tryz.prog 130 := enters_of Tryz.func130 (by kernel_rfl) rfl
def s_integer_number_at (P : Program) (t0 t1 : Value) (w : World) (R : Ending → World → Prop) : Prop :=
 Bt P .len #[109] 3 #[t0] w fun t7 w =>
 Bn P .lss 3 false t1 t7 w fun t8 w =>
 If t8
 (Ia P 109 t0 t1 w fun t11 w =>
 Ld P 3 t11 w fun t12 w =>
 R (.returned t12) w)
 (R (.returned (.int .i64 0)) w)
theorem e_integer_number_at (h : s_integer_number_at Tryz.prog t0 t1 w R) : Calls Tryz.prog 131 #[t0, t1] w R :=
 en1 (.sq .z (.sq (.sq .z (.cd (.sq .z .z) .z)) (.sq .z .z))) [t0, t1] Tryz.func131 (by kernel_rfl) (by kernel_rfl) h
theorem n_integer_number_at : Enters Tryz.prog 131 := enters_of Tryz.func131 (by kernel_rfl) rfl
def s_integer_number_minus_1 (P : Program) (t0 t1 t2 : Value) (w : World) (R : Ending → World → Prop) : Prop :=
 dL P 109 t1 w.drew fun t5 =>
 dL P 109 t2 w.drew fun t8 =>
 Cl P 131 #[t5, t0] w.drew (Pk R) fun t7 w =>
 kLd P 109 t2 t8 w <|
 Cl P 131 #[t8, t0] w (Pk R) fun t10 w =>
 Dv P true (bn .sub 3 false t7 t10) w fun t11 =>
 R (.returned t11) w
theorem e_integer_number_minus_1 (h : s_integer_number_minus_1 Tryz.prog t0 t1 t2 w R) : Calls Tryz.prog 132 #[t0, t1, t2] w R :=
 en1 (.sq .z (.sq (.dr (.pur false 0 (.pur true 1 (.pur false 3 (.pur true 4 (.eff 2 [3] (.eff 5 [] (.pur true 6 (.pur true 7 .done))))))))) .z)) [t0, t1, t2] Tryz.func132 (by kernel_rfl) (by kernel_rfl) h
theorem n_integer_number_minus_1 : Enters Tryz.prog 132 := enters_of Tryz.func132 (by kernel_rfl) rfl
def s_cmp_Compare_int (P : Program) (t0 t1 : Value) (w : World) (R : Ending → World → Prop) : Prop :=
 Cl P 146 #[t0] w (Pk R) fun t8 w =>
 Cl P 146 #[t1] w (Pk R) fun t10 w =>
 If t8
 (If t10
 (R (.returned (.int .i64 0)) w)
 (R (.returned (.int .i64 (-1))) w))
 (If t10
 (R (.returned (.int .i64 1)) w)
 (Bn P .lss 3 false t0 t1 w fun t16 w =>
 If t16
 (R (.returned (.int .i64 (-1))) w)
 (Bn P .gtr 3 false t0 t1 w fun t19 w =>
 If t19
 (R (.returned (.int .i64 1)) w)
 (R (.returned (.int .i64 0)) w))))
theorem e_cmp_Compare_int (h : s_cmp_Compare_int Tryz.prog t0 t1 w R) : Calls Tryz.prog 133 #[t0, t1] w R :=
 en1 (.sq .z (.sq .z (.sq .z (.sq (.sq .z (.cd (.sq (.sq .z (.cd (.sq .z .z) .z)) (.sq .z .z)) .z)) (.sq (.sq .z (.cd (.sq .z .z) .z)) (.sq (.sq .z (.cd (.sq .z .z) .z)) (.sq (.sq .z (.cd (.sq .z .z) .z)) (.sq .z .z)))))))) [t0, t1] Tryz.func133 (by kernel_rfl) (by kernel_rfl) h
theorem n_cmp_Compare_int : Enters Tryz.prog 133 := enters_of Tryz.func133 (by kernel_rfl) rfl
def s_ref03_trim (P : Program) (t0 : Value) (w : World) (R : Ending → World → Prop) : Prop :=
 Lp1 t0 w (fun t0x1 w k1 =>
 Bt P .len #[27] 3 #[t0x1] w fun t4 w =>
 Bn P .gtr 3 true t4 (.int .i64 0) w fun t5 w =>
 Gd t5 true (fun k => k t0x1 w) w fun t7 w =>
 Gd t5 true (fun k => k t0x1 w) w fun t8 w =>
 Gd t5 true (fun k => Bt P .len #[27] 3 #[t8] w k) w fun t9 w =>
 Gd t5 true (fun k => Bn P .sub 3 true t9 (.int .i64 1) w k) w fun t10 w =>
 Gd t5 true (fun k => Ia P 27 t7 t10 w k) w fun t11 w =>
 Gd t5 true (fun k => Ld P 3 t11 w k) w fun t12 w =>
 Gd t5 true (fun k => Bn P .eql 3 true t12 (.int .i64 0) w k) w fun t13 w =>
 Pick t5 t13 (.bool false) w fun t14 w =>
 If t14
 (Bt P .len #[27] 3 #[t0x1] w fun t17 w =>
 Bn P .sub 3 true t17 (.int .i64 1) w fun t18 w =>
 Sc P 27 t0x1 none (some t18) none w fun t19 w =>
 k1 t19 w)
 (R (.returned t0x1) w))
theorem e_ref03_trim (h : s_ref03_trim Tryz.prog t0 w R) : Calls Tryz.prog 134 #[t0] w R :=
 en1 (.sq .z (.sq (.bk (.lp [0] [3, 4, 5, 6, 7, 8, 9, 10, 11, 12, 13, 14, 15, 16, 17, 18, 19] (.sq (.sq .z (.cd .z .z)) (.bk .z)))) (.sq .z .z))) [t0] Tryz.func134 (by kernel_rfl) (by kernel_rfl) h
theorem n_ref03_trim : Enters Tryz.prog 134 := enters_of Tryz.func134 (by kernel_rfl) rfl
theorem n_strings_TrimPrefix : Enters Tryz.prog 137 := enters_of Tryz.func137 (by kernel_rfl) rfl
def s_strings_Trim (P : Program) (t0 t1 : Value) (w : World) (R : Ending → World → Prop) : Prop :=
 Bn P .eql 9 true t0 (str []) w fun t8 w =>
 Gd t8 false (fun k => k t1 w) w fun t10 w =>
 Gd t8 false (fun k => Bn P .eql 9 true t10 (str []) w k) w fun t11 w =>
 Pick t8 (.bool true) t11 w fun t12 w =>
 If t12
 (R (.returned t0) w)
 (Bt P .len #[9] 3 #[t1] w fun t15 w =>
 Bn P .eql 3 true t15 (.int .i64 1) w fun t16 w =>
 Gd t16 true (fun k => k t1 w) w fun t18 w =>
 Gd t16 true (fun k => Ix P 9 t18 (.int .i64 0) w k) w fun t19 w =>
 Gd t16 true (fun k => Bn P .lss 5 true t19 (.int .u8 128) w k) w fun t20 w =>
 Pick t16 t20 (.bool false) w fun t21 w =>
 If t21
 (Dv P true (Instr.index 9 t1 (.int .i64 0)) w.drew fun t24 =>
 Dv P true (Instr.index 9 t1 (.int .i64 0)) w.drew fun t27 =>
 Cl P 151 #[t0, t24] w.drew (Pk R) fun t25 w =>
 Cl P 150 #[t25, t27] w (Pk R) fun t28 w =>
 R (.returned t28) w)
 (Cl P 152 #[t1] w (Pk R) fun t31 w =>
 Ex t31 0 w fun t32 w =>
 Ex t31 1 w fun t33 w =>
 Al P 163 w fun t5 w =>
 Sto P 163 t5 t32 w fun w =>
 If t33
 (Cl P 154 #[t0, t5] w (Pk R) fun t36 w =>
 Cl P 153 #[t36, t5] w (Pk R) fun t37 w =>
 R (.returned t37) w)
 (Cl P 156 #[t0, t1] w (Pk R) fun t40 w =>
 Cl P 155 #[t40, t1] w (Pk R) fun t42 w =>
 R (.returned t42) w)))
theorem e_strings_Trim (h : s_strings_Trim Tryz.prog t0 t1 w R) : Calls Tryz.prog 138 #[t0, t1] w R :=
 en1 (.sq .z (.sq (.sq .z (.cd (.sq .z .z) .z)) (.sq (.sq .z (.cd (.sq (.dr (.pur true 0 (.pur true 1 (.pur true 2 (.pur true 4 (.pur true 5 (.eff 3 [] (.eff 6 [] (.pur true 7 .done))))))))) .z) .z)) (.sq (.sq .z (.sq .z (.cd (.sq .z .z) .z))) (.sq .z .z))))) [t0, t1] Tryz.func138 (by kernel_rfl) (by kernel_rfl) h
theorem n_strings_Trim : Enters Tryz.prog 138 := enters_of Tryz.func138 (by kernel_rfl) rfl
theorem n_strconv_Atoi : Enters Tryz.prog 139 := enters_of Tryz.func139 (by kernel_rfl) rfl
def s_slices_Backward_integer_number_int_1 (P : Program) (t0 t1 : Value) (w : World) (R : Ending → World → Prop) : Prop :=
 Ld P 109 t1 w fun t4 w =>
 Bt P .len #[109] 3 #[t4] w fun t5 w =>
 Bn P .sub 3 true t5 (.int .i64 1) w fun t6 w =>
 Lp1 t6 w (fun t3 w k1 =>
 Bn P .geq 3 true t3 (.int .i64 0) w fun t8 w =>
 If t8
 (Ld P 109 t1 w fun t13 w =>
 Ia P 109 t13 t3 w fun t15 w =>
 Ld P 3 t15 w fun t16 w =>
 Cw P t0 #[t3, t16] w (Pk R) fun t17 w =>
 Un P .not t17 w fun t18 w =>
 If t18
 (R (.returned (.tuple #[])) w)
 (Bn P .sub 3 true t3 (.int .i64 1) w fun t10 w =>
 k1 t10 w))
 (R (.returned (.tuple #[])) w))
theorem e_slices_Backward_integer_number_int_1 (h : s_slices_Backward_integer_number_int_1 Tryz.prog t0 t1 w R) : Calls Tryz.prog 140 #[t0, t1] w R :=
 en1 (.sq .z (.bk (.lp [3] [7, 8, 9, 10, 11, 12, 13, 14, 15, 16, 17, 18] (.sq (.sq .z (.cd .z .z)) (.sq (.bk (.sq .z (.cd .z .z))) .z))))) [t0, t1] Tryz.func140 (by kernel_rfl) (by kernel_rfl) h
theorem n_slices_Backward_integer_number_int_1 : Enters Tryz.prog 140 := enters_of Tryz.func140 (by kernel_rfl) rfl
def s_strings_Builder_copyCheck (P : Program) (t0 : Value) (w : World) (R : Ending → World → Prop) : Prop :=
 Nc t0 w fun t3 w =>
 Fa P 140 t3 0 w fun t4 w =>
 Ld P 137 t4 w fun t5 w =>
 Bn P .eql 137 true t5 (.pointer none) w fun t6 w =>
 If t6
 (Cv P 137 175 t0 w fun t9 w =>
 Cl P 162 #[t9] w (Pk R) fun t10 w =>
 Cv P 175 137 t10 w fun t11 w =>
 Nc t0 w fun t12 w =>
 Fa P 140 t12 0 w fun t13 w =>
 Sto P 137 t13 t11 w fun w =>
 R (.returned (.tuple #[])) w)
 (Nc t0 w fun t15 w =>
 Fa P 140 t15 0 w fun t16 w =>
 Ld P 137 t16 w fun t17 w =>
 Bn P .neq 137 false t17 t0 w fun t19 w =>
 If t19
 (False)
 (R (.returned (.tuple #[])) w))
theorem e_strings_Builder_copyCheck (h : s_strings_Builder_copyCheck Tryz.prog t0 w R) : Calls Tryz.prog 144 #[t0] w R :=
 en1 (.sq .z (.cd .z (.sq .z (.cd .z .z)))) [t0] Tryz.func144 (by kernel_rfl) (by kernel_rfl) h
theorem n_strings_Builder_copyCheck : Enters Tryz.prog 144 := enters_of Tryz.func144 (by kernel_rfl) rfl
def s_integer_number_by_1 (P : Program) (t0 t1 t2 : Value) (w : World) (R : Ending → World → Prop) : Prop :=
 dL P 109 t1 w.drew fun t5 =>
 dL P 3 t2 w.drew fun t8 =>
 Cl P 131 #[t5, t0] w.drew (Pk R) fun t7 w =>
 kLd P 3 t2 t8 w <|
 Dv P true (bn .mul 3 false t7 t8) w fun t9 =>
 R (.returned t9) w
theorem e_integer_number_by_1 (h : s_integer_number_by_1 Tryz.prog t0 t1 t2 w R) : Calls Tryz.prog 145 #[t0, t1, t2] w R :=
 en1 (.sq .z (.sq (.dr (.pur false 0 (.pur true 1 (.pur false 3 (.eff 2 [3] (.pur true 4 (.pur true 5 .done))))))) .z)) [t0, t1, t2] Tryz.func145 (by kernel_rfl) (by kernel_rfl) h
theorem n_integer_number_by_1 : Enters Tryz.prog 145 := enters_of Tryz.func145 (by kernel_rfl) rfl
def s_cmp_isNaN_int (P : Program) (t0 : Value) (w : World) (R : Ending → World → Prop) : Prop :=
 Bn P .neq 3 false t0 t0 w fun t5 w =>
 R (.returned t5) w
theorem e_cmp_isNaN_int (h : s_cmp_isNaN_int Tryz.prog t0 w R) : Calls Tryz.prog 146 #[t0] w R :=
 en1 (.sq .z (.sq .z .z)) [t0] Tryz.func146 (by kernel_rfl) (by kernel_rfl) h
theorem n_cmp_isNaN_int : Enters Tryz.prog 146 := enters_of Tryz.func146 (by kernel_rfl) rfl
theorem n_strings_makeASCIISet : Enters Tryz.prog 152 := enters_of Tryz.func152 (by kernel_rfl) rfl
def s_strings_trimLeftASCII (P : Program) (t0 t1 : Value) (w : World) (R : Ending → World → Prop) : Prop :=
 Lp1 t0 w (fun t0x1 w k1 =>
 Bt P .len #[9] 3 #[t0x1] w fun t6 w =>
 Bn P .gtr 3 true t6 (.int .i64 0) w fun t7 w =>
 If t7
 (Ix P 9 t0x1 (.int .i64 0) w fun t10 w =>
 Cl P 167 #[t1, t10] w (Pk R) fun t11 w =>
 Un P .not t11 w fun t12 w =>
 If t12
 (R (.returned t0x1) w)
 (Sc P 9 t0x1 (some (.int .i64 1)) none none w fun t14 w =>
 k1 t14 w))
 (R (.returned t0x1) w))
theorem e_strings_trimLeftASCII (h : s_strings_trimLeftASCII Tryz.prog t0 t1 w R) : Calls Tryz.prog 153 #[t0, t1] w R :=
 en1 (.sq .z (.sq (.bk (.lp [0] [5, 6, 7, 8, 9, 10, 11, 12, 13, 14] (.sq (.sq .z (.cd .z .z)) (.bk (.sq (.sq .z (.cd .z .z)) .z))))) (.sq .z .z))) [t0, t1] Tryz.func153 (by kernel_rfl) (by kernel_rfl) h
theorem n_strings_trimLeftASCII : Enters Tryz.prog 153 := enters_of Tryz.func153 (by kernel_rfl) rfl
def s_strings_trimRightASCII (P : Program) (t0 t1 : Value) (w : World) (R : Ending → World → Prop) : Prop :=
 Lp1 t0 w (fun t0x1 w k1 =>
 Bt P .len #[9] 3 #[t0x1] w fun t6 w =>
 Bn P .gtr 3 true t6 (.int .i64 0) w fun t7 w =>
 If t7
 (Bt P .len #[9] 3 #[t0x1] w fun t11 w =>
 Bn P .sub 3 true t11 (.int .i64 1) w fun t12 w =>
 Ix P 9 t0x1 t12 w fun t13 w =>
 Cl P 167 #[t1, t13] w (Pk R) fun t14 w =>
 Un P .not t14 w fun t15 w =>
 If t15
 (R (.returned t0x1) w)
 (Bt P .len #[9] 3 #[t0x1] w fun t18 w =>
 Bn P .sub 3 true t18 (.int .i64 1) w fun t19 w =>
 Sc P 9 t0x1 none (some t19) none w fun t20 w =>
 k1 t20 w))
 (R (.returned t0x1) w))
theorem e_strings_trimRightASCII (h : s_strings_trimRightASCII Tryz.prog t0 t1 w R) : Calls Tryz.prog 154 #[t0, t1] w R :=
 en1 (.sq .z (.sq (.bk (.lp [0] [5, 6, 7, 8, 9, 10, 11, 12, 13, 14, 15, 16, 17, 18, 19, 20] (.sq (.sq .z (.cd .z .z)) (.bk (.sq (.sq .z (.cd .z .z)) .z))))) (.sq .z .z))) [t0, t1] Tryz.func154 (by kernel_rfl) (by kernel_rfl) h
theorem n_strings_trimRightASCII : Enters Tryz.prog 154 := enters_of Tryz.func154 (by kernel_rfl) rfl
theorem n_strings_asciiSet_contains : Enters Tryz.prog 167 := enters_of Tryz.func167 (by kernel_rfl) rfl
end Go.Proofs.YtjmdnjnjepinoaaGreatDoor
