/-
  Formulas of functions. By an AI agent.
-/
import Derived.Test.YthdhnhghjecfkaaGreatEng
import Derived.Test.YthdhnhghjecfkaaGreatProg
set_option linter.unusedSimpArgs false
set_option linter.unusedVariables false
set_option linter.unusedSectionVars false
namespace Go.Proofs.YthdhnhghjecfkaaGreat
open Go Go.Eng Go.Shelf
set_option maxRecDepth 100000
variable {t0 t1 t2 t3 t4 : Value} {w : World} {R : Ending → World → Prop}
def s_law37_sane (P : Program) (w : World) (R : Ending → World → Prop) : Prop :=
 Cl P 8 #[(.int .i64 2)] w (Pk R) fun t14 w =>
 Ex t14 0 w fun t15 w =>
 Ex t14 1 w fun t16 w =>
 Al P 30 w fun t1 w =>
 Sto P 30 t1 t15 w fun w =>
 Bn P .neq 31 true t16 (.int .i64 0) w fun t18 w =>
 If t18
 (R (.returned (.bool false)) w)
 (Cl P 15 #[(.int .i64 0)] w (Pk R) fun t19 w =>
 Cl P 15 #[(.int .i64 2)] w (Pk R) fun t20 w =>
 Cl P 15 #[(.int .i64 8)] w (Pk R) fun t21 w =>
 Bd P 44 [(0, (.int .i64 2)), (3, (.int .i64 1))] w fun t22 w =>
 Bd P 44 [(0, (.int .i64 3)), (4, (.int .i64 1))] w fun t23 w =>
 Bd P 44 [(0, (.int .i64 4))] w fun t24 w =>
 Bd P 44 [(0, (.int .i64 7)), (5, (.int .i64 7))] w fun t25 w =>
 Bd P 44 [(0, (.int .i64 3)), (4, (.int .i64 5))] w fun t26 w =>
 Bd P 44 [(0, (.int .i64 4))] w fun t27 w =>
 Bd P 44 [(0, (.int .i64 5)), (4, (.int .i64 1))] w fun t28 w =>
 Bd P 44 [(0, (.int .i64 8)), (5, (.int .i64 7))] w fun t29 w =>
 Bd P 44 [(0, (.int .i64 5)), (4, (.int .i64 1))] w fun t30 w =>
 Bd P 44 [(0, (.int .i64 8)), (5, (.int .i64 7))] w fun t31 w =>
 Bd P 44 [(0, (.int .i64 5)), (4, (.int .i64 1))] w fun t32 w =>
 Bs P 59 14 [(0, t19), (1, t20), (2, t21), (3, t22), (4, t23), (5, t24), (6, t25), (7, t26), (8, t27), (9, t28), (10, t29), (11, t30), (12, t31), (13, t32)] w fun t33 w =>
 Lp2 (.slice none 0 0) (.int .i64 0) w (fun t4 t5 w k1 =>
 Bt P .len #[59] 3 #[t33] w fun t36 w =>
 Bn P .lss 3 false t5 t36 w fun t37 w =>
 If t37
 (Jn3 (fun k2 =>
 dL P 30 t1 w.drew fun t41 =>
 dIx P 59 t33 t5 w.drew fun t44 =>
 dL P 44 t44 w.drew fun t45 =>
 (Cl P 13 #[t41, t45] w.drew (Pk R) fun t46 w =>
 ExP t46 0 fun t47 =>
 ExP t46 1 fun t48 =>
 ExP t46 2 fun t49 =>
 Al P 30 w fun t6 w =>
 kLd P 30 t1 t41 w <|
 kLd P 44 t44 t45 w <|
 Sto P 30 t6 t47 w fun w =>
 k2 t6 t48 t49 w) ∧
 (Al P 30 w.drew fun t6x1 w =>
 kLd P 30 t1 t41 w <|
 kLd P 44 t44 t45 w <|
 Cl P 13 #[t41, t45] w (Pk R) fun t46x1 w =>
 ExP t46x1 0 fun t47x1 =>
 ExP t46x1 1 fun t48x1 =>
 ExP t46x1 2 fun t49x1 =>
 Sto P 30 t6x1 t47x1 w fun w =>
 k2 t6x1 t48x1 t49x1 w))
 (fun t6x2 t7 t8 w =>
 Bn P .eql 31 true t8 (.int .i64 0) w fun t51 w =>
 Bn P .eql 3 true t5 (.int .i64 5) w fun t53 w =>
 Gd t53 false (fun k => k t5 w) w fun t55 w =>
 Gd t53 false (fun k => Bn P .eql 3 true t55 (.int .i64 9) w k) w fun t56 w =>
 Pick t53 (.bool true) t56 w fun t57 w =>
 Bn P .eql 4 false t51 t57 w fun t58 w =>
 If t58
 (R (.returned (.bool false)) w)
 (Jn0 (fun k3 =>
 Bn P .eql 31 true t8 (.int .i64 0) w fun t60 w =>
 If t60
 (Ld P 30 t6x2 w fun t61 w =>
 Sto P 30 t1 t61 w fun w =>
 k3 w)
 (k3 w))
 (fun w =>
 Bn P .eql 3 true t5 (.int .i64 12) w fun t63 w =>
 If t63
 (Bn P .add 3 true t5 (.int .i64 1) w fun t39 w =>
 k1 t7 t39 w)
 (Bt P .len #[35] 3 #[t7] w fun t66 w =>
 Bn P .gtr 3 true t66 (.int .i64 0) w fun t67 w =>
 If t67
 (R (.returned (.bool false)) w)
 (Bn P .add 3 true t5 (.int .i64 1) w fun t39x1 w =>
 k1 t4 t39x1 w))))))
 (Ld P 30 t1 w fun t69 w =>
 Cl P 16 #[t69] w (Pk R) fun t70 w =>
 Ex t70 0 w fun t71 w =>
 Ex t70 1 w fun t72 w =>
 Cl P 8 #[(.int .i64 5)] w (Pk R) fun t74 w =>
 Ex t74 0 w fun t75 w =>
 Ex t74 1 w fun t76 w =>
 Al P 30 w fun t11 w =>
 Sto P 30 t11 t75 w fun w =>
 Bt P .len #[35] 3 #[t4] w fun t78 w =>
 Bn P .neq 3 true t78 (.int .i64 3) w fun t79 w =>
 Gd t79 false (fun k => k t72 w) w fun t81 w =>
 Gd t79 false (fun k => Bn P .neq 31 true t81 (.int .i64 0) w k) w fun t82 w =>
 Pick t79 (.bool true) t82 w fun t83 w =>
 Gd t83 false (fun k => k t76 w) w fun t85 w =>
 Gd t83 false (fun k => Bn P .neq 31 true t85 (.int .i64 370) w k) w fun t86 w =>
 Pick t83 (.bool true) t86 w fun t87 w =>
 Gd t87 false (fun k => k t4 w) w fun t89 w =>
 Gd t87 false (fun k => k t71 w) w fun t90 w =>
 Gd t87 false (fun k => Cl P 18 #[t89, t90] w (Pk R) k) w fun t91 w =>
 Gd t87 false (fun k => Un P .not t91 w k) w fun t92 w =>
 Pick t87 (.bool true) t92 w fun t93 w =>
 Gd t93 false (fun k => Fa P 30 t1 0 w k) w fun t95 w =>
 Gd t93 false (fun k => Ld P 24 t95 w k) w fun t96 w =>
 Gd t93 false (fun k => Bt P .len #[24] 3 #[t96] w k) w fun t97 w =>
 Gd t93 false (fun k => Bn P .neq 3 true t97 (.int .i64 2) w k) w fun t98 w =>
 Pick t93 (.bool true) t98 w fun t99 w =>
 Gd t99 false (fun k => Fa P 30 t1 1 w k) w fun t101 w =>
 Gd t99 false (fun k => Ld P 25 t101 w k) w fun t102 w =>
 Gd t99 false (fun k => Bt P .len #[25] 3 #[t102] w k) w fun t103 w =>
 Gd t99 false (fun k => Bn P .neq 3 true t103 (.int .i64 8) w k) w fun t104 w =>
 Pick t99 (.bool true) t104 w fun t105 w =>
 If t105
 (R (.returned (.bool false)) w)
 (Ia P 35 t4 (.int .i64 0) w fun t107 w =>
 Fa P 42 t107 0 w fun t108 w =>
 Ld P 3 t108 w fun t109 w =>
 Bn P .eql 3 true t109 (.int .i64 0) w fun t110 w =>
 Gd t110 true (fun k => k t4 w) w fun t112 w =>
 Gd t110 true (fun k => Ia P 35 t112 (.int .i64 1) w k) w fun t113 w =>
 Gd t110 true (fun k => Fa P 42 t113 0 w k) w fun t114 w =>
 Gd t110 true (fun k => Ld P 3 t114 w k) w fun t115 w =>
 Gd t110 true (fun k => Bn P .eql 3 true t115 (.int .i64 2) w k) w fun t116 w =>
 Pick t110 t116 (.bool false) w fun t117 w =>
 Gd t117 true (fun k => k t4 w) w fun t119 w =>
 Gd t117 true (fun k => Ia P 35 t119 (.int .i64 2) w k) w fun t120 w =>
 Gd t117 true (fun k => Fa P 42 t120 0 w k) w fun t121 w =>
 Gd t117 true (fun k => Ld P 3 t121 w k) w fun t122 w =>
 Gd t117 true (fun k => Bn P .eql 3 true t122 (.int .i64 8) w k) w fun t123 w =>
 Pick t117 t123 (.bool false) w fun t124 w =>
 Gd t124 true (fun k => Fa P 30 t1 1 w k) w fun t126 w =>
 Gd t124 true (fun k => Ld P 25 t126 w k) w fun t127 w =>
 Gd t124 true (fun k => Ia P 25 t127 (.int .i64 0) w k) w fun t128 w =>
 Gd t124 true (fun k => Ld P 3 t128 w k) w fun t129 w =>
 Gd t124 true (fun k => Bn P .eql 3 true t129 (.int .i64 1) w k) w fun t130 w =>
 Pick t124 t130 (.bool false) w fun t131 w =>
 Gd t131 true (fun k => Fa P 30 t1 0 w k) w fun t133 w =>
 Gd t131 true (fun k => Ld P 24 t133 w k) w fun t134 w =>
 Gd t131 true (fun k => Ia P 24 t134 (.int .i64 0) w k) w fun t135 w =>
 Gd t131 true (fun k => Ld P 60 t135 w k) w fun t136 w =>
 Gd t131 true (fun k => Bt P .len #[60] 3 #[t136] w k) w fun t137 w =>
 Gd t131 true (fun k => Bn P .eql 3 true t137 (.int .i64 1) w k) w fun t138 w =>
 Pick t131 t138 (.bool false) w fun t139 w =>
 Gd t139 true (fun k => Fa P 30 t1 3 w k) w fun t141 w =>
 Gd t139 true (fun k => Fa P 27 t141 0 w k) w fun t142 w =>
 Gd t139 true (fun k => Ld P 3 t142 w k) w fun t143 w =>
 Gd t139 true (fun k => Bn P .eql 3 true t143 (.int .i64 0) w k) w fun t144 w =>
 Pick t139 t144 (.bool false) w fun t145 w =>
 Gd t145 true (fun k => Ld P 30 t1 w k) w fun t147 w =>
 Gd t145 true (fun k => Cl P 19 #[t147] w (Pk R) k) w fun t148 w =>
 Pick t145 t148 (.bool false) w fun t149 w =>
 Gd t149 true (fun k => Bd P 30 [] w k) w fun t151 w =>
 Gd t149 true (fun k => Cl P 19 #[t151] w (Pk R) k) w fun t152 w =>
 Gd t149 true (fun k => Un P .not t152 w k) w fun t153 w =>
 Pick t149 t153 (.bool false) w fun t154 w =>
 Gd t154 true (fun k => Ld P 30 t1 w k) w fun t156 w =>
 Gd t154 true (fun k => Ld P 30 t1 w k) w fun t157 w =>
 Gd t154 true (fun k => Cl P 14 #[t156, t157] w (Pk R) k) w fun t158 w =>
 Pick t154 t158 (.bool false) w fun t159 w =>
 Gd t159 true (fun k => Cl P 17 #[(.int .i64 19)] w (Pk R) k) w fun t161 w =>
 Gd t159 true (fun k => Bn P .eql 3 true t161 (.int .i64 3) w k) w fun t162 w =>
 Pick t159 t162 (.bool false) w fun t163 w =>
 Gd t163 true (fun k => Cl P 17 #[(.int .i64 (-1))] w (Pk R) k) w fun t165 w =>
 Gd t163 true (fun k => Bn P .eql 3 true t165 (.int .i64 (-1)) w k) w fun t166 w =>
 Pick t163 t166 (.bool false) w fun t167 w =>
 R (.returned t167) w))))
theorem e_law37_sane (h : s_law37_sane Tryz.prog  w R) : Calls Tryz.prog 7 #[] w R :=
 en1 (.sq .z (.sq .z (.sq (.sq .z (.cd (.sq .z .z) .z)) (.sq .z (.sq .z (.sq (.sq .z (.bk (.lp [4, 5] [0, 6, 7, 8, 34, 35, 36, 37, 38, 39, 40, 41, 42, 43, 44, 45, 46, 47, 48, 49, 50, 51, 52, 53, 54, 55, 56, 57, 58, 59, 60, 61, 62, 63, 64, 65, 66, 67] (.sq (.sq .z (.cd .z .z)) (.sq (.bk (.jn [6, 7, 8] [40, 41, 42, 43, 44, 45, 46, 47, 48, 49] (.dr (.pur false 0 (.pur true 1 (.pur true 2 (.pur true 3 (.pur false 4 (.alt (.eff 5 [] (.pur true 6 (.pur true 7 (.pur true 8 (.pur true 9 (.eff 10 [0, 4] (.eff 11 [] (.pur true 12 (.pur true 13 .done))))))))) (.eff 10 [0, 4] (.eff 5 [] (.pur true 6 (.pur true 7 (.pur true 8 (.pur true 9 (.eff 11 [] (.pur true 12 (.pur true 13 .done)))))))))))))))) (.sq (.sq .z (.cd (.sq .z .z) .z)) (.jn [] [59, 60, 61] (.sq .z (.cd .z .z)) (.sq .z (.cd .z (.sq .z (.cd (.sq .z .z) .z)))))))) .z))))) (.sq .z (.sq .z (.sq (.sq .z (.cd (.sq .z .z) .z)) (.sq .z .z)))))))))) [] Tryz.func7 (by kernel_rfl) (by kernel_rfl) h
theorem n_law37_sane : Enters Tryz.prog 7 := enters_of Tryz.func7 (by kernel_rfl) rfl
def s_shard_New (P : Program) (t0 : Value) (w : World) (R : Ending → World → Prop) : Prop :=
 Al P 30 w fun t2 w =>
 Cl P 20 #[t0, (.int .i64 2), (.int .i64 4)] w (Pk R) fun t7 w =>
 Un P .not t7 w fun t8 w =>
 If t8
 (Bd P 30 [] w fun t9 w =>
 Sto P 30 t2 t9 w fun w =>
 Rc P 30 t2 w fun r0 =>
 R (.returned (.tuple #[r0, (.int .i64 370)])) w)
 (Ms P 24 t0 t0 w fun t11 w =>
 Bd P 30 [(0, t11)] w fun t12 w =>
 Al P 30 w fun t4 w =>
 Sto P 30 t4 t12 w fun w =>
 Lp1 (.int .i64 0) w (fun t13 w k1 =>
 Bn P .lss 3 true t13 (.int .i64 8) w fun t14 w =>
 If t14
 (dFl P 30 t4 1 w.drew fun t16 =>
 dL P 25 t16 w.drew fun t17 =>
 Dv P true (bn .rem 3 false t13 t0) w.drew fun t20 =>
 Bs P 25 1 [(0, t20)] w.drew fun t21 w =>
 kLd P 25 t16 t17 w <|
 Bt P .append #[25, 25] 25 #[t17, t21] w fun t22 w =>
 dFl P 30 t4 1 w fun t23 =>
 Sto P 25 t23 t22 w fun w =>
 Bn P .add 3 true t13 (.int .i64 1) w fun t24 w =>
 k1 t24 w)
 (Ld P 30 t4 w fun t25 w =>
 Sto P 30 t2 t25 w fun w =>
 Rc P 30 t2 w fun r0 =>
 R (.returned (.tuple #[r0, (.int .i64 0)])) w)))
theorem e_shard_New (h : s_shard_New Tryz.prog t0 w R) : Calls Tryz.prog 8 #[t0] w R :=
 en1 (.sq .z (.sq (.sq .z (.cd (.sq .z .z) .z)) (.sq .z (.sq (.sq .z (.bk (.lp [13] [5, 14, 15, 16, 17, 18, 19, 20, 21, 22, 23, 24] (.sq .z (.sq (.cd .z .z) (.sq (.bk (.sq .z (.dr (.pur true 0 (.pur false 1 (.pur true 2 (.pur true 3 (.pur true 4 (.eff 5 [1] (.eff 6 [] (.pur true 7 (.eff 8 [] .done)))))))))))) .z)))))) (.sq .z .z))))) [t0] Tryz.func8 (by kernel_rfl) (by kernel_rfl) h
theorem n_shard_New : Enters Tryz.prog 8 := enters_of Tryz.func8 (by kernel_rfl) rfl
def s_law37_pick (P : Program) (t0 t1 : Value) (w : World) (R : Ending → World → Prop) : Prop :=
 Bn P .lss 3 true t0 (.int .i64 0) w fun t6 w =>
 If t6
 (Bn P .add 3 true t0 (.int .i64 1) w fun t8 w =>
 Un P .neg t8 w fun t9 w =>
 Bn P .rem 3 false t9 t1 w fun t12 w =>
 R (.returned t12) w)
 (Bn P .rem 3 false t0 t1 w fun t12x1 w =>
 R (.returned t12x1) w)
theorem e_law37_pick (h : s_law37_pick Tryz.prog t0 t1 w R) : Calls Tryz.prog 9 #[t0, t1] w R :=
 en1 (.sq .z (.sq (.sq .z (.cd .z .z)) (.sq .z .z))) [t0, t1] Tryz.func9 (by kernel_rfl) (by kernel_rfl) h
theorem n_law37_pick : Enters Tryz.prog 9 := enters_of Tryz.func9 (by kernel_rfl) rfl
def s_ref37_Command (P : Program) (t0 t1 : Value) (w : World) (R : Ending → World → Prop) : Prop :=
 Bx P 30 t0 w fun t2 w =>
 Bx P 46 t1 w fun t3 w =>
 Al P 44 w fun t4 w =>
 Ia P 46 t3 (.int .i64 0) w fun t7 w =>
 Ld P 3 t7 w fun t8 w =>
 Cl P 21 #[t8, (.int .i64 12)] w (Pk R) fun t9 w =>
 Jn1 (fun k1 =>
 Bn P .eql 3 true t9 (.int .i64 0) w fun t11 w =>
 If t11
 (k1 t11 w)
 (Bn P .eql 3 true t9 (.int .i64 1) w fun t12 w =>
 If t12
 (k1 t12 w)
 (Bn P .eql 3 true t9 (.int .i64 2) w fun t13 w =>
 k1 t13 w)))
 (fun t10 w =>
 If t10
 (Jn1 (fun k2 =>
 Dv P true (Instr.indexAt 46 t3 (.int .i64 1)) w.drew fun t14 =>
 dL P 3 t14 w.drew fun t15 =>
 Dv P true (Instr.indexAt 46 t3 (.int .i64 2)) w.drew fun t17 =>
 dL P 3 t17 w.drew fun t18 =>
 Dv P true (Instr.indexAt 46 t3 (.int .i64 3)) w.drew fun t20 =>
 dL P 3 t20 w.drew fun t21 =>
 (Cl P 21 #[t15, (.int .i64 30)] w.drew (Pk R) fun t16 w =>
 kLd P 3 t17 t18 w <|
 kLd P 3 t20 t21 w <|
 (Cl P 21 #[t18, (.int .i64 3)] w (Pk R) fun t19 w =>
 kLd P 3 t20 t21 w <|
 (Cl P 21 #[t21, (.int .i64 50)] w (Pk R) fun t22 w =>
 Dv P true (Instr.build 42 #[(0, t16), (1, t19), (5, (.int .i64 (-1))), (7, t22), (8, (.int .i64 50))]) w fun t23 =>
 Al P 42 w fun t5 w =>
 kLd P 3 t14 t15 w <|
 kLd P 3 t17 t18 w <|
 kLd P 3 t20 t21 w <|
 Sto P 42 t5 t23 w fun w =>
 k2 t5 w) ∧
 (Al P 42 w fun t5x1 w =>
 kLd P 3 t14 t15 w <|
 kLd P 3 t17 t18 w <|
 kLd P 3 t20 t21 w <|
 Cl P 21 #[t21, (.int .i64 50)] w (Pk R) fun t22x1 w =>
 Dv P true (Instr.build 42 #[(0, t16), (1, t19), (5, (.int .i64 (-1))), (7, t22x1), (8, (.int .i64 50))]) w fun t23x1 =>
 Sto P 42 t5x1 t23x1 w fun w =>
 k2 t5x1 w)) ∧
 (Al P 42 w fun t5x2 w =>
 kLd P 3 t14 t15 w <|
 kLd P 3 t17 t18 w <|
 kLd P 3 t20 t21 w <|
 Cl P 21 #[t18, (.int .i64 3)] w (Pk R) fun t19x1 w =>
 kLd P 3 t20 t21 w <|
 Cl P 21 #[t21, (.int .i64 50)] w (Pk R) fun t22x2 w =>
 Dv P true (Instr.build 42 #[(0, t16), (1, t19x1), (5, (.int .i64 (-1))), (7, t22x2), (8, (.int .i64 50))]) w fun t23x2 =>
 Sto P 42 t5x2 t23x2 w fun w =>
 k2 t5x2 w)) ∧
 (Al P 42 w.drew fun t5x3 w =>
 kLd P 3 t14 t15 w <|
 kLd P 3 t17 t18 w <|
 kLd P 3 t20 t21 w <|
 Cl P 21 #[t15, (.int .i64 30)] w (Pk R) fun t16x1 w =>
 kLd P 3 t17 t18 w <|
 kLd P 3 t20 t21 w <|
 Cl P 21 #[t18, (.int .i64 3)] w (Pk R) fun t19x2 w =>
 kLd P 3 t20 t21 w <|
 Cl P 21 #[t21, (.int .i64 50)] w (Pk R) fun t22x3 w =>
 Dv P true (Instr.build 42 #[(0, t16x1), (1, t19x2), (5, (.int .i64 (-1))), (7, t22x3), (8, (.int .i64 50))]) w fun t23x3 =>
 Sto P 42 t5x3 t23x3 w fun w =>
 k2 t5x3 w))
 (fun t5x4 w =>
 Fa P 42 t5x4 0 w fun t24 w =>
 Ld P 3 t24 w fun t25 w =>
 Bn P .quo 3 true t25 (.int .i64 10) w fun t26 w =>
 Fa P 42 t5x4 6 w fun t27 w =>
 Sto P 3 t27 t26 w fun w =>
 Ld P 42 t5x4 w fun t28 w =>
 Bd P 44 [(0, (.int .i64 1)), (1, t28)] w fun t29 w =>
 Sto P 44 t4 t29 w fun w =>
 Rc P 44 t4 w fun r0 =>
 R (.returned r0) w))
 (Jn1 (fun k3 =>
 Bn P .eql 3 true t9 (.int .i64 3) w fun t31 w =>
 If t31
 (k3 t31 w)
 (Bn P .eql 3 true t9 (.int .i64 4) w fun t32 w =>
 k3 t32 w))
 (fun t30 w =>
 If t30
 (Fa P 30 t2 3 w fun t33 w =>
 Fa P 27 t33 0 w fun t34 w =>
 Ld P 3 t34 w fun t35 w =>
 Bn P .eql 3 true t35 (.int .i64 0) w fun t36 w =>
 If t36
 (Ia P 46 t3 (.int .i64 1) w fun t37 w =>
 Ld P 3 t37 w fun t38 w =>
 Cl P 21 #[t38, (.int .i64 8)] w (Pk R) fun t39 w =>
 dFl P 30 t2 1 w.drew fun t41 =>
 dL P 25 t41 w.drew fun t42 =>
 dIx P 25 t42 t39 w.drew fun t44 =>
 dL P 3 t44 w.drew fun t45 =>
 Dv P true (bn .add 3 true t45 (.int .i64 1)) w.drew fun t46 =>
 Dv P true (Instr.indexAt 46 t3 (.int .i64 2)) w.drew fun t47 =>
 dL P 3 t47 w.drew fun t48 =>
 dFl P 30 t2 0 w.drew fun t49 =>
 dL P 24 t49 w.drew fun t50 =>
 Dv P true (bV .len #[24] 3 #[t50]) w.drew fun t51 =>
 Dv P true (bn .sub 3 true t51 (.int .i64 1)) w.drew fun t52 =>
 dFl P 30 t2 0 w.drew fun t55 =>
 dL P 24 t55 w.drew fun t56 =>
 Dv P true (bV .len #[24] 3 #[t56]) w.drew fun t57 =>
 Cl P 21 #[t48, t52] w.drew (Pk R) fun t53 w =>
 kLd P 25 t41 t42 w <|
 kLd P 3 t44 t45 w <|
 kLd P 24 t55 t56 w <|
 Dv P true (bn .add 3 false t46 t53) w fun t54 =>
 Dv P true (bn .rem 3 false t54 t57) w fun t58 =>
 Dv P true (Instr.build 44 #[(0, (.int .i64 2)), (2, t39), (3, t58)]) w fun t59 =>
 Sto P 44 t4 t59 w fun w =>
 Rc P 44 t4 w fun r0 =>
 R (.returned r0) w)
 (Fa P 30 t2 3 w fun t60 w =>
 Fa P 27 t60 0 w fun t61 w =>
 Ld P 3 t61 w fun t62 w =>
 Bn P .eql 3 true t62 (.int .i64 1) w fun t63 w =>
 If t63
 (Ia P 46 t3 (.int .i64 1) w fun t64 w =>
 Ld P 3 t64 w fun t65 w =>
 Cl P 21 #[t65, (.int .i64 3)] w (Pk R) fun t66 w =>
 Bn P .add 3 true (.int .i64 1) t66 w fun t67 w =>
 Bd P 44 [(0, (.int .i64 3)), (4, t67)] w fun t68 w =>
 Sto P 44 t4 t68 w fun w =>
 Rc P 44 t4 w fun r0 =>
 R (.returned r0) w)
 (Ia P 46 t3 (.int .i64 1) w fun t69 w =>
 Ld P 3 t69 w fun t70 w =>
 Cl P 21 #[t70, (.int .i64 3)] w (Pk R) fun t71 w =>
 Bn P .add 3 true (.int .i64 1) t71 w fun t72 w =>
 Bd P 44 [(0, (.int .i64 5)), (4, t72)] w fun t73 w =>
 Sto P 44 t4 t73 w fun w =>
 Rc P 44 t4 w fun r0 =>
 R (.returned r0) w)))
 (Bn P .eql 3 true t9 (.int .i64 5) w fun t75 w =>
 If t75
 (Fa P 30 t2 3 w fun t76 w =>
 Fa P 27 t76 0 w fun t77 w =>
 Ld P 3 t77 w fun t78 w =>
 Bn P .eql 3 true t78 (.int .i64 1) w fun t79 w =>
 If t79
 (Bd P 44 [(0, (.int .i64 4))] w fun t80 w =>
 Sto P 44 t4 t80 w fun w =>
 Rc P 44 t4 w fun r0 =>
 R (.returned r0) w)
 (Ia P 46 t3 (.int .i64 1) w fun t81 w =>
 Ld P 3 t81 w fun t82 w =>
 Cl P 21 #[t82, (.int .i64 4)] w (Pk R) fun t83 w =>
 Bn P .add 3 true (.int .i64 1) t83 w fun t84 w =>
 Bd P 44 [(0, (.int .i64 5)), (4, t84)] w fun t85 w =>
 Sto P 44 t4 t85 w fun w =>
 Rc P 44 t4 w fun r0 =>
 R (.returned r0) w))
 (Bn P .eql 3 true t9 (.int .i64 6) w fun t87 w =>
 If t87
 (Ia P 46 t3 (.int .i64 1) w fun t88 w =>
 Ld P 3 t88 w fun t89 w =>
 Cl P 21 #[t89, (.int .i64 4)] w (Pk R) fun t90 w =>
 Bn P .add 3 true (.int .i64 1) t90 w fun t91 w =>
 Bd P 44 [(0, (.int .i64 3)), (4, t91)] w fun t92 w =>
 Sto P 44 t4 t92 w fun w =>
 Rc P 44 t4 w fun r0 =>
 R (.returned r0) w)
 (Bn P .eql 3 true t9 (.int .i64 7) w fun t94 w =>
 If t94
 (Ia P 46 t3 (.int .i64 1) w fun t95 w =>
 Ld P 3 t95 w fun t96 w =>
 Cl P 21 #[t96, (.int .i64 4)] w (Pk R) fun t97 w =>
 Bn P .eql 3 true t97 (.int .i64 0) w fun t98 w =>
 If t98
 (Bd P 44 [(0, (.int .i64 6))] w fun t99 w =>
 Sto P 44 t4 t99 w fun w =>
 Rc P 44 t4 w fun r0 =>
 R (.returned r0) w)
 (Bd P 44 [(0, (.int .i64 4))] w fun t100 w =>
 Sto P 44 t4 t100 w fun w =>
 Rc P 44 t4 w fun r0 =>
 R (.returned r0) w))
 (Bn P .eql 3 true t9 (.int .i64 8) w fun t102 w =>
 If t102
 (Ia P 46 t3 (.int .i64 1) w fun t103 w =>
 Ld P 3 t103 w fun t104 w =>
 Cl P 21 #[t104, (.int .i64 5)] w (Pk R) fun t105 w =>
 Bd P 44 [(0, (.int .i64 7)), (5, t105)] w fun t106 w =>
 Sto P 44 t4 t106 w fun w =>
 Rc P 44 t4 w fun r0 =>
 R (.returned r0) w)
 (Fa P 30 t2 4 w fun t107 w =>
 Ld P 28 t107 w fun t108 w =>
 Bt P .len #[28] 3 #[t108] w fun t109 w =>
 Bn P .gtr 3 true t109 (.int .i64 0) w fun t110 w =>
 If t110
 (dFl P 30 t2 4 w.drew fun t111 =>
 dL P 28 t111 w.drew fun t112 =>
 Dv P true (Instr.indexAt 46 t3 (.int .i64 1)) w.drew fun t113 =>
 dL P 3 t113 w.drew fun t114 =>
 dFl P 30 t2 4 w.drew fun t115 =>
 dL P 28 t115 w.drew fun t116 =>
 Dv P true (bV .len #[28] 3 #[t116]) w.drew fun t117 =>
 Cl P 21 #[t114, t117] w.drew (Pk R) fun t118 w =>
 kLd P 28 t111 t112 w <|
 dIx P 28 t112 t118 w fun t119 =>
 dFl P 48 t119 0 w fun t120 =>
 dL P 3 t120 w fun t121 =>
 Dv P true (Instr.build 44 #[(0, (.int .i64 8)), (5, t121)]) w fun t122 =>
 Sto P 44 t4 t122 w fun w =>
 Rc P 44 t4 w fun r0 =>
 R (.returned r0) w)
 (Ia P 46 t3 (.int .i64 1) w fun t123 w =>
 Ld P 3 t123 w fun t124 w =>
 Cl P 21 #[t124, (.int .i64 5)] w (Pk R) fun t125 w =>
 Bd P 44 [(0, (.int .i64 7)), (5, t125)] w fun t126 w =>
 Sto P 44 t4 t126 w fun w =>
 Rc P 44 t4 w fun r0 =>
 R (.returned r0) w)))))))))
theorem e_ref37_Command (h : s_ref37_Command Tryz.prog t0 t1 w R) : Calls Tryz.prog 11 #[t0, t1] w R :=
 en1 (.sq .z (.sq (.sq .z (.bk (.jn [10] [11, 12, 13] (.sq .z (.cd .z (.sq .z (.cd .z .z)))) (.cd (.jn [5] [14, 15, 16, 17, 18, 19, 20, 21, 22, 23] (.dr (.pur true 0 (.pur false 1 (.pur true 3 (.pur false 4 (.pur true 6 (.pur false 7 (.alt (.eff 2 [4, 7] (.alt (.eff 5 [7] (.alt (.eff 8 [] (.pur true 9 (.eff 10 [1, 4, 7] (.eff 11 [] .done)))) (.eff 10 [1, 4, 7] (.eff 8 [] (.pur true 9 (.eff 11 [] .done)))))) (.eff 10 [1, 4, 7] (.eff 5 [7] (.eff 8 [] (.pur true 9 (.eff 11 [] .done))))))) (.eff 10 [1, 4, 7] (.eff 2 [4, 7] (.eff 5 [7] (.eff 8 [] (.pur true 9 (.eff 11 [] .done)))))))))))))) (.sq .z (.sq .z .z))) (.jn [30] [31, 32] (.sq .z (.cd .z .z)) (.cd (.sq (.sq .z (.cd (.sq .z (.sq (.dr (.pur true 0 (.pur true 1 (.pur false 2 (.pur true 3 (.pur true 4 (.pur false 5 (.pur true 6 (.pur true 7 (.pur false 8 (.pur true 9 (.pur false 10 (.pur true 11 (.pur true 12 (.pur true 15 (.pur false 16 (.pur true 17 (.eff 13 [2, 5, 16] (.pur true 14 (.pur true 18 (.pur true 19 (.eff 20 [] .done)))))))))))))))))))))) .z)) .z)) (.sq (.sq .z (.cd (.sq .z .z) .z)) (.sq .z .z))) (.sq .z (.cd (.sq (.sq .z (.cd (.sq .z .z) .z)) (.sq .z .z)) (.sq .z (.cd (.sq .z .z) (.sq .z (.cd (.sq (.sq .z (.cd (.sq .z .z) .z)) (.sq .z .z)) (.sq .z (.cd (.sq .z .z) .z)))))))))))))) (.sq (.sq .z (.cd (.sq (.dr (.pur true 0 (.pur false 1 (.pur true 2 (.pur false 3 (.pur true 4 (.pur false 5 (.pur true 6 (.eff 7 [1] (.pur true 8 (.pur true 9 (.pur false 10 (.pur true 11 (.eff 12 [] .done)))))))))))))) .z) .z)) (.sq .z .z)))) [t0, t1] Tryz.func11 (by kernel_rfl) (by kernel_rfl) h
theorem n_ref37_Command : Enters Tryz.prog 11 := enters_of Tryz.func11 (by kernel_rfl) rfl
def s_ref37_Played (P : Program) (t0 t1 : Value) (w : World) (R : Ending → World → Prop) : Prop :=
 Al P 30 w fun t4 w =>
 Cl P 21 #[t0, (.int .i64 3)] w (Pk R) fun t13 w =>
 Bn P .add 3 true (.int .i64 2) t13 w fun t14 w =>
 Cl P 22 #[t14] w (Pk R) fun t15 w =>
 Ex t15 0 w fun t16 w =>
 Ex t15 1 w fun t17 w =>
 Al P 30 w fun t5 w =>
 Sto P 30 t5 t16 w fun w =>
 Lp1 (.int .i64 0) w (fun t7 w k1 =>
 Bt P .len #[22] 3 #[t1] w fun t20 w =>
 Bn P .lss 3 false t7 t20 w fun t21 w =>
 Gd t21 true (fun k => k t7 w) w fun t23 w =>
 Gd t21 true (fun k => Bn P .lss 3 true t23 (.int .i64 40) w k) w fun t24 w =>
 Pick t21 t24 (.bool false) w fun t25 w =>
 Gd t25 true (fun k => k t17 w) w fun t27 w =>
 Gd t25 true (fun k => Bn P .eql 31 true t27 (.int .i64 0) w k) w fun t28 w =>
 Pick t25 t28 (.bool false) w fun t29 w =>
 If t29
 (Jn2 (fun k2 =>
 dL P 30 t5 w.drew fun t33 =>
 dL P 30 t5 w.drew fun t34 =>
 dIx P 22 t1 t7 w.drew fun t37 =>
 dL P 46 t37 w.drew fun t38 =>
 (Cl P 11 #[t34, t38] w.drew (Pk R) fun t39 w =>
 kLd P 30 t5 t33 w <|
 (Cl P 23 #[t33, t39] w (Pk R) fun t40 w =>
 ExP t40 0 fun t41 =>
 ExP t40 1 fun t42 =>
 ExP t40 2 fun t43 =>
 Al P 30 w fun t8 w =>
 kLd P 30 t5 t33 w <|
 kLd P 30 t5 t34 w <|
 kLd P 46 t37 t38 w <|
 Sto P 30 t8 t41 w fun w =>
 k2 t8 t43 w) ∧
 (Al P 30 w fun t8x1 w =>
 kLd P 30 t5 t33 w <|
 kLd P 30 t5 t34 w <|
 kLd P 46 t37 t38 w <|
 Cl P 23 #[t33, t39] w (Pk R) fun t40x1 w =>
 ExP t40x1 0 fun t41x1 =>
 ExP t40x1 1 fun t42x1 =>
 ExP t40x1 2 fun t43x1 =>
 Sto P 30 t8x1 t41x1 w fun w =>
 k2 t8x1 t43x1 w)) ∧
 (Al P 30 w.drew fun t8x2 w =>
 kLd P 30 t5 t33 w <|
 kLd P 30 t5 t34 w <|
 kLd P 46 t37 t38 w <|
 Cl P 11 #[t34, t38] w (Pk R) fun t39x1 w =>
 kLd P 30 t5 t33 w <|
 Cl P 23 #[t33, t39x1] w (Pk R) fun t40x2 w =>
 ExP t40x2 0 fun t41x2 =>
 ExP t40x2 1 fun t42x2 =>
 ExP t40x2 2 fun t43x2 =>
 Sto P 30 t8x2 t41x2 w fun w =>
 k2 t8x2 t43x2 w))
 (fun t8x3 t10 w =>
 Bn P .eql 31 true t10 (.int .i64 0) w fun t45 w =>
 If t45
 (Ld P 30 t8x3 w fun t46 w =>
 Sto P 30 t5 t46 w fun w =>
 Bn P .add 3 true t7 (.int .i64 1) w fun t31 w =>
 k1 t31 w)
 (Bn P .add 3 true t7 (.int .i64 1) w fun t31x1 w =>
 k1 t31x1 w)))
 (Ld P 30 t5 w fun t47 w =>
 Sto P 30 t4 t47 w fun w =>
 Rc P 30 t4 w fun r0 =>
 R (.returned r0) w))
theorem e_ref37_Played (h : s_ref37_Played Tryz.prog t0 t1 w R) : Calls Tryz.prog 12 #[t0, t1] w R :=
 en1 (.sq .z (.sq .z (.sq (.sq .z (.bk (.lp [7] [8, 9, 10, 18, 19, 20, 21, 22, 23, 24, 25, 26, 27, 28, 29, 30, 31, 32, 33, 34, 35, 36, 37, 38, 39, 40, 41, 42, 43, 44, 45, 46] (.sq (.sq .z (.cd .z .z)) (.sq (.bk (.jn [8, 10] [9, 32, 33, 34, 35, 36, 37, 38, 39, 40, 41, 42, 43] (.dr (.pur false 0 (.pur false 1 (.pur true 2 (.pur true 3 (.pur true 4 (.pur false 5 (.alt (.eff 6 [0] (.alt (.eff 7 [] (.pur true 8 (.pur true 9 (.pur true 10 (.pur true 11 (.eff 12 [0, 1, 5] (.eff 13 [] (.pur true 14 (.pur true 15 .done))))))))) (.eff 12 [0, 1, 5] (.eff 7 [] (.pur true 8 (.pur true 9 (.pur true 10 (.pur true 11 (.eff 13 [] (.pur true 14 (.pur true 15 .done))))))))))) (.eff 12 [0, 1, 5] (.eff 6 [0] (.eff 7 [] (.pur true 8 (.pur true 9 (.pur true 10 (.pur true 11 (.eff 13 [] (.pur true 14 (.pur true 15 .done)))))))))))))))))) (.sq .z (.cd .z .z)))) .z))))) (.sq .z .z)))) [t0, t1] Tryz.func12 (by kernel_rfl) (by kernel_rfl) h
theorem n_ref37_Played : Enters Tryz.prog 12 := enters_of Tryz.func12 (by kernel_rfl) rfl
def s_shard_Do (P : Program) (t0 t1 : Value) (w : World) (R : Ending → World → Prop) : Prop :=
 Bx P 30 t0 w fun t2 w =>
 Bx P 44 t1 w fun t3 w =>
 Al P 30 w fun t4 w =>
 Mm P 71 none w fun t10 w =>
 Mu P 71 t10 (.int .i64 1) (.func (.func 24) #[] #[]) w fun w =>
 Mu P 71 t10 (.int .i64 2) (.func (.func 25) #[] #[]) w fun w =>
 Mu P 71 t10 (.int .i64 3) (.func (.func 26) #[] #[]) w fun w =>
 Mu P 71 t10 (.int .i64 4) (.func (.func 27) #[] #[]) w fun w =>
 Mu P 71 t10 (.int .i64 5) (.func (.func 28) #[] #[]) w fun w =>
 Mu P 71 t10 (.int .i64 6) (.func (.func 29) #[] #[]) w fun w =>
 Mu P 71 t10 (.int .i64 7) (.func (.func 30) #[] #[]) w fun w =>
 Mu P 71 t10 (.int .i64 8) (.func (.func 31) #[] #[]) w fun w =>
 Fa P 44 t3 0 w fun t13 w =>
 Ld P 3 t13 w fun t14 w =>
 Lk P 71 t10 t14 false w fun t15 w =>
 Al P 68 w fun t8 w =>
 Sto P 68 t8 t15 w fun w =>
 Ld P 68 t8 w fun t16 w =>
 Bn P .eql 68 true t16 .nilFunc w fun t17 w =>
 Gd t17 false (fun k => Ld P 44 t3 w k) w fun t19 w =>
 Gd t17 false (fun k => Cl P 32 #[t19] w (Pk R) k) w fun t20 w =>
 Gd t17 false (fun k => Bd P 44 [] w k) w fun t21 w =>
 Gd t17 false (fun k => Bn P .neq 44 false t20 t21 w k) w fun t22 w =>
 Pick t17 (.bool true) t22 w fun t23 w =>
 Gd t23 false (fun k => Ld P 30 t2 w k) w fun t25 w =>
 Gd t23 false (fun k => Cl P 19 #[t25] w (Pk R) k) w fun t26 w =>
 Gd t23 false (fun k => Un P .not t26 w k) w fun t27 w =>
 Pick t23 (.bool true) t27 w fun t28 w =>
 If t28
 (Bd P 30 [] w fun t29 w =>
 Sto P 30 t4 t29 w fun w =>
 Rc P 30 t4 w fun r0 =>
 R (.returned (.tuple #[r0, (.slice none 0 0), (.int .i64 370)])) w)
 (Ld P 30 t2 w fun t30 w =>
 Cl P 33 #[t30] w (Pk R) fun t31 w =>
 Al P 70 w fun t9 w =>
 Sto P 70 t9 t31 w fun w =>
 Cl P 34 #[(.func (.func 35) #[] #[t8, t9, t3])] w (Pk R) fun t33 w =>
 Un P .not t33 w fun t34 w =>
 If t34
 (Bd P 30 [] w fun t35 w =>
 Sto P 30 t4 t35 w fun w =>
 Rc P 30 t4 w fun r0 =>
 R (.returned (.tuple #[r0, (.slice none 0 0), (.int .i64 370)])) w)
 (dL P 70 t9 w.drew fun t36 =>
 NcP t36 fun t37 =>
 dFl P 78 t37 0 w.drew fun t38 =>
 dFl P 76 t38 0 w.drew fun t39 =>
 dL P 30 t39 w.drew fun t40 =>
 dL P 70 t9 w.drew fun t41 =>
 NcP t41 fun t42 =>
 dFl P 78 t42 1 w.drew fun t43 =>
 dL P 35 t43 w.drew fun t44 =>
 Sto P 30 t4 t40 w.drew fun w =>
 kLd P 70 t9 t41 w <|
 kLd P 35 t43 t44 w <|
 Rc P 30 t4 w fun r0 =>
 R (.returned (.tuple #[r0, t44, (.int .i64 0)])) w))
theorem e_shard_Do (h : s_shard_Do Tryz.prog t0 t1 w R) : Calls Tryz.prog 13 #[t0, t1] w R :=
 en1 (.sq .z (.sq .z (.sq .z (.sq (.sq .z (.cd (.sq .z .z) .z)) (.sq .z (.sq (.sq .z (.cd (.sq .z .z) .z)) (.sq (.dr (.pur false 0 (.pur true 1 (.pur true 2 (.pur true 3 (.pur false 4 (.pur false 5 (.pur true 6 (.pur true 7 (.pur false 8 (.eff 9 [5, 8] (.pur true 10 (.pur true 11 .done))))))))))))) .z))))))) [t0, t1] Tryz.func13 (by kernel_rfl) (by kernel_rfl) h
theorem n_shard_Do : Enters Tryz.prog 13 := enters_of Tryz.func13 (by kernel_rfl) rfl
def s_shard_Same (P : Program) (t0 t1 : Value) (w : World) (R : Ending → World → Prop) : Prop :=
 Bx P 30 t0 w fun t2 w =>
 Bx P 30 t1 w fun t3 w =>
 Fa P 30 t2 0 w fun t7 w =>
 Ld P 24 t7 w fun t8 w =>
 Fa P 30 t3 0 w fun t9 w =>
 Ld P 24 t9 w fun t10 w =>
 Cl P 36 #[t8, t10, (.func (.func 37) #[] #[])] w (Pk R) fun t11 w =>
 Fa P 30 t2 4 w fun t12 w =>
 Ld P 28 t12 w fun t13 w =>
 Fa P 30 t3 4 w fun t14 w =>
 Ld P 28 t14 w fun t15 w =>
 Cl P 39 #[t13, t15, (.func (.func 40) #[] #[])] w (Pk R) fun t16 w =>
 Gd t11 true (fun k => k t16 w) w fun t19 w =>
 Pick t11 t19 (.bool false) w fun t20 w =>
 Gd t20 true (fun k => Fa P 30 t2 1 w k) w fun t22 w =>
 Gd t20 true (fun k => Ld P 25 t22 w k) w fun t23 w =>
 Gd t20 true (fun k => Fa P 30 t3 1 w k) w fun t24 w =>
 Gd t20 true (fun k => Ld P 25 t24 w k) w fun t25 w =>
 Gd t20 true (fun k => Cl P 41 #[t23, t25] w (Pk R) k) w fun t26 w =>
 Pick t20 t26 (.bool false) w fun t27 w =>
 Gd t27 true (fun k => Fa P 30 t2 2 w k) w fun t29 w =>
 Gd t27 true (fun k => Ld P 3 t29 w k) w fun t30 w =>
 Gd t27 true (fun k => Fa P 30 t3 2 w k) w fun t31 w =>
 Gd t27 true (fun k => Ld P 3 t31 w k) w fun t32 w =>
 Gd t27 true (fun k => Bn P .eql 3 false t30 t32 w k) w fun t33 w =>
 Pick t27 t33 (.bool false) w fun t34 w =>
 Gd t34 true (fun k => Fa P 30 t2 3 w k) w fun t36 w =>
 Gd t34 true (fun k => Ld P 27 t36 w k) w fun t37 w =>
 Gd t34 true (fun k => Fa P 30 t3 3 w k) w fun t38 w =>
 Gd t34 true (fun k => Ld P 27 t38 w k) w fun t39 w =>
 Gd t34 true (fun k => Bn P .eql 27 false t37 t39 w k) w fun t40 w =>
 Pick t34 t40 (.bool false) w fun t41 w =>
 R (.returned t41) w
theorem e_shard_Same (h : s_shard_Same Tryz.prog t0 t1 w R) : Calls Tryz.prog 14 #[t0, t1] w R :=
 en1 (.sq .z (.sq .z (.sq .z (.sq .z .z)))) [t0, t1] Tryz.func14 (by kernel_rfl) (by kernel_rfl) h
theorem n_shard_Same : Enters Tryz.prog 14 := enters_of Tryz.func14 (by kernel_rfl) rfl
def s_law37_put (P : Program) (t0 : Value) (w : World) (R : Ending → World → Prop) : Prop :=
 Al P 44 w fun t2 w =>
 Bn P .quo 3 true t0 (.int .i64 10) w fun t5 w =>
 Bd P 42 [(0, t0), (5, (.int .i64 (-1))), (6, t5)] w fun t6 w =>
 Bd P 44 [(0, (.int .i64 1)), (1, t6)] w fun t7 w =>
 Sto P 44 t2 t7 w fun w =>
 Rc P 44 t2 w fun r0 =>
 R (.returned r0) w
theorem e_law37_put (h : s_law37_put Tryz.prog t0 w R) : Calls Tryz.prog 15 #[t0] w R :=
 en1 (.sq .z (.sq .z .z)) [t0] Tryz.func15 (by kernel_rfl) (by kernel_rfl) h
theorem n_law37_put : Enters Tryz.prog 15 := enters_of Tryz.func15 (by kernel_rfl) rfl
def s_shard_Facts (P : Program) (t0 : Value) (w : World) (R : Ending → World → Prop) : Prop :=
 Bx P 30 t0 w fun t1 w =>
 Ld P 30 t1 w fun t7 w =>
 Cl P 19 #[t7] w (Pk R) fun t8 w =>
 Un P .not t8 w fun t9 w =>
 If t9
 (R (.returned (.tuple #[(.slice none 0 0), (.int .i64 370)])) w)
 (Ld P 30 t1 w fun t10 w =>
 Bd P 76 [(0, t10)] w fun t11 w =>
 Bx P 76 t11 w fun t12 w =>
 Cl P 43 #[t12] w (Pk R) fun t13 w =>
 Bt P .len #[60] 3 #[t13] w fun t14 w =>
 Lp2 (.slice none 0 0) (.int .i64 0) w (fun t4 t15 w k1 =>
 Bn P .lss 3 false t15 t14 w fun t16 w =>
 If t16
 (Ia P 60 t13 t15 w fun t17 w =>
 Ld P 62 t17 w fun t18 w =>
 Al P 62 w fun t6 w =>
 Sto P 62 t6 t18 w fun w =>
 Fa P 62 t6 0 w fun t20 w =>
 Ld P 42 t20 w fun t21 w =>
 Bs P 35 1 [(0, t21)] w fun t22 w =>
 Bt P .append #[35, 35] 35 #[t4, t22] w fun t23 w =>
 Bn P .add 3 true t15 (.int .i64 1) w fun t24 w =>
 k1 t23 t24 w)
 (Cl P 44 #[t4, (.func (.func 45) #[] #[])] w (Pk R) fun t26 w =>
 R (.returned (.tuple #[t4, (.int .i64 0)])) w)))
theorem e_shard_Facts (h : s_shard_Facts Tryz.prog t0 w R) : Calls Tryz.prog 16 #[t0] w R :=
 en1 (.sq .z (.sq (.sq .z (.cd (.sq .z .z) .z)) (.sq .z (.sq (.sq .z (.bk (.lp [4, 15] [6, 16, 17, 18, 19, 20, 21, 22, 23, 24] (.sq .z (.sq (.cd .z .z) (.sq (.bk (.sq .z .z)) .z)))))) (.sq .z (.sq .z .z)))))) [t0] Tryz.func16 (by kernel_rfl) (by kernel_rfl) h
theorem n_shard_Facts : Enters Tryz.prog 16 := enters_of Tryz.func16 (by kernel_rfl) rfl
def s_shard_Slot (P : Program) (t0 : Value) (w : World) (R : Ending → World → Prop) : Prop :=
 Bn P .lss 3 true t0 (.int .i64 0) w fun t4 w =>
 Gd t4 false (fun k => k t0 w) w fun t6 w =>
 Gd t4 false (fun k => Bn P .gtr 3 true t6 (.int .i64 999) w k) w fun t7 w =>
 Pick t4 (.bool true) t7 w fun t8 w =>
 If t8
 (R (.returned (.int .i64 (-1))) w)
 (Bn P .rem 3 true t0 (.int .i64 8) w fun t10 w =>
 R (.returned t10) w)
theorem e_shard_Slot (h : s_shard_Slot Tryz.prog t0 w R) : Calls Tryz.prog 17 #[t0] w R :=
 en1 (.sq .z (.sq (.sq .z (.cd (.sq .z .z) .z)) (.sq .z .z))) [t0] Tryz.func17 (by kernel_rfl) (by kernel_rfl) h
theorem n_shard_Slot : Enters Tryz.prog 17 := enters_of Tryz.func17 (by kernel_rfl) rfl
def s_ref37_SameFacts (P : Program) (t0 t1 : Value) (w : World) (R : Ending → World → Prop) : Prop :=
 Bt P .len #[35] 3 #[t0] w fun t7 w =>
 Bt P .len #[35] 3 #[t1] w fun t9 w =>
 Bn P .neq 3 false t7 t9 w fun t10 w =>
 If t10
 (R (.returned (.bool false)) w)
 (Lp1 (.int .i64 0) w (fun t5 w k1 =>
 Bt P .len #[35] 3 #[t0] w fun t13 w =>
 Bn P .lss 3 false t5 t13 w fun t14 w =>
 If t14
 (dIx P 35 t0 t5 w.drew fun t19 =>
 dL P 42 t19 w.drew fun t20 =>
 dIx P 35 t1 t5 w.drew fun t23 =>
 dL P 42 t23 w.drew fun t24 =>
 Dv P false (bn .neq 42 false t20 t24) w.drew fun t25 =>
 If t25
 (R (.returned (.bool false)) w.drew)
 (Bn P .add 3 true t5 (.int .i64 1) w.drew fun t16 w =>
 k1 t16 w))
 (R (.returned (.bool true)) w)))
theorem e_ref37_SameFacts (h : s_ref37_SameFacts Tryz.prog t0 t1 w R) : Calls Tryz.prog 18 #[t0, t1] w R :=
 en1 (.sq .z (.sq (.sq .z (.cd (.sq .z .z) .z)) (.sq (.sq .z (.bk (.lp [5] [4, 11, 12, 13, 14, 15, 16, 17, 18, 19, 20, 21, 22, 23, 24, 25] (.sq (.sq .z (.cd .z .z)) (.sq (.bk (.sq (.dr (.pur true 0 (.pur true 1 (.pur true 2 (.pur false 3 (.pur true 4 (.pur true 5 (.pur true 6 (.pur false 7 (.pur false 8 .done)))))))))) (.cd (.sq .z .z) .z))) .z))))) (.sq .z .z)))) [t0, t1] Tryz.func18 (by kernel_rfl) (by kernel_rfl) h
theorem n_ref37_SameFacts : Enters Tryz.prog 18 := enters_of Tryz.func18 (by kernel_rfl) rfl
def s_shard_in (P : Program) (t0 t1 t2 : Value) (w : World) (R : Ending → World → Prop) : Prop :=
 Bn P .geq 3 false t0 t1 w fun t9 w =>
 Gd t9 true (fun k => k t0 w) w fun t11 w =>
 Gd t9 true (fun k => k t2 w) w fun t12 w =>
 Gd t9 true (fun k => Bn P .leq 3 false t11 t12 w k) w fun t13 w =>
 Pick t9 t13 (.bool false) w fun t14 w =>
 R (.returned t14) w
theorem e_shard_in (h : s_shard_in Tryz.prog t0 t1 t2 w R) : Calls Tryz.prog 20 #[t0, t1, t2] w R :=
 en1 (.sq .z (.sq .z .z)) [t0, t1, t2] Tryz.func20 (by kernel_rfl) (by kernel_rfl) h
theorem n_shard_in : Enters Tryz.prog 20 := enters_of Tryz.func20 (by kernel_rfl) rfl
def s_ref37_pick (P : Program) (t0 t1 : Value) (w : World) (R : Ending → World → Prop) : Prop :=
 Bn P .lss 3 true t0 (.int .i64 0) w fun t6 w =>
 If t6
 (Bn P .add 3 true t0 (.int .i64 1) w fun t8 w =>
 Un P .neg t8 w fun t9 w =>
 Bn P .rem 3 false t9 t1 w fun t12 w =>
 R (.returned t12) w)
 (Bn P .rem 3 false t0 t1 w fun t12x1 w =>
 R (.returned t12x1) w)
theorem e_ref37_pick (h : s_ref37_pick Tryz.prog t0 t1 w R) : Calls Tryz.prog 21 #[t0, t1] w R :=
 en1 (.sq .z (.sq (.sq .z (.cd .z .z)) (.sq .z .z))) [t0, t1] Tryz.func21 (by kernel_rfl) (by kernel_rfl) h
theorem n_ref37_pick : Enters Tryz.prog 21 := enters_of Tryz.func21 (by kernel_rfl) rfl
def s_ref37_New (P : Program) (t0 : Value) (w : World) (R : Ending → World → Prop) : Prop :=
 Al P 30 w fun t2 w =>
 Cl P 48 #[t0, (.int .i64 2), (.int .i64 4)] w (Pk R) fun t7 w =>
 Un P .not t7 w fun t8 w =>
 If t8
 (Bd P 30 [] w fun t9 w =>
 Sto P 30 t2 t9 w fun w =>
 Rc P 30 t2 w fun r0 =>
 R (.returned (.tuple #[r0, (.int .i64 370)])) w)
 (Ms P 24 t0 t0 w fun t11 w =>
 Bd P 30 [(0, t11)] w fun t12 w =>
 Al P 30 w fun t4 w =>
 Sto P 30 t4 t12 w fun w =>
 Lp1 (.int .i64 0) w (fun t5 w k1 =>
 Bn P .lss 3 true t5 (.int .i64 8) w fun t14 w =>
 If t14
 (dFl P 30 t4 1 w.drew fun t17 =>
 dL P 25 t17 w.drew fun t18 =>
 Dv P true (bn .rem 3 false t5 t0) w.drew fun t21 =>
 Bs P 25 1 [(0, t21)] w.drew fun t22 w =>
 kLd P 25 t17 t18 w <|
 Bt P .append #[25, 25] 25 #[t18, t22] w fun t23 w =>
 dFl P 30 t4 1 w fun t24 =>
 Sto P 25 t24 t23 w fun w =>
 Bn P .add 3 true t5 (.int .i64 1) w fun t16 w =>
 k1 t16 w)
 (Ld P 30 t4 w fun t25 w =>
 Sto P 30 t2 t25 w fun w =>
 Rc P 30 t2 w fun r0 =>
 R (.returned (.tuple #[r0, (.int .i64 0)])) w)))
theorem e_ref37_New (h : s_ref37_New Tryz.prog t0 w R) : Calls Tryz.prog 22 #[t0] w R :=
 en1 (.sq .z (.sq (.sq .z (.cd (.sq .z .z) .z)) (.sq .z (.sq (.sq .z (.bk (.lp [5] [13, 14, 15, 16, 17, 18, 19, 20, 21, 22, 23, 24] (.sq (.sq .z (.cd .z .z)) (.sq (.bk (.dr (.pur true 0 (.pur false 1 (.pur true 2 (.pur true 3 (.pur true 4 (.eff 5 [1] (.eff 6 [] (.pur true 7 (.eff 8 [] .done))))))))))) .z))))) (.sq .z .z))))) [t0] Tryz.func22 (by kernel_rfl) (by kernel_rfl) h
theorem n_ref37_New : Enters Tryz.prog 22 := enters_of Tryz.func22 (by kernel_rfl) rfl
def s_ref37_Do (P : Program) (t0 t1 : Value) (w : World) (R : Ending → World → Prop) : Prop :=
 Bx P 30 t0 w fun t2 w =>
 Bx P 44 t1 w fun t3 w =>
 Al P 30 w fun t4 w =>
 Ld P 30 t2 w fun t10 w =>
 Cl P 49 #[t10] w (Pk R) fun t11 w =>
 Un P .not t11 w fun t12 w =>
 Gd t12 false (fun k => Ld P 44 t3 w k) w fun t14 w =>
 Gd t12 false (fun k => Cl P 50 #[t14] w (Pk R) k) w fun t15 w =>
 Gd t12 false (fun k => Un P .not t15 w k) w fun t16 w =>
 Pick t12 (.bool true) t16 w fun t17 w =>
 If t17
 (Bd P 30 [] w fun t18 w =>
 Sto P 30 t4 t18 w fun w =>
 Rc P 30 t4 w fun r0 =>
 R (.returned (.tuple #[r0, (.slice none 0 0), (.int .i64 370)])) w)
 (Ld P 30 t2 w fun t19 w =>
 Cl P 51 #[t19] w (Pk R) fun t20 w =>
 Sto P 30 t2 t20 w fun w =>
 Jn2 (fun k1 =>
 Fa P 44 t3 0 w fun t21 w =>
 Ld P 3 t21 w fun t22 w =>
 Bn P .eql 3 true t22 (.int .i64 1) w fun t30 w =>
 If t30
 (Fa P 44 t3 1 w fun t31 w =>
 Ld P 42 t31 w fun t32 w =>
 Cl P 52 #[t32] w (Pk R) fun t33 w =>
 Gd t33 true (fun k => Fa P 30 t2 2 w k) w fun t35 w =>
 Gd t33 true (fun k => Ld P 3 t35 w k) w fun t36 w =>
 Gd t33 true (fun k => Bn P .lss 3 true t36 (.int .i64 400) w k) w fun t37 w =>
 Pick t33 t37 (.bool false) w fun t38 w =>
 If t38
 (dFl P 30 t2 1 w.drew fun t39 =>
 dL P 25 t39 w.drew fun t40 =>
 dFl P 44 t3 1 w.drew fun t41 =>
 dL P 42 t41 w.drew fun t42 =>
 Cl P 53 #[t42] w.drew (Pk R) fun t43 w =>
 kLd P 25 t39 t40 w <|
 dIx P 25 t40 t43 w fun t44 =>
 dL P 3 t44 w fun t45 =>
 dFl P 30 t2 0 w.drew fun t46 =>
 dL P 24 t46 w.drew fun t47 =>
 dIx P 24 t47 t45 w.drew fun t49 =>
 dL P 60 t49 w.drew fun t50 =>
 dFl P 44 t3 1 w.drew fun t51 =>
 dL P 42 t51 w.drew fun t52 =>
 Cl P 54 #[t50, t52] w.drew (Pk R) fun t53 w =>
 Dv P true (Op.unary .not t53) w fun t54 =>
 dFl P 30 t2 0 w.drew fun t55 =>
 dL P 24 t55 w.drew fun t56 =>
 dFl P 30 t2 0 w.drew fun t58 =>
 dL P 24 t58 w.drew fun t59 =>
 dIx P 24 t59 t45 w.drew fun t61 =>
 dL P 60 t61 w.drew fun t62 =>
 dFl P 44 t3 1 w.drew fun t63 =>
 dL P 42 t63 w.drew fun t64 =>
 dFl P 30 t2 2 w.drew fun t65 =>
 dL P 3 t65 w.drew fun t66 =>
 Dv P true (Instr.build 62 #[(0, t64), (1, t66)]) w.drew fun t67 =>
 Bs P 60 1 [(0, t67)] w.drew fun t68 w =>
 kLd P 24 t55 t56 w <|
 kLd P 24 t58 t59 w <|
 kLd P 60 t61 t62 w <|
 Bt P .append #[60, 60] 60 #[t62, t68] w fun t69 w =>
 kLd P 24 t55 t56 w <|
 dIx P 24 t56 t45 w fun t70 =>
 Sto P 60 t70 t69 w fun w =>
 Fa P 30 t2 2 w fun t71 w =>
 Ld P 3 t71 w fun t72 w =>
 Bn P .add 3 true t72 (.int .i64 1) w fun t73 w =>
 Fa P 30 t2 2 w fun t74 w =>
 Sto P 3 t74 t73 w fun w =>
 k1 (.slice none 0 0) t54 w)
 (k1 (.slice none 0 0) (.bool false) w))
 (Jn1 (fun k2 =>
 Bn P .eql 3 true t22 (.int .i64 7) w fun t76 w =>
 If t76
 (k2 t76 w)
 (Bn P .eql 3 true t22 (.int .i64 8) w fun t77 w =>
 k2 t77 w))
 (fun t75 w =>
 If t75
 (Ld P 30 t2 w fun t79 w =>
 Ld P 44 t3 w fun t80 w =>
 Cl P 55 #[t79, t80] w (Pk R) fun t81 w =>
 Ex t81 0 w fun t82 w =>
 Ex t81 1 w fun t83 w =>
 Ex t81 2 w fun t84 w =>
 Sto P 30 t2 t82 w fun w =>
 k1 t83 t84 w)
 (Ld P 30 t2 w fun t24 w =>
 Ld P 44 t3 w fun t25 w =>
 Cl P 56 #[t24, t25] w (Pk R) fun t26 w =>
 Ex t26 0 w fun t27 w =>
 Ex t26 1 w fun t28 w =>
 Sto P 30 t2 t27 w fun w =>
 k1 (.slice none 0 0) t28 w))))
 (fun t7 t8 w =>
 Un P .not t8 w fun t86 w =>
 If t86
 (Bd P 30 [] w fun t87 w =>
 Sto P 30 t4 t87 w fun w =>
 Rc P 30 t4 w fun r0 =>
 R (.returned (.tuple #[r0, (.slice none 0 0), (.int .i64 370)])) w)
 (Ld P 30 t2 w fun t88 w =>
 Sto P 30 t4 t88 w fun w =>
 Rc P 30 t4 w fun r0 =>
 R (.returned (.tuple #[r0, t7, (.int .i64 0)])) w)))
theorem e_ref37_Do (h : s_ref37_Do Tryz.prog t0 t1 w R) : Calls Tryz.prog 23 #[t0, t1] w R :=
 en1 (.sq .z (.sq (.sq .z (.cd (.sq .z .z) .z)) (.sq .z (.sq .z (.sq .z (.jn [7, 8] [9, 21, 22, 23, 24, 25, 26, 27, 28, 29, 30, 31, 32, 33, 34, 35, 36, 37, 38, 39, 40, 41, 42, 43, 44, 45, 46, 47, 48, 49, 50, 51, 52, 53, 54, 55, 56, 57, 58, 59, 60, 61, 62, 63, 64, 65, 66, 67, 68, 69, 70, 71, 72, 73, 74, 75, 76, 77, 78, 79, 80, 81, 82, 83, 84] (.sq .z (.bk (.sq .z (.cd (.sq .z (.cd (.sq (.dr (.pur true 0 (.pur false 1 (.pur true 2 (.pur false 3 (.eff 4 [1] (.pur true 5 (.pur false 6 (.pur true 7 .done))))))))) (.sq (.dr (.pur true 0 (.pur false 1 (.pur true 2 (.pur true 3 (.pur false 4 (.pur true 5 (.pur false 6 (.eff 7 [] (.pur true 8 (.pur true 9 .done))))))))))) (.sq (.dr (.pur true 0 (.pur false 1 (.pur true 2 (.pur true 3 (.pur false 4 (.pur true 5 (.pur true 6 (.pur false 7 (.pur true 8 (.pur false 9 (.pur true 10 (.pur false 11 (.pur true 12 (.eff 13 [1, 4, 7] (.eff 14 [1] (.pur true 15 (.eff 16 [] .done)))))))))))))))))) .z))) .z)) (.jn [75] [76, 77] (.sq .z (.cd .z .z)) (.cd .z .z)))))) (.sq (.sq .z (.cd (.sq .z .z) .z)) (.sq .z .z)))))))) [t0, t1] Tryz.func23 (by kernel_rfl) (by kernel_rfl) h
theorem n_ref37_Do : Enters Tryz.prog 23 := enters_of Tryz.func23 (by kernel_rfl) rfl
def s_shard_change_put (P : Program) (t0 t1 : Value) (w : World) (R : Ending → World → Prop) : Prop :=
 Bx P 44 t1 w fun t3 w =>
 Fa P 44 t3 1 w fun t5 w =>
 Ld P 42 t5 w fun t6 w =>
 Cl P 58 #[t6] w (Pk R) fun t7 w =>
 Gd t7 true (fun k => k t0 w) w fun t9 w =>
 Gd t7 true (fun k => Nc t9 w k) w fun t10 w =>
 Gd t7 true (fun k => Fa P 78 t10 0 w k) w fun t11 w =>
 Gd t7 true (fun k => Fa P 76 t11 0 w k) w fun t12 w =>
 Gd t7 true (fun k => Fa P 30 t12 2 w k) w fun t13 w =>
 Gd t7 true (fun k => Ld P 3 t13 w k) w fun t14 w =>
 Gd t7 true (fun k => Bn P .lss 3 true t14 (.int .i64 400) w k) w fun t15 w =>
 Pick t7 t15 (.bool false) w fun t16 w =>
 Cl P 57 #[t16] w (Pk R) fun t17 w =>
 NcP t0 fun t19 =>
 dFl P 78 t19 0 w.drew fun t20 =>
 dFl P 76 t20 0 w.drew fun t21 =>
 dFl P 30 t21 0 w.drew fun t22 =>
 dL P 24 t22 w.drew fun t23 =>
 NcP t0 fun t25 =>
 dFl P 78 t25 0 w.drew fun t26 =>
 dFl P 76 t26 0 w.drew fun t27 =>
 dFl P 30 t27 1 w.drew fun t28 =>
 dL P 25 t28 w.drew fun t29 =>
 dFl P 44 t3 1 w.drew fun t30 =>
 dFl P 42 t30 0 w.drew fun t31 =>
 dL P 3 t31 w.drew fun t32 =>
 Cl P 17 #[t32] w.drew (Pk R) fun t33 w =>
 kLd P 24 t22 t23 w <|
 kLd P 25 t28 t29 w <|
 dIx P 25 t29 t33 w fun t34 =>
 dL P 3 t34 w fun t35 =>
 dIx P 24 t23 t35 w fun t36 =>
 Nc t36 w fun t38 w =>
 Ld P 60 t38 w fun t39 w =>
 Cl P 59 #[t39, (.func (.func 60) #[] #[t3])] w (Pk R) fun t41 w =>
 Un P .not t41 w fun t42 w =>
 Cl P 57 #[t42] w (Pk R) fun t43 w =>
 NcP t36 fun t46 =>
 dL P 60 t46 w.drew fun t47 =>
 dFl P 44 t3 1 w.drew fun t48 =>
 dL P 42 t48 w.drew fun t49 =>
 NcP t0 fun t51 =>
 dFl P 78 t51 0 w.drew fun t52 =>
 dFl P 76 t52 0 w.drew fun t53 =>
 dFl P 30 t53 2 w.drew fun t54 =>
 dL P 3 t54 w.drew fun t55 =>
 Dv P true (Instr.build 62 #[(0, t49), (1, t55)]) w.drew fun t56 =>
 Bs P 60 1 [(0, t56)] w.drew fun t57 w =>
 kLd P 60 t46 t47 w <|
 Bt P .append #[60, 60] 60 #[t47, t57] w fun t58 w =>
 NcP t36 fun t59 =>
 Sto P 60 t59 t58 w fun w =>
 Nc t0 w fun t61 w =>
 Fa P 78 t61 0 w fun t62 w =>
 Fa P 76 t62 0 w fun t63 w =>
 Fa P 30 t63 2 w fun t64 w =>
 Ld P 3 t64 w fun t65 w =>
 Bn P .add 3 true t65 (.int .i64 1) w fun t66 w =>
 Nc t0 w fun t67 w =>
 Fa P 78 t67 0 w fun t68 w =>
 Fa P 76 t68 0 w fun t69 w =>
 Fa P 30 t69 2 w fun t70 w =>
 Sto P 3 t70 t66 w fun w =>
 R (.returned (.tuple #[])) w
theorem e_shard_change_put (h : s_shard_change_put Tryz.prog t0 t1 w R) : Calls Tryz.prog 24 #[t0, t1] w R :=
 en1 (.sq .z (.sq .z (.sq (.dr (.pur true 0 (.pur true 1 (.pur true 2 (.pur true 3 (.pur true 4 (.pur false 5 (.pur true 6 (.pur true 7 (.pur true 8 (.pur true 9 (.pur true 10 (.pur false 11 (.pur true 12 (.pur true 13 (.pur false 14 (.eff 15 [5, 11] (.pur true 16 (.pur false 17 (.pur true 18 (.pur true 19 .done))))))))))))))))))))) (.sq .z (.sq (.dr (.pur true 0 (.pur true 1 (.pur true 2 (.pur false 3 (.pur true 4 (.pur false 5 (.pur true 6 (.pur true 7 (.pur true 8 (.pur true 9 (.pur true 10 (.pur false 11 (.pur true 12 (.eff 13 [3] (.eff 14 [] (.pur true 15 (.eff 16 [] .done)))))))))))))))))) .z))))) [t0, t1] Tryz.func24 (by kernel_rfl) (by kernel_rfl) h
theorem n_shard_change_put : Enters Tryz.prog 24 := enters_of Tryz.func24 (by kernel_rfl) rfl
def s_shard_change_begin (P : Program) (t0 t1 : Value) (w : World) (R : Ending → World → Prop) : Prop :=
 Bx P 44 t1 w fun t3 w =>
 NcP t0 fun t5 =>
 dFl P 78 t5 0 w.drew fun t6 =>
 dFl P 76 t6 0 w.drew fun t7 =>
 dFl P 30 t7 3 w.drew fun t8 =>
 dFl P 27 t8 0 w.drew fun t9 =>
 dL P 3 t9 w.drew fun t10 =>
 Dv P true (bn .eql 3 true t10 (.int .i64 0)) w.drew fun t11 =>
 GdP t11 true (fun k => dFl P 44 t3 2 w.drew k) fun t13 =>
 GdP t11 true (fun k => dL P 3 t13 w.drew k) fun t14 =>
 Gd t11 true (fun k => Cl P 20 #[t14, (.int .i64 0), (.int .i64 7)] w.drew (Pk R) k) w.drew fun t15 w =>
 PickP t11 t15 (.bool false) fun t16 =>
 GdP t16 true (fun k => dFl P 44 t3 3 w k) fun t18 =>
 GdP t16 true (fun k => dL P 3 t18 w k) fun t19 =>
 GdP t16 true (fun k => k t0) fun t20 =>
 GdP t16 true (fun k => NcP t20 k) fun t21 =>
 GdP t16 true (fun k => dFl P 78 t21 0 w k) fun t22 =>
 GdP t16 true (fun k => dFl P 76 t22 0 w k) fun t23 =>
 GdP t16 true (fun k => dFl P 30 t23 0 w k) fun t24 =>
 GdP t16 true (fun k => dL P 24 t24 w k) fun t25 =>
 GdP t16 true (fun k => Dv P true (bV .len #[24] 3 #[t25]) w k) fun t26 =>
 GdP t16 true (fun k => Dv P true (bn .sub 3 true t26 (.int .i64 1)) w k) fun t27 =>
 Gd t16 true (fun k => Cl P 20 #[t19, (.int .i64 0), t27] w (Pk R) k) w fun t28 w =>
 PickP t16 t28 (.bool false) fun t29 =>
 GdP t29 true (fun k => k t0) fun t31 =>
 GdP t29 true (fun k => NcP t31 k) fun t32 =>
 GdP t29 true (fun k => dFl P 78 t32 0 w k) fun t33 =>
 GdP t29 true (fun k => dFl P 76 t33 0 w k) fun t34 =>
 GdP t29 true (fun k => dFl P 30 t34 1 w k) fun t35 =>
 GdP t29 true (fun k => dL P 25 t35 w k) fun t36 =>
 GdP t29 true (fun k => dFl P 44 t3 2 w k) fun t37 =>
 GdP t29 true (fun k => dL P 3 t37 w k) fun t38 =>
 GdP t29 true (fun k => dIx P 25 t36 t38 w k) fun t39 =>
 GdP t29 true (fun k => dL P 3 t39 w k) fun t40 =>
 GdP t29 true (fun k => dFl P 44 t3 3 w k) fun t41 =>
 GdP t29 true (fun k => dL P 3 t41 w k) fun t42 =>
 GdP t29 true (fun k => Dv P true (bn .neq 3 false t40 t42) w k) fun t43 =>
 PickP t29 t43 (.bool false) fun t44 =>
 Cl P 57 #[t44] w (Pk R) fun t45 w =>
 dFl P 44 t3 2 w.drew fun t47 =>
 dL P 3 t47 w.drew fun t48 =>
 NcP t0 fun t50 =>
 dFl P 78 t50 0 w.drew fun t51 =>
 dFl P 76 t51 0 w.drew fun t52 =>
 dFl P 30 t52 1 w.drew fun t53 =>
 dL P 25 t53 w.drew fun t54 =>
 dFl P 44 t3 2 w.drew fun t55 =>
 dL P 3 t55 w.drew fun t56 =>
 dIx P 25 t54 t56 w.drew fun t57 =>
 dL P 3 t57 w.drew fun t58 =>
 dFl P 44 t3 3 w.drew fun t59 =>
 dL P 3 t59 w.drew fun t60 =>
 Dv P true (Instr.build 27 #[(0, (.int .i64 1)), (1, t48), (2, t58), (3, t60), (4, (.int .i64 (-1)))]) w.drew fun t61 =>
 NcP t0 fun t62 =>
 dFl P 78 t62 0 w.drew fun t63 =>
 dFl P 76 t63 0 w.drew fun t64 =>
 dFl P 30 t64 3 w.drew fun t65 =>
 Sto P 27 t65 t61 w.drew fun w =>
 R (.returned (.tuple #[])) w
theorem e_shard_change_begin (h : s_shard_change_begin Tryz.prog t0 t1 w R) : Calls Tryz.prog 25 #[t0, t1] w R :=
 en1 (.sq .z (.sq (.dr (.pur true 0 (.pur true 1 (.pur true 2 (.pur true 3 (.pur true 4 (.pur true 5 (.pur false 6 (.pur true 7 (.pur true 8 (.pur true 9 (.pur false 10 (.eff 11 [] (.pur true 12 (.pur true 13 (.pur true 14 (.pur false 15 (.pur true 16 (.pur true 17 (.pur true 18 (.pur true 19 (.pur true 20 (.pur false 21 (.pur true 22 (.pur true 23 (.eff 24 [] (.pur true 25 (.pur true 26 (.pur true 27 (.pur true 28 (.pur true 29 (.pur true 30 (.pur true 31 (.pur false 32 (.pur true 33 (.pur false 34 (.pur true 35 (.pur false 36 (.pur true 37 (.pur false 38 (.pur true 39 (.pur true 40 (.eff 41 [] .done))))))))))))))))))))))))))))))))))))))))))) (.dr (.pur true 0 (.pur true 1 (.pur false 2 (.pur true 3 (.pur true 4 (.pur true 5 (.pur true 6 (.pur true 7 (.pur false 8 (.pur true 9 (.pur false 10 (.pur true 11 (.pur false 12 (.pur true 13 (.pur false 14 (.pur true 15 (.pur true 16 (.pur true 17 (.pur true 18 (.pur true 19 (.eff 20 [] .done)))))))))))))))))))))))) [t0, t1] Tryz.func25 (by kernel_rfl) (by kernel_rfl) h
theorem n_shard_change_begin : Enters Tryz.prog 25 := enters_of Tryz.func25 (by kernel_rfl) rfl
def s_shard_change_copy (P : Program) (t0 t1 : Value) (w : World) (R : Ending → World → Prop) : Prop :=
 Bx P 44 t1 w fun t3 w =>
 Nc t0 w fun t10 w =>
 Fa P 78 t10 0 w fun t11 w =>
 Fa P 76 t11 0 w fun t12 w =>
 Fa P 30 t12 3 w fun t13 w =>
 Fa P 27 t13 0 w fun t14 w =>
 Ld P 3 t14 w fun t15 w =>
 Bn P .eql 3 true t15 (.int .i64 1) w fun t16 w =>
 Gd t16 true (fun k => Fa P 44 t3 4 w k) w fun t18 w =>
 Gd t16 true (fun k => Ld P 3 t18 w k) w fun t19 w =>
 Gd t16 true (fun k => Bn P .geq 3 true t19 (.int .i64 1) w k) w fun t20 w =>
 Pick t16 t20 (.bool false) w fun t21 w =>
 Cl P 57 #[t21] w (Pk R) fun t22 w =>
 NcP t0 fun t24 =>
 dFl P 78 t24 0 w.drew fun t25 =>
 dFl P 76 t25 0 w.drew fun t26 =>
 dFl P 30 t26 0 w.drew fun t27 =>
 dL P 24 t27 w.drew fun t28 =>
 NcP t0 fun t30 =>
 dFl P 78 t30 0 w.drew fun t31 =>
 dFl P 76 t31 0 w.drew fun t32 =>
 dFl P 30 t32 3 w.drew fun t33 =>
 dFl P 27 t33 3 w.drew fun t34 =>
 dL P 3 t34 w.drew fun t35 =>
 dIx P 24 t28 t35 w.drew fun t36 =>
 dL P 60 t36 w.drew fun t37 =>
 Jn1 (fun k1 =>
 NcP t0 fun t39 =>
 Dv P true (Instr.fieldAt 78 t39 0) w.drew.drew fun t40 =>
 Dv P true (Instr.fieldAt 76 t40 0) w.drew.drew fun t41 =>
 Dv P true (Instr.fieldAt 30 t41 0) w.drew.drew fun t42 =>
 Dv P false (Instr.loadAt 24 t42) w.drew.drew fun t43 =>
 NcP t0 fun t45 =>
 Dv P true (Instr.fieldAt 78 t45 0) w.drew.drew fun t46 =>
 Dv P true (Instr.fieldAt 76 t46 0) w.drew.drew fun t47 =>
 Dv P true (Instr.fieldAt 30 t47 3) w.drew.drew fun t48 =>
 Dv P true (Instr.fieldAt 27 t48 2) w.drew.drew fun t49 =>
 Dv P false (Instr.loadAt 3 t49) w.drew.drew fun t50 =>
 Dv P true (Instr.indexAt 24 t43 t50) w.drew.drew fun t51 =>
 Dv P false (Instr.loadAt 60 t51) w.drew.drew fun t52 =>
 NcP t0 fun t54 =>
 Dv P true (Instr.fieldAt 78 t54 0) w.drew.drew fun t55 =>
 Dv P true (Instr.fieldAt 76 t55 0) w.drew.drew fun t56 =>
 Dv P true (Instr.fieldAt 30 t56 3) w.drew.drew fun t57 =>
 Dv P true (Instr.fieldAt 27 t57 1) w.drew.drew fun t58 =>
 Dv P false (Instr.loadAt 3 t58) w.drew.drew fun t59 =>
 Cl P 61 #[t52, t59] w.drew.drew (Pk R) fun t60 w =>
 Dv P true (bV .len #[60] 3 #[t60]) w fun t61 =>
 Lp2 t37 (.int .i64 0) w (fun t4 t62 w k2 =>
 Bn P .lss 3 false t62 t61 w fun t63 w =>
 If t63
 (Ia P 60 t60 t62 w fun t64 w =>
 Ld P 62 t64 w fun t65 w =>
 Al P 62 w fun t6 w =>
 Sto P 62 t6 t65 w fun w =>
 Fa P 44 t3 4 w fun t66 w =>
 Ld P 3 t66 w fun t67 w =>
 Bn P .eql 3 true t67 (.int .i64 0) w fun t68 w =>
 If t68
 (k1 t4 w)
 (dFl P 62 t6 1 w.drew fun t69 =>
 dL P 3 t69 w.drew fun t70 =>
 NcP t0 fun t72 =>
 dFl P 78 t72 0 w.drew fun t73 =>
 dFl P 76 t73 0 w.drew fun t74 =>
 dFl P 30 t74 3 w.drew fun t75 =>
 dFl P 27 t75 4 w.drew fun t76 =>
 dL P 3 t76 w.drew fun t77 =>
 Dv P true (bn .leq 3 false t70 t77) w.drew fun t78 =>
 If t78
 (Bn P .add 3 true t62 (.int .i64 1) w.drew fun t108 w =>
 k2 t4 t108 w)
 (Ld P 62 t6 w.drew fun t81 w =>
 Cl P 62 #[t4, t81, (.func (.func 63) #[] #[])] w (Pk R) fun t82 w =>
 Ex t82 0 w fun t83 w =>
 Ex t82 1 w fun t84 w =>
 Dv P true (Instr.sliceAt 60 t4 none (some t83) (some t83)) w.drew fun t88 =>
 dL P 62 t6 w.drew fun t89 =>
 Dv P true (Instr.sliceAt 60 t4 (some t83) none none) w.drew fun t94 =>
 Bs P 60 1 [(0, t89)] w.drew fun t90 w =>
 Bt P .append #[60, 60] 60 #[t88, t90] w fun t91 w =>
 Bt P .append #[60, 60] 60 #[t91, t94] w fun t95 w =>
 Fa P 62 t6 1 w fun t97 w =>
 Ld P 3 t97 w fun t98 w =>
 Nc t0 w fun t99 w =>
 Fa P 78 t99 0 w fun t100 w =>
 Fa P 76 t100 0 w fun t101 w =>
 Fa P 30 t101 3 w fun t102 w =>
 Fa P 27 t102 4 w fun t103 w =>
 Sto P 3 t103 t98 w fun w =>
 Fa P 44 t3 4 w fun t104 w =>
 Ld P 3 t104 w fun t105 w =>
 Bn P .sub 3 true t105 (.int .i64 1) w fun t106 w =>
 Fa P 44 t3 4 w fun t107 w =>
 Sto P 3 t107 t106 w fun w =>
 Bn P .add 3 true t62 (.int .i64 1) w fun t108x1 w =>
 k2 t95 t108x1 w)))
 (k1 t4 w)))
 (fun t4x1 w =>
 NcP t0 fun t110 =>
 dFl P 78 t110 0 w.drew fun t111 =>
 dFl P 76 t111 0 w.drew fun t112 =>
 dFl P 30 t112 0 w.drew fun t113 =>
 dL P 24 t113 w.drew fun t114 =>
 NcP t0 fun t116 =>
 dFl P 78 t116 0 w.drew fun t117 =>
 dFl P 76 t117 0 w.drew fun t118 =>
 dFl P 30 t118 3 w.drew fun t119 =>
 dFl P 27 t119 3 w.drew fun t120 =>
 dL P 3 t120 w.drew fun t121 =>
 dIx P 24 t114 t121 w.drew fun t123 =>
 Sto P 60 t123 t4x1 w.drew fun w =>
 R (.returned (.tuple #[])) w)
theorem e_shard_change_copy (h : s_shard_change_copy Tryz.prog t0 t1 w R) : Calls Tryz.prog 26 #[t0, t1] w R :=
 en1 (.sq .z (.sq .z (.sq (.dr (.pur true 0 (.pur true 1 (.pur true 2 (.pur true 3 (.pur true 4 (.pur false 5 (.pur true 6 (.pur true 7 (.pur true 8 (.pur true 9 (.pur true 10 (.pur true 11 (.pur false 12 (.pur true 13 (.pur false 14 (.pur true 15 .done))))))))))))))))) (.jn [4] [6, 7, 8, 38, 39, 40, 41, 42, 43, 44, 45, 46, 47, 48, 49, 50, 51, 52, 53, 54, 55, 56, 57, 58, 59, 60, 61, 62, 63, 64, 65, 66, 67, 68, 69, 70, 71, 72, 73, 74, 75, 76, 77, 78, 79, 80, 81, 82, 83, 84, 85, 86, 87, 88, 89, 90, 91, 92, 93, 94, 95, 96, 97, 98, 99, 100, 101, 102, 103, 104, 105, 106, 107, 108] (.sq (.dr (.pur true 0 (.pur true 1 (.pur true 2 (.pur true 3 (.pur true 4 (.pur false 5 (.pur true 6 (.pur true 7 (.pur true 8 (.pur true 9 (.pur true 10 (.pur true 11 (.pur false 12 (.pur true 13 (.pur false 14 (.pur true 15 (.pur true 16 (.pur true 17 (.pur true 18 (.pur true 19 (.pur true 20 (.pur false 21 (.pur true 24 (.eff 22 [] (.pur true 23 .done)))))))))))))))))))))))))) (.bk (.lp [4, 62] [6, 7, 8, 63, 64, 65, 66, 67, 68, 69, 70, 71, 72, 73, 74, 75, 76, 77, 78, 79, 80, 81, 82, 83, 84, 85, 86, 87, 88, 89, 90, 91, 92, 93, 94, 95, 96, 97, 98, 99, 100, 101, 102, 103, 104, 105, 106, 107, 108] (.sq .z (.sq (.cd .z .z) (.sq (.bk (.sq .z (.sq (.sq .z (.cd .z .z)) (.sq (.sq (.dr (.pur true 0 (.pur false 1 (.pur true 2 (.pur true 3 (.pur true 4 (.pur true 5 (.pur true 6 (.pur true 7 (.pur false 8 (.pur true 9 .done))))))))))) (.cd .z .z)) (.sq .z (.sq (.dr (.pur true 0 (.pur true 1 (.pur true 2 (.pur true 3 (.pur false 4 (.pur true 7 (.pur true 8 (.pur true 9 (.eff 5 [] (.eff 6 [] (.eff 10 [] (.pur true 11 .done))))))))))))) (.sq .z .z))))))) .z)))))) (.dr (.pur true 0 (.pur true 1 (.pur true 2 (.pur true 3 (.pur true 4 (.pur false 5 (.pur true 6 (.pur true 7 (.pur true 8 (.pur true 9 (.pur true 10 (.pur true 11 (.pur false 12 (.pur true 13 (.pur true 14 (.eff 15 [] .done))))))))))))))))))))) [t0, t1] Tryz.func26 (by kernel_rfl) (by kernel_rfl) h
theorem n_shard_change_copy : Enters Tryz.prog 26 := enters_of Tryz.func26 (by kernel_rfl) rfl
def s_shard_change_over (P : Program) (t0 t1 : Value) (w : World) (R : Ending → World → Prop) : Prop :=
 Bx P 44 t1 w fun t3 w =>
 Nc t0 w fun t6 w =>
 Fa P 78 t6 0 w fun t7 w =>
 Fa P 76 t7 0 w fun t8 w =>
 Fa P 30 t8 3 w fun t9 w =>
 Fa P 27 t9 0 w fun t10 w =>
 Ld P 3 t10 w fun t11 w =>
 Bn P .eql 3 true t11 (.int .i64 1) w fun t12 w =>
 Cl P 57 #[t12] w (Pk R) fun t13 w =>
 Cl P 65 #[t0] w (Pk R) fun t15 w =>
 Dv P true (bV .len #[60] 3 #[t15]) w.drew fun t17 =>
 Dv P true (bn .eql 3 true t17 (.int .i64 0)) w.drew fun t18 =>
 GdP t18 false (fun k => k t15) fun t20 =>
 GdP t18 false (fun k => k t15) fun t21 =>
 GdP t18 false (fun k => Dv P true (bV .len #[60] 3 #[t21]) w.drew k) fun t22 =>
 GdP t18 false (fun k => Dv P true (bn .sub 3 true t22 (.int .i64 1)) w.drew k) fun t23 =>
 GdP t18 false (fun k => dIx P 60 t20 t23 w.drew k) fun t24 =>
 GdP t18 false (fun k => dFl P 62 t24 1 w.drew k) fun t25 =>
 GdP t18 false (fun k => dL P 3 t25 w.drew k) fun t26 =>
 GdP t18 false (fun k => k t0) fun t27 =>
 GdP t18 false (fun k => NcP t27 k) fun t28 =>
 GdP t18 false (fun k => dFl P 78 t28 0 w.drew k) fun t29 =>
 GdP t18 false (fun k => dFl P 76 t29 0 w.drew k) fun t30 =>
 GdP t18 false (fun k => dFl P 30 t30 3 w.drew k) fun t31 =>
 GdP t18 false (fun k => dFl P 27 t31 4 w.drew k) fun t32 =>
 GdP t18 false (fun k => dL P 3 t32 w.drew k) fun t33 =>
 GdP t18 false (fun k => Dv P true (bn .leq 3 false t26 t33) w.drew k) fun t34 =>
 PickP t18 (.bool true) t34 fun t35 =>
 Cl P 57 #[t35] w.drew (Pk R) fun t36 w =>
 NcP t0 fun t38 =>
 dFl P 78 t38 0 w.drew fun t39 =>
 dFl P 76 t39 0 w.drew fun t40 =>
 dFl P 30 t40 1 w.drew fun t41 =>
 dL P 25 t41 w.drew fun t42 =>
 NcP t0 fun t44 =>
 dFl P 78 t44 0 w.drew fun t45 =>
 dFl P 76 t45 0 w.drew fun t46 =>
 dFl P 30 t46 3 w.drew fun t47 =>
 dFl P 27 t47 1 w.drew fun t48 =>
 dL P 3 t48 w.drew fun t49 =>
 NcP t0 fun t51 =>
 dFl P 78 t51 0 w.drew fun t52 =>
 dFl P 76 t52 0 w.drew fun t53 =>
 dFl P 30 t53 3 w.drew fun t54 =>
 dFl P 27 t54 3 w.drew fun t55 =>
 dL P 3 t55 w.drew fun t56 =>
 dIx P 25 t42 t49 w.drew fun t57 =>
 Sto P 3 t57 t56 w.drew fun w =>
 Nc t0 w fun t60 w =>
 Fa P 78 t60 0 w fun t61 w =>
 Fa P 76 t61 0 w fun t62 w =>
 Fa P 30 t62 3 w fun t63 w =>
 Fa P 27 t63 0 w fun t64 w =>
 Sto P 3 t64 (.int .i64 2) w fun w =>
 Nc t0 w fun t65 w =>
 Fa P 78 t65 0 w fun t66 w =>
 Fa P 76 t66 0 w fun t67 w =>
 Fa P 30 t67 3 w fun t68 w =>
 Fa P 27 t68 4 w fun t69 w =>
 Sto P 3 t69 (.int .i64 0) w fun w =>
 Cl P 66 #[t0] w (Pk R) fun t71 w =>
 R (.returned (.tuple #[])) w
theorem e_shard_change_over (h : s_shard_change_over Tryz.prog t0 t1 w R) : Calls Tryz.prog 27 #[t0, t1] w R :=
 en1 (.sq .z (.sq .z (.sq .z (.sq (.dr (.pur true 0 (.pur true 1 (.pur true 2 (.pur true 3 (.pur true 4 (.pur true 5 (.pur true 6 (.pur true 7 (.pur true 8 (.pur true 9 (.pur false 10 (.pur true 11 (.pur true 12 (.pur true 13 (.pur true 14 (.pur true 15 (.pur true 16 (.pur false 17 (.pur true 18 (.pur true 19 (.eff 20 [] .done)))))))))))))))))))))) (.sq (.dr (.pur true 0 (.pur true 1 (.pur true 2 (.pur true 3 (.pur true 4 (.pur false 5 (.pur true 6 (.pur true 7 (.pur true 8 (.pur true 9 (.pur true 10 (.pur true 11 (.pur false 12 (.pur true 13 (.pur true 14 (.pur true 15 (.pur true 16 (.pur true 17 (.pur true 18 (.pur false 19 (.pur true 20 (.eff 21 [] .done))))))))))))))))))))))) (.sq .z .z)))))) [t0, t1] Tryz.func27 (by kernel_rfl) (by kernel_rfl) h
theorem n_shard_change_over : Enters Tryz.prog 27 := enters_of Tryz.func27 (by kernel_rfl) rfl
def s_shard_change_drop (P : Program) (t0 t1 : Value) (w : World) (R : Ending → World → Prop) : Prop :=
 Bx P 70 t0 w fun t2 w =>
 Bx P 44 t1 w fun t3 w =>
 Ld P 70 t2 w fun t4 w =>
 Nc t4 w fun t5 w =>
 Fa P 78 t5 0 w fun t6 w =>
 Fa P 76 t6 0 w fun t7 w =>
 Fa P 30 t7 3 w fun t8 w =>
 Fa P 27 t8 0 w fun t9 w =>
 Ld P 3 t9 w fun t10 w =>
 Bn P .eql 3 true t10 (.int .i64 2) w fun t11 w =>
 Gd t11 true (fun k => Fa P 44 t3 4 w k) w fun t13 w =>
 Gd t11 true (fun k => Ld P 3 t13 w k) w fun t14 w =>
 Gd t11 true (fun k => Bn P .geq 3 true t14 (.int .i64 1) w k) w fun t15 w =>
 Pick t11 t15 (.bool false) w fun t16 w =>
 Cl P 57 #[t16] w (Pk R) fun t17 w =>
 Ld P 70 t2 w fun t18 w =>
 Nc t18 w fun t19 w =>
 Fa P 78 t19 0 w fun t20 w =>
 Fa P 76 t20 0 w fun t21 w =>
 Fa P 30 t21 4 w fun t22 w =>
 Ld P 28 t22 w fun t23 w =>
 Cl P 67 #[t23, (.func (.func 68) #[] #[t2])] w (Pk R) fun t25 w =>
 Un P .not t25 w fun t26 w =>
 Cl P 57 #[t26] w (Pk R) fun t27 w =>
 dL P 70 t2 w.drew fun t28 =>
 dL P 70 t2 w.drew fun t29 =>
 NcP t29 fun t30 =>
 dFl P 78 t30 0 w.drew fun t31 =>
 dFl P 76 t31 0 w.drew fun t32 =>
 dFl P 30 t32 3 w.drew fun t33 =>
 dFl P 27 t33 2 w.drew fun t34 =>
 dL P 3 t34 w.drew fun t35 =>
 dFl P 44 t3 4 w.drew fun t36 =>
 dL P 3 t36 w.drew fun t37 =>
 Cl P 69 #[t28, t35, t37] w.drew (Pk R) fun t38 w =>
 Ld P 70 t2 w fun t39 w =>
 Cl P 66 #[t39] w (Pk R) fun t40 w =>
 R (.returned (.tuple #[])) w
theorem e_shard_change_drop (h : s_shard_change_drop Tryz.prog t0 t1 w R) : Calls Tryz.prog 28 #[t0, t1] w R :=
 en1 (.sq .z (.sq .z (.sq .z (.sq (.dr (.pur false 0 (.pur false 1 (.pur true 2 (.pur true 3 (.pur true 4 (.pur true 5 (.pur true 6 (.pur false 7 (.pur true 8 (.pur false 9 (.eff 10 [] .done)))))))))))) .z)))) [t0, t1] Tryz.func28 (by kernel_rfl) (by kernel_rfl) h
theorem n_shard_change_drop : Enters Tryz.prog 28 := enters_of Tryz.func28 (by kernel_rfl) rfl
def s_shard_change_crash (P : Program) (t0 t1 : Value) (w : World) (R : Ending → World → Prop) : Prop :=
 Bx P 44 t1 w fun t3 w =>
 Nc t0 w fun t5 w =>
 Fa P 78 t5 0 w fun t6 w =>
 Fa P 76 t6 0 w fun t7 w =>
 Fa P 30 t7 3 w fun t8 w =>
 Fa P 27 t8 0 w fun t9 w =>
 Ld P 3 t9 w fun t10 w =>
 Bn P .neq 3 true t10 (.int .i64 0) w fun t11 w =>
 Cl P 57 #[t11] w (Pk R) fun t12 w =>
 Nc t0 w fun t14 w =>
 Fa P 78 t14 0 w fun t15 w =>
 Fa P 76 t15 0 w fun t16 w =>
 Fa P 30 t16 3 w fun t17 w =>
 Fa P 27 t17 0 w fun t18 w =>
 Ld P 3 t18 w fun t19 w =>
 Bn P .eql 3 true t19 (.int .i64 1) w fun t20 w =>
 If t20
 (Nc t0 w fun t23 w =>
 Fa P 78 t23 0 w fun t24 w =>
 Fa P 76 t24 0 w fun t25 w =>
 Fa P 30 t25 3 w fun t26 w =>
 Fa P 27 t26 3 w fun t27 w =>
 Ld P 3 t27 w fun t28 w =>
 Cl P 69 #[t0, t28, (.int .i64 400)] w (Pk R) fun t29 w =>
 Bd P 27 [] w fun t31 w =>
 Nc t0 w fun t32 w =>
 Fa P 78 t32 0 w fun t33 w =>
 Fa P 76 t33 0 w fun t34 w =>
 Fa P 30 t34 3 w fun t35 w =>
 Sto P 27 t35 t31 w fun w =>
 R (.returned (.tuple #[])) w)
 (R (.returned (.tuple #[])) w)
theorem e_shard_change_crash (h : s_shard_change_crash Tryz.prog t0 t1 w R) : Calls Tryz.prog 29 #[t0, t1] w R :=
 en1 (.sq .z (.sq .z (.sq .z (.cd (.sq .z .z) .z)))) [t0, t1] Tryz.func29 (by kernel_rfl) (by kernel_rfl) h
theorem n_shard_change_crash : Enters Tryz.prog 29 := enters_of Tryz.func29 (by kernel_rfl) rfl
def s_shard_change_open (P : Program) (t0 t1 : Value) (w : World) (R : Ending → World → Prop) : Prop :=
 Bx P 44 t1 w fun t3 w =>
 NcP t0 fun t8 =>
 dFl P 78 t8 0 w.drew fun t9 =>
 dFl P 76 t9 0 w.drew fun t10 =>
 dFl P 30 t10 4 w.drew fun t11 =>
 dL P 28 t11 w.drew fun t12 =>
 dFl P 44 t3 5 w.drew fun t13 =>
 dL P 3 t13 w.drew fun t14 =>
 Cl P 70 #[t12, t14, (.func (.func 71) #[] #[])] w.drew (Pk R) fun t15 w =>
 ExP t15 0 fun t16 =>
 ExP t15 1 fun t17 =>
 Un P .not t17 w fun t19 w =>
 Gd t19 true (fun k => Fa P 44 t3 5 w k) w fun t21 w =>
 Gd t19 true (fun k => Ld P 3 t21 w k) w fun t22 w =>
 Gd t19 true (fun k => Cl P 20 #[t22, (.int .i64 0), (.int .i64 99)] w (Pk R) k) w fun t23 w =>
 Pick t19 t23 (.bool false) w fun t24 w =>
 Gd t24 true (fun k => k t0 w) w fun t26 w =>
 Gd t24 true (fun k => Nc t26 w k) w fun t27 w =>
 Gd t24 true (fun k => Fa P 78 t27 0 w k) w fun t28 w =>
 Gd t24 true (fun k => Fa P 76 t28 0 w k) w fun t29 w =>
 Gd t24 true (fun k => Fa P 30 t29 4 w k) w fun t30 w =>
 Gd t24 true (fun k => Ld P 28 t30 w k) w fun t31 w =>
 Gd t24 true (fun k => Bt P .len #[28] 3 #[t31] w k) w fun t32 w =>
 Gd t24 true (fun k => Bn P .lss 3 true t32 (.int .i64 4) w k) w fun t33 w =>
 Pick t24 t33 (.bool false) w fun t34 w =>
 Cl P 57 #[t34] w (Pk R) fun t35 w =>
 NcP t0 fun t38 =>
 dFl P 78 t38 0 w.drew fun t39 =>
 dFl P 76 t39 0 w.drew fun t40 =>
 dFl P 30 t40 4 w.drew fun t41 =>
 dL P 28 t41 w.drew fun t42 =>
 dFl P 44 t3 5 w.drew fun t44 =>
 dL P 3 t44 w.drew fun t45 =>
 NcP t0 fun t47 =>
 dFl P 78 t47 0 w.drew fun t48 =>
 dFl P 76 t48 0 w.drew fun t49 =>
 dFl P 30 t49 2 w.drew fun t50 =>
 dL P 3 t50 w.drew fun t51 =>
 NcP t0 fun t53 =>
 dFl P 78 t53 0 w.drew fun t54 =>
 dFl P 76 t54 0 w.drew fun t55 =>
 dFl P 30 t55 1 w.drew fun t56 =>
 dL P 25 t56 w.drew fun t57 =>
 Cl P 73 #[t57] w.drew (Pk R) fun t58 w =>
 kLd P 28 t41 t42 w <|
 kLd P 3 t44 t45 w <|
 kLd P 3 t50 t51 w <|
 Dv P true (Instr.build 48 #[(0, t45), (1, t51), (2, t58)]) w fun t59 =>
 Bs P 28 1 [(0, t59)] w fun t60 w =>
 kLd P 28 t41 t42 w <|
 Cl P 72 #[t42, t16, t60] w (Pk R) fun t61 w =>
 NcP t0 fun t62 =>
 dFl P 78 t62 0 w fun t63 =>
 dFl P 76 t63 0 w fun t64 =>
 dFl P 30 t64 4 w fun t65 =>
 Sto P 28 t65 t61 w fun w =>
 R (.returned (.tuple #[])) w
theorem e_shard_change_open (h : s_shard_change_open Tryz.prog t0 t1 w R) : Calls Tryz.prog 30 #[t0, t1] w R :=
 en1 (.sq .z (.sq (.dr (.pur true 0 (.pur true 1 (.pur true 2 (.pur true 3 (.pur true 4 (.pur false 5 (.pur true 6 (.pur false 7 (.eff 8 [] (.pur true 9 (.pur true 10 (.pur true 11 (.pur true 12 (.pur true 13 .done))))))))))))))) (.sq .z (.dr (.pur true 0 (.pur true 1 (.pur true 2 (.pur true 3 (.pur true 4 (.pur true 5 (.pur false 6 (.pur true 7 (.pur true 8 (.pur false 9 (.pur true 10 (.pur true 11 (.pur true 12 (.pur true 13 (.pur true 14 (.pur false 15 (.pur true 16 (.pur true 17 (.pur true 18 (.pur true 19 (.pur true 20 (.pur false 21 (.eff 22 [6, 9, 15] (.pur true 23 (.eff 24 [6] (.eff 25 [] (.pur true 26 (.pur true 27 (.pur true 28 (.pur true 29 (.eff 30 [] .done))))))))))))))))))))))))))))))))))) [t0, t1] Tryz.func30 (by kernel_rfl) (by kernel_rfl) h
theorem n_shard_change_open : Enters Tryz.prog 30 := enters_of Tryz.func30 (by kernel_rfl) rfl
def s_shard_change_read (P : Program) (t0 t1 : Value) (w : World) (R : Ending → World → Prop) : Prop :=
 Bx P 44 t1 w fun t3 w =>
 Nc t0 w fun t9 w =>
 Fa P 78 t9 0 w fun t10 w =>
 Fa P 76 t10 0 w fun t11 w =>
 Fa P 30 t11 4 w fun t12 w =>
 Ld P 28 t12 w fun t13 w =>
 Cl P 74 #[t13, (.func (.func 75) #[] #[t3])] w (Pk R) fun t15 w =>
 Bn P .geq 3 true t15 (.int .i64 0) w fun t17 w =>
 Cl P 57 #[t17] w (Pk R) fun t18 w =>
 Nc t0 w fun t20 w =>
 Fa P 78 t20 0 w fun t21 w =>
 Fa P 76 t21 0 w fun t22 w =>
 Fa P 30 t22 4 w fun t23 w =>
 Ld P 28 t23 w fun t24 w =>
 Ia P 28 t24 t15 w fun t26 w =>
 NcP t0 fun t28 =>
 dFl P 78 t28 0 w.drew fun t29 =>
 dFl P 76 t29 0 w.drew fun t30 =>
 dFl P 30 t30 0 w.drew fun t31 =>
 dL P 24 t31 w.drew fun t32 =>
 NcP t26 fun t34 =>
 dFl P 48 t34 3 w.drew fun t35 =>
 dL P 3 t35 w.drew fun t36 =>
 dIx P 24 t32 t36 w.drew fun t37 =>
 dL P 60 t37 w.drew fun t38 =>
 Dv P true (bV .len #[60] 3 #[t38]) w.drew fun t39 =>
 Lp1 (.int .i64 0) w.drew (fun t40 w k1 =>
 Bn P .lss 3 false t40 t39 w fun t41 w =>
 If t41
 (Ia P 60 t38 t40 w fun t42 w =>
 Ld P 62 t42 w fun t43 w =>
 Al P 62 w fun t7 w =>
 Sto P 62 t7 t43 w fun w =>
 dFl P 62 t7 1 w.drew fun t44 =>
 dL P 3 t44 w.drew fun t45 =>
 NcP t26 fun t47 =>
 dFl P 48 t47 1 w.drew fun t48 =>
 dL P 3 t48 w.drew fun t49 =>
 Dv P true (bn .lss 3 false t45 t49) w.drew fun t50 =>
 GdP t50 true (fun k => k t26) fun t52 =>
 GdP t50 true (fun k => NcP t52 k) fun t53 =>
 GdP t50 true (fun k => dFl P 48 t53 2 w.drew k) fun t54 =>
 GdP t50 true (fun k => dL P 25 t54 w.drew k) fun t55 =>
 GdP t50 true (fun k => dFl P 62 t7 0 w.drew k) fun t56 =>
 GdP t50 true (fun k => dFl P 42 t56 0 w.drew k) fun t57 =>
 GdP t50 true (fun k => dL P 3 t57 w.drew k) fun t58 =>
 GdP t50 true (fun k => k t26) fun t62 =>
 GdP t50 true (fun k => NcP t62 k) fun t63 =>
 GdP t50 true (fun k => dFl P 48 t63 3 w.drew k) fun t64 =>
 GdP t50 true (fun k => dL P 3 t64 w.drew k) fun t65 =>
 Gd t50 true (fun k => Cl P 17 #[t58] w.drew (Pk R) k) w.drew fun t59 w =>
 Kg t50 true P (Instr.loadAt 25 t54) t55 w <|
 Kg t50 true P (Instr.loadAt 3 t64) t65 w <|
 GdP t50 true (fun k => dIx P 25 t55 t59 w k) fun t60 =>
 GdP t50 true (fun k => dL P 3 t60 w k) fun t61 =>
 GdP t50 true (fun k => Dv P true (bn .eql 3 false t61 t65) w k) fun t66 =>
 PickP t50 t66 (.bool false) fun t67 =>
 If t67
 (NcP t26 fun t70 =>
 dFl P 48 t70 4 w.drew fun t71 =>
 dL P 35 t71 w.drew fun t72 =>
 dFl P 62 t7 0 w.drew fun t73 =>
 dL P 42 t73 w.drew fun t74 =>
 Bs P 35 1 [(0, t74)] w.drew fun t75 w =>
 kLd P 35 t71 t72 w <|
 Bt P .append #[35, 35] 35 #[t72, t75] w fun t76 w =>
 NcP t26 fun t77 =>
 dFl P 48 t77 4 w fun t78 =>
 Sto P 35 t78 t76 w fun w =>
 Bn P .add 3 true t40 (.int .i64 1) w fun t79 w =>
 k1 t79 w)
 (Bn P .add 3 true t40 (.int .i64 1) w fun t79x1 w =>
 k1 t79x1 w))
 (Nc t26 w fun t81 w =>
 Fa P 48 t81 4 w fun t82 w =>
 Ld P 35 t82 w fun t83 w =>
 Cl P 44 #[t83, (.func (.func 45) #[] #[])] w (Pk R) fun t84 w =>
 Nc t26 w fun t86 w =>
 Fa P 48 t86 3 w fun t87 w =>
 Ld P 3 t87 w fun t88 w =>
 Bn P .add 3 true t88 (.int .i64 1) w fun t89 w =>
 Nc t26 w fun t90 w =>
 Fa P 48 t90 3 w fun t91 w =>
 Sto P 3 t91 t89 w fun w =>
 NcP t26 fun t93 =>
 dFl P 48 t93 3 w.drew fun t94 =>
 dL P 3 t94 w.drew fun t95 =>
 NcP t0 fun t97 =>
 dFl P 78 t97 0 w.drew fun t98 =>
 dFl P 76 t98 0 w.drew fun t99 =>
 dFl P 30 t99 0 w.drew fun t100 =>
 dL P 24 t100 w.drew fun t101 =>
 Dv P true (bV .len #[24] 3 #[t101]) w.drew fun t102 =>
 Dv P true (bn .eql 3 false t95 t102) w.drew fun t103 =>
 If t103
 (Nc t26 w.drew fun t106 w =>
 Fa P 48 t106 4 w fun t107 w =>
 Ld P 35 t107 w fun t108 w =>
 Nc t0 w fun t109 w =>
 Fa P 78 t109 1 w fun t110 w =>
 Sto P 35 t110 t108 w fun w =>
 Nc t0 w fun t113 w =>
 Fa P 78 t113 0 w fun t114 w =>
 Fa P 76 t114 0 w fun t115 w =>
 Fa P 30 t115 4 w fun t116 w =>
 Ld P 28 t116 w fun t117 w =>
 Bn P .add 3 true t15 (.int .i64 1) w fun t120 w =>
 Cl P 76 #[t117, t15, t120] w (Pk R) fun t121 w =>
 Nc t0 w fun t122 w =>
 Fa P 78 t122 0 w fun t123 w =>
 Fa P 76 t123 0 w fun t124 w =>
 Fa P 30 t124 4 w fun t125 w =>
 Sto P 28 t125 t121 w fun w =>
 R (.returned (.tuple #[])) w)
 (R (.returned (.tuple #[])) w.drew)))
theorem e_shard_change_read (h : s_shard_change_read Tryz.prog t0 t1 w R) : Calls Tryz.prog 31 #[t0, t1] w R :=
 en1 (.sq .z (.sq .z (.sq .z (.sq .z (.sq (.sq (.dr (.pur true 0 (.pur true 1 (.pur true 2 (.pur true 3 (.pur true 4 (.pur false 5 (.pur true 6 (.pur true 7 (.pur true 8 (.pur false 9 (.pur true 10 (.pur false 11 (.pur true 12 (.pur true 13 .done))))))))))))))) (.bk (.lp [40] [7, 41, 42, 43, 44, 45, 46, 47, 48, 49, 50, 51, 52, 53, 54, 55, 56, 57, 58, 59, 60, 61, 62, 63, 64, 65, 66, 67, 68, 69, 70, 71, 72, 73, 74, 75, 76, 77, 78, 79] (.sq .z (.sq (.cd .z .z) (.sq (.bk (.sq .z (.sq (.dr (.pur true 0 (.pur false 1 (.pur true 2 (.pur true 3 (.pur true 4 (.pur false 5 (.pur true 6 (.pur true 7 (.pur true 8 (.pur true 9 (.pur true 10 (.pur false 11 (.pur true 12 (.pur true 13 (.pur false 14 (.pur true 18 (.pur true 19 (.pur true 20 (.pur false 21 (.eff 15 [11, 21] (.pur true 16 (.pur false 17 (.pur true 22 (.pur true 23 .done))))))))))))))))))))))))) (.cd (.dr (.pur true 0 (.pur true 1 (.pur true 2 (.pur true 3 (.pur false 4 (.pur true 5 (.pur false 6 (.eff 7 [4] (.eff 8 [] (.pur true 9 (.pur true 10 (.eff 11 [] .done))))))))))))) .z)))) .z)))))) (.sq .z (.sq .z (.sq (.dr (.pur true 0 (.pur true 1 (.pur true 2 (.pur false 3 (.pur true 4 (.pur true 5 (.pur true 6 (.pur true 7 (.pur true 8 (.pur false 9 (.pur true 10 (.pur true 11 .done))))))))))))) (.cd (.sq .z .z) .z))))))))) [t0, t1] Tryz.func31 (by kernel_rfl) (by kernel_rfl) h
theorem n_shard_change_read : Enters Tryz.prog 31 := enters_of Tryz.func31 (by kernel_rfl) rfl
def s_shard_used (P : Program) (t0 : Value) (w : World) (R : Ending → World → Prop) : Prop :=
 Bx P 44 t0 w fun t1 w =>
 Al P 44 w fun t2 w =>
 Jn0 (fun k1 =>
 Fa P 44 t1 0 w fun t3 w =>
 Ld P 3 t3 w fun t4 w =>
 Bn P .eql 3 true t4 (.int .i64 1) w fun t6 w =>
 If t6
 (Bd P 42 [] w fun t7 w =>
 Fa P 44 t1 1 w fun t8 w =>
 Sto P 42 t8 t7 w fun w =>
 k1 w)
 (Bn P .eql 3 true t4 (.int .i64 2) w fun t10 w =>
 If t10
 (Fa P 44 t1 2 w fun t11 w =>
 Sto P 3 t11 (.int .i64 0) w fun w =>
 Fa P 44 t1 3 w fun t12 w =>
 Sto P 3 t12 (.int .i64 0) w fun w =>
 k1 w)
 (Jn1 (fun k2 =>
 Bn P .eql 3 true t4 (.int .i64 3) w fun t14 w =>
 If t14
 (k2 t14 w)
 (Bn P .eql 3 true t4 (.int .i64 5) w fun t15 w =>
 k2 t15 w))
 (fun t13 w =>
 If t13
 (Fa P 44 t1 4 w fun t16 w =>
 Sto P 3 t16 (.int .i64 0) w fun w =>
 k1 w)
 (Jn1 (fun k3 =>
 Bn P .eql 3 true t4 (.int .i64 7) w fun t18 w =>
 If t18
 (k3 t18 w)
 (Bn P .eql 3 true t4 (.int .i64 8) w fun t19 w =>
 k3 t19 w))
 (fun t17 w =>
 If t17
 (Fa P 44 t1 5 w fun t20 w =>
 Sto P 3 t20 (.int .i64 0) w fun w =>
 k1 w)
 (k1 w)))))))
 (fun w =>
 Fa P 44 t1 0 w fun t21 w =>
 Sto P 3 t21 (.int .i64 0) w fun w =>
 Ld P 44 t1 w fun t22 w =>
 Sto P 44 t2 t22 w fun w =>
 Rc P 44 t2 w fun r0 =>
 R (.returned r0) w)
theorem e_shard_used (h : s_shard_used Tryz.prog t0 w R) : Calls Tryz.prog 32 #[t0] w R :=
 en1 (.sq .z (.jn [] [3, 4, 5, 6, 7, 8, 9, 10, 11, 12, 13, 14, 15, 16, 17, 18, 19, 20] (.sq .z (.bk (.sq .z (.cd .z (.sq .z (.cd .z (.jn [13] [14, 15] (.sq .z (.cd .z .z)) (.cd .z (.jn [17] [18, 19] (.sq .z (.cd .z .z)) (.cd .z .z)))))))))) (.sq .z (.sq .z .z)))) [t0] Tryz.func32 (by kernel_rfl) (by kernel_rfl) h
theorem n_shard_used : Enters Tryz.prog 32 := enters_of Tryz.func32 (by kernel_rfl) rfl
def s_shard_of (P : Program) (t0 : Value) (w : World) (R : Ending → World → Prop) : Prop :=
 Bx P 30 t0 w fun t1 w =>
 Ld P 30 t1 w fun t7 w =>
 Bd P 76 [(0, t7)] w fun t8 w =>
 Bd P 78 [(0, t8)] w fun t9 w =>
 Bx P 78 t9 w fun t10 w =>
 Nc t10 w fun t12 w =>
 Fa P 78 t12 0 w fun t13 w =>
 Fa P 76 t13 0 w fun t14 w =>
 Fa P 30 t14 0 w fun t15 w =>
 Sto P 24 t15 (.slice none 0 0) w fun w =>
 Fa P 30 t1 0 w fun t16 w =>
 Ld P 24 t16 w fun t17 w =>
 Bt P .len #[24] 3 #[t17] w fun t18 w =>
 Lp1 (.int .i64 0) w (fun t19 w k1 =>
 Bn P .lss 3 false t19 t18 w fun t20 w =>
 If t20
 (Ia P 24 t17 t19 w fun t21 w =>
 Ld P 60 t21 w fun t22 w =>
 NcP t10 fun t25 =>
 dFl P 78 t25 0 w.drew fun t26 =>
 dFl P 76 t26 0 w.drew fun t27 =>
 dFl P 30 t27 0 w.drew fun t28 =>
 dL P 24 t28 w.drew fun t29 =>
 Cl P 77 #[t22] w.drew (Pk R) fun t31 w =>
 kLd P 24 t28 t29 w <|
 Bs P 24 1 [(0, t31)] w fun t32 w =>
 kLd P 24 t28 t29 w <|
 Bt P .append #[24, 24] 24 #[t29, t32] w fun t33 w =>
 NcP t10 fun t34 =>
 dFl P 78 t34 0 w fun t35 =>
 dFl P 76 t35 0 w fun t36 =>
 dFl P 30 t36 0 w fun t37 =>
 Sto P 24 t37 t33 w fun w =>
 Bn P .add 3 true t19 (.int .i64 1) w fun t38 w =>
 k1 t38 w)
 (Fa P 30 t1 1 w fun t40 w =>
 Ld P 25 t40 w fun t41 w =>
 Cl P 73 #[t41] w (Pk R) fun t42 w =>
 Nc t10 w fun t43 w =>
 Fa P 78 t43 0 w fun t44 w =>
 Fa P 76 t44 0 w fun t45 w =>
 Fa P 30 t45 1 w fun t46 w =>
 Sto P 25 t46 t42 w fun w =>
 Fa P 30 t1 4 w fun t48 w =>
 Ld P 28 t48 w fun t49 w =>
 Cl P 78 #[t49] w (Pk R) fun t50 w =>
 Nc t10 w fun t51 w =>
 Fa P 78 t51 0 w fun t52 w =>
 Fa P 76 t52 0 w fun t53 w =>
 Fa P 30 t53 4 w fun t54 w =>
 Sto P 28 t54 t50 w fun w =>
 Nc t10 w fun t56 w =>
 Fa P 78 t56 0 w fun t57 w =>
 Fa P 76 t57 0 w fun t58 w =>
 Fa P 30 t58 4 w fun t59 w =>
 Ld P 28 t59 w fun t60 w =>
 Bt P .len #[28] 3 #[t60] w fun t61 w =>
 Lp1 (.int .i64 0) w (fun t62 w k2 =>
 Bn P .lss 3 false t62 t61 w fun t63 w =>
 If t63
 (NcP t10 fun t66 =>
 dFl P 78 t66 0 w.drew fun t67 =>
 dFl P 76 t67 0 w.drew fun t68 =>
 dFl P 30 t68 4 w.drew fun t69 =>
 dL P 28 t69 w.drew fun t70 =>
 NcP t10 fun t73 =>
 dFl P 78 t73 0 w.drew fun t74 =>
 dFl P 76 t74 0 w.drew fun t75 =>
 dFl P 30 t75 4 w.drew fun t76 =>
 dL P 28 t76 w.drew fun t77 =>
 dIx P 28 t77 t62 w.drew fun t79 =>
 dFl P 48 t79 2 w.drew fun t80 =>
 dL P 25 t80 w.drew fun t81 =>
 Cl P 73 #[t81] w.drew (Pk R) fun t82 w =>
 kLd P 28 t69 t70 w <|
 dIx P 28 t70 t62 w fun t83 =>
 dFl P 48 t83 2 w fun t84 =>
 Sto P 25 t84 t82 w fun w =>
 NcP t10 fun t86 =>
 dFl P 78 t86 0 w.drew fun t87 =>
 dFl P 76 t87 0 w.drew fun t88 =>
 dFl P 30 t88 4 w.drew fun t89 =>
 dL P 28 t89 w.drew fun t90 =>
 NcP t10 fun t93 =>
 dFl P 78 t93 0 w.drew fun t94 =>
 dFl P 76 t94 0 w.drew fun t95 =>
 dFl P 30 t95 4 w.drew fun t96 =>
 dL P 28 t96 w.drew fun t97 =>
 dIx P 28 t97 t62 w.drew fun t99 =>
 dFl P 48 t99 4 w.drew fun t100 =>
 dL P 35 t100 w.drew fun t101 =>
 Cl P 79 #[t101] w.drew (Pk R) fun t102 w =>
 kLd P 28 t89 t90 w <|
 dIx P 28 t90 t62 w fun t103 =>
 dFl P 48 t103 4 w fun t104 =>
 Sto P 35 t104 t102 w fun w =>
 Bn P .add 3 true t62 (.int .i64 1) w fun t105 w =>
 k2 t105 w)
 (R (.returned t10) w))))
theorem e_shard_of (h : s_shard_of Tryz.prog t0 w R) : Calls Tryz.prog 33 #[t0] w R :=
 en1 (.sq .z (.sq .z (.sq .z (.sq (.sq .z (.bk (.lp [19] [5, 20, 21, 22, 23, 24, 25, 26, 27, 28, 29, 30, 31, 32, 33, 34, 35, 36, 37, 38] (.sq .z (.sq (.cd .z .z) (.sq (.bk (.sq .z (.dr (.pur true 0 (.pur true 1 (.pur true 2 (.pur true 3 (.pur true 4 (.pur true 5 (.pur false 6 (.pur true 7 (.eff 8 [6] (.eff 9 [6] (.eff 10 [] (.pur true 11 (.pur true 12 (.pur true 13 (.pur true 14 (.eff 15 [] .done))))))))))))))))))) .z)))))) (.sq .z (.sq .z (.sq (.sq .z (.bk (.lp [62] [6, 63, 64, 65, 66, 67, 68, 69, 70, 71, 72, 73, 74, 75, 76, 77, 78, 79, 80, 81, 82, 83, 84, 85, 86, 87, 88, 89, 90, 91, 92, 93, 94, 95, 96, 97, 98, 99, 100, 101, 102, 103, 104, 105] (.sq .z (.sq (.cd .z .z) (.sq (.bk (.sq .z (.sq (.dr (.pur true 0 (.pur true 1 (.pur true 2 (.pur true 3 (.pur true 4 (.pur false 5 (.pur true 6 (.pur true 7 (.pur true 8 (.pur true 9 (.pur true 10 (.pur true 11 (.pur false 12 (.pur true 13 (.pur true 14 (.pur true 15 (.pur false 16 (.eff 17 [5] (.pur true 18 (.pur true 19 (.eff 20 [] .done)))))))))))))))))))))) (.dr (.pur true 0 (.pur true 1 (.pur true 2 (.pur true 3 (.pur true 4 (.pur false 5 (.pur true 6 (.pur true 7 (.pur true 8 (.pur true 9 (.pur true 10 (.pur true 11 (.pur false 12 (.pur true 13 (.pur true 14 (.pur true 15 (.pur false 16 (.eff 17 [5] (.pur true 18 (.pur true 19 (.eff 20 [] .done))))))))))))))))))))))))) .z)))))) (.sq .z .z)))))))) [t0] Tryz.func33 (by kernel_rfl) (by kernel_rfl) h
theorem n_shard_of : Enters Tryz.prog 33 := enters_of Tryz.func33 (by kernel_rfl) rfl
def s_shard_Do_1 (P : Program) (t0 t1 t2 : Value) (w : World) (R : Ending → World → Prop) : Prop :=
 Ld P 68 t0 w fun t3 w =>
 Ld P 70 t1 w fun t4 w =>
 Ld P 44 t2 w fun t5 w =>
 Cw P t3 #[t4, t5] w (Pk R) fun t6 w =>
 R (.returned (.tuple #[])) w
theorem e_shard_Do_1 (h : s_shard_Do_1 Tryz.prog t0 t1 t2 w R) : Calls Tryz.prog 35 #[t0, t1, t2] w R :=
 en1 .z [t0, t1, t2] Tryz.func35 (by kernel_rfl) (by kernel_rfl) h
theorem n_shard_Do_1 : Enters Tryz.prog 35 := enters_of Tryz.func35 (by kernel_rfl) rfl
def s_slices_EqualFunc_api_Held_api_Held_api_Held_api_Held (P : Program) (t0 t1 t2 : Value) (w : World) (R : Ending → World → Prop) : Prop :=
 Bt P .len #[24] 3 #[t0] w fun t11 w =>
 Bt P .len #[24] 3 #[t1] w fun t13 w =>
 Bn P .neq 3 false t11 t13 w fun t14 w =>
 If t14
 (R (.returned (.bool false)) w)
 (Bt P .len #[24] 3 #[t0] w fun t16 w =>
 Lp1 (.int .i64 0) w (fun t17 w k1 =>
 Bn P .lss 3 false t17 t16 w fun t18 w =>
 If t18
 (Ia P 24 t0 t17 w fun t20 w =>
 Ld P 60 t20 w fun t21 w =>
 Ia P 24 t1 t17 w fun t24 w =>
 Ld P 60 t24 w fun t25 w =>
 Cw P t2 #[t21, t25] w (Pk R) fun t29 w =>
 Un P .not t29 w fun t30 w =>
 If t30
 (R (.returned (.bool false)) w)
 (Bn P .add 3 true t17 (.int .i64 1) w fun t31 w =>
 k1 t31 w))
 (R (.returned (.bool true)) w)))
theorem e_slices_EqualFunc_api_Held_api_Held_api_Held_api_Held (h : s_slices_EqualFunc_api_Held_api_Held_api_Held_api_Held Tryz.prog t0 t1 t2 w R) : Calls Tryz.prog 36 #[t0, t1, t2] w R :=
 en1 (.sq .z (.sq (.sq .z (.cd (.sq .z .z) .z)) (.sq (.sq .z (.bk (.lp [17] [6, 7, 8, 9, 18, 19, 20, 21, 22, 23, 24, 25, 26, 27, 28, 29, 30, 31] (.sq .z (.sq (.cd .z .z) (.sq (.bk (.sq .z (.sq .z (.sq .z (.cd (.sq .z .z) .z))))) .z)))))) (.sq .z .z)))) [t0, t1, t2] Tryz.func36 (by kernel_rfl) (by kernel_rfl) h
theorem n_slices_EqualFunc_api_Held_api_Held_api_Held_api_Held : Enters Tryz.prog 36 := enters_of Tryz.func36 (by kernel_rfl) rfl
def s_shard_Same_1 (P : Program) (t0 t1 : Value) (w : World) (R : Ending → World → Prop) : Prop :=
 Cl P 38 #[t0, t1] w (Pk R) fun t7 w =>
 R (.returned t7) w
theorem e_shard_Same_1 (h : s_shard_Same_1 Tryz.prog t0 t1 w R) : Calls Tryz.prog 37 #[t0, t1] w R :=
 en1 (.sq .z (.sq .z .z)) [t0, t1] Tryz.func37 (by kernel_rfl) (by kernel_rfl) h
theorem n_shard_Same_1 : Enters Tryz.prog 37 := enters_of Tryz.func37 (by kernel_rfl) rfl
def s_slices_Equal_api_Held_api_Held (P : Program) (t0 t1 : Value) (w : World) (R : Ending → World → Prop) : Prop :=
 Bt P .len #[60] 3 #[t0] w fun t7 w =>
 Bt P .len #[60] 3 #[t1] w fun t9 w =>
 Bn P .neq 3 false t7 t9 w fun t10 w =>
 If t10
 (R (.returned (.bool false)) w)
 (Bt P .len #[60] 3 #[t0] w fun t12 w =>
 Lp1 (.int .i64 0) w (fun t13 w k1 =>
 Bn P .lss 3 false t13 t12 w fun t14 w =>
 If t14
 (dIx P 60 t0 t13 w.drew fun t18 =>
 dL P 62 t18 w.drew fun t19 =>
 dIx P 60 t1 t13 w.drew fun t22 =>
 dL P 62 t22 w.drew fun t23 =>
 Dv P false (bn .neq 62 false t19 t23) w.drew fun t24 =>
 If t24
 (R (.returned (.bool false)) w.drew)
 (Bn P .add 3 true t13 (.int .i64 1) w.drew fun t25 w =>
 k1 t25 w))
 (R (.returned (.bool true)) w)))
theorem e_slices_Equal_api_Held_api_Held (h : s_slices_Equal_api_Held_api_Held Tryz.prog t0 t1 w R) : Calls Tryz.prog 38 #[t0, t1] w R :=
 en1 (.sq .z (.sq (.sq .z (.cd (.sq .z .z) .z)) (.sq (.sq .z (.bk (.lp [13] [4, 5, 14, 15, 16, 17, 18, 19, 20, 21, 22, 23, 24, 25] (.sq .z (.sq (.cd .z .z) (.sq (.bk (.sq .z (.sq (.dr (.pur true 0 (.pur true 1 (.pur true 2 (.pur false 3 (.pur true 4 (.pur true 5 (.pur true 6 (.pur false 7 (.pur false 8 .done)))))))))) (.cd (.sq .z .z) .z)))) .z)))))) (.sq .z .z)))) [t0, t1] Tryz.func38 (by kernel_rfl) (by kernel_rfl) h
theorem n_slices_Equal_api_Held_api_Held : Enters Tryz.prog 38 := enters_of Tryz.func38 (by kernel_rfl) rfl
def s_slices_EqualFunc_api_Reader_api_Reader_api_Reader_api_Reader (P : Program) (t0 t1 t2 : Value) (w : World) (R : Ending → World → Prop) : Prop :=
 Bt P .len #[28] 3 #[t0] w fun t11 w =>
 Bt P .len #[28] 3 #[t1] w fun t13 w =>
 Bn P .neq 3 false t11 t13 w fun t14 w =>
 If t14
 (R (.returned (.bool false)) w)
 (Bt P .len #[28] 3 #[t0] w fun t16 w =>
 Lp1 (.int .i64 0) w (fun t17 w k1 =>
 Bn P .lss 3 false t17 t16 w fun t18 w =>
 If t18
 (Ia P 28 t0 t17 w fun t20 w =>
 Ld P 48 t20 w fun t21 w =>
 Al P 48 w fun t8 w =>
 Sto P 48 t8 t21 w fun w =>
 Ia P 28 t1 t17 w fun t24 w =>
 Ld P 48 t24 w fun t25 w =>
 Al P 48 w fun t9 w =>
 Sto P 48 t9 t25 w fun w =>
 Ld P 48 t8 w fun t27 w =>
 Ld P 48 t9 w fun t28 w =>
 Cw P t2 #[t27, t28] w (Pk R) fun t29 w =>
 Un P .not t29 w fun t30 w =>
 If t30
 (R (.returned (.bool false)) w)
 (Bn P .add 3 true t17 (.int .i64 1) w fun t31 w =>
 k1 t31 w))
 (R (.returned (.bool true)) w)))
theorem e_slices_EqualFunc_api_Reader_api_Reader_api_Reader_api_Reader (h : s_slices_EqualFunc_api_Reader_api_Reader_api_Reader_api_Reader Tryz.prog t0 t1 t2 w R) : Calls Tryz.prog 39 #[t0, t1, t2] w R :=
 en1 (.sq .z (.sq (.sq .z (.cd (.sq .z .z) .z)) (.sq (.sq .z (.bk (.lp [17] [6, 7, 8, 9, 18, 19, 20, 21, 22, 23, 24, 25, 26, 27, 28, 29, 30, 31] (.sq .z (.sq (.cd .z .z) (.sq (.bk (.sq .z (.sq .z (.sq .z (.cd (.sq .z .z) .z))))) .z)))))) (.sq .z .z)))) [t0, t1, t2] Tryz.func39 (by kernel_rfl) (by kernel_rfl) h
theorem n_slices_EqualFunc_api_Reader_api_Reader_api_Reader_api_Reader : Enters Tryz.prog 39 := enters_of Tryz.func39 (by kernel_rfl) rfl
def s_shard_Same_2 (P : Program) (t0 t1 : Value) (w : World) (R : Ending → World → Prop) : Prop :=
 Bx P 48 t0 w fun t2 w =>
 Bx P 48 t1 w fun t3 w =>
 Fa P 48 t2 0 w fun t5 w =>
 Ld P 3 t5 w fun t6 w =>
 Fa P 48 t3 0 w fun t7 w =>
 Ld P 3 t7 w fun t8 w =>
 Bn P .eql 3 false t6 t8 w fun t9 w =>
 Gd t9 true (fun k => Fa P 48 t2 1 w k) w fun t11 w =>
 Gd t9 true (fun k => Ld P 3 t11 w k) w fun t12 w =>
 Gd t9 true (fun k => Fa P 48 t3 1 w k) w fun t13 w =>
 Gd t9 true (fun k => Ld P 3 t13 w k) w fun t14 w =>
 Gd t9 true (fun k => Bn P .eql 3 false t12 t14 w k) w fun t15 w =>
 Pick t9 t15 (.bool false) w fun t16 w =>
 Gd t16 true (fun k => Fa P 48 t2 3 w k) w fun t18 w =>
 Gd t16 true (fun k => Ld P 3 t18 w k) w fun t19 w =>
 Gd t16 true (fun k => Fa P 48 t3 3 w k) w fun t20 w =>
 Gd t16 true (fun k => Ld P 3 t20 w k) w fun t21 w =>
 Gd t16 true (fun k => Bn P .eql 3 false t19 t21 w k) w fun t22 w =>
 Pick t16 t22 (.bool false) w fun t23 w =>
 Gd t23 true (fun k => Fa P 48 t2 2 w k) w fun t25 w =>
 Gd t23 true (fun k => Ld P 25 t25 w k) w fun t26 w =>
 Gd t23 true (fun k => Fa P 48 t3 2 w k) w fun t27 w =>
 Gd t23 true (fun k => Ld P 25 t27 w k) w fun t28 w =>
 Gd t23 true (fun k => Cl P 41 #[t26, t28] w (Pk R) k) w fun t29 w =>
 Pick t23 t29 (.bool false) w fun t30 w =>
 Gd t30 true (fun k => Fa P 48 t2 4 w k) w fun t32 w =>
 Gd t30 true (fun k => Ld P 35 t32 w k) w fun t33 w =>
 Gd t30 true (fun k => Fa P 48 t3 4 w k) w fun t34 w =>
 Gd t30 true (fun k => Ld P 35 t34 w k) w fun t35 w =>
 Gd t30 true (fun k => Cl P 42 #[t33, t35] w (Pk R) k) w fun t36 w =>
 Pick t30 t36 (.bool false) w fun t37 w =>
 R (.returned t37) w
theorem e_shard_Same_2 (h : s_shard_Same_2 Tryz.prog t0 t1 w R) : Calls Tryz.prog 40 #[t0, t1] w R :=
 en1 (.sq .z (.sq .z .z)) [t0, t1] Tryz.func40 (by kernel_rfl) (by kernel_rfl) h
theorem n_shard_Same_2 : Enters Tryz.prog 40 := enters_of Tryz.func40 (by kernel_rfl) rfl
def s_slices_Equal_int_int (P : Program) (t0 t1 : Value) (w : World) (R : Ending → World → Prop) : Prop :=
 Bt P .len #[25] 3 #[t0] w fun t7 w =>
 Bt P .len #[25] 3 #[t1] w fun t9 w =>
 Bn P .neq 3 false t7 t9 w fun t10 w =>
 If t10
 (R (.returned (.bool false)) w)
 (Bt P .len #[25] 3 #[t0] w fun t12 w =>
 Lp1 (.int .i64 0) w (fun t13 w k1 =>
 Bn P .lss 3 false t13 t12 w fun t14 w =>
 If t14
 (dIx P 25 t0 t13 w.drew fun t18 =>
 dL P 3 t18 w.drew fun t19 =>
 dIx P 25 t1 t13 w.drew fun t22 =>
 dL P 3 t22 w.drew fun t23 =>
 Dv P true (bn .neq 3 false t19 t23) w.drew fun t24 =>
 If t24
 (R (.returned (.bool false)) w.drew)
 (Bn P .add 3 true t13 (.int .i64 1) w.drew fun t25 w =>
 k1 t25 w))
 (R (.returned (.bool true)) w)))
theorem e_slices_Equal_int_int (h : s_slices_Equal_int_int Tryz.prog t0 t1 w R) : Calls Tryz.prog 41 #[t0, t1] w R :=
 en1 (.sq .z (.sq (.sq .z (.cd (.sq .z .z) .z)) (.sq (.sq .z (.bk (.lp [13] [4, 5, 14, 15, 16, 17, 18, 19, 20, 21, 22, 23, 24, 25] (.sq .z (.sq (.cd .z .z) (.sq (.bk (.sq .z (.sq (.dr (.pur true 0 (.pur true 1 (.pur true 2 (.pur false 3 (.pur true 4 (.pur true 5 (.pur true 6 (.pur false 7 (.pur true 8 .done)))))))))) (.cd (.sq .z .z) .z)))) .z)))))) (.sq .z .z)))) [t0, t1] Tryz.func41 (by kernel_rfl) (by kernel_rfl) h
theorem n_slices_Equal_int_int : Enters Tryz.prog 41 := enters_of Tryz.func41 (by kernel_rfl) rfl
def s_slices_Equal_api_Fact_api_Fact (P : Program) (t0 t1 : Value) (w : World) (R : Ending → World → Prop) : Prop :=
 Bt P .len #[35] 3 #[t0] w fun t7 w =>
 Bt P .len #[35] 3 #[t1] w fun t9 w =>
 Bn P .neq 3 false t7 t9 w fun t10 w =>
 If t10
 (R (.returned (.bool false)) w)
 (Bt P .len #[35] 3 #[t0] w fun t12 w =>
 Lp1 (.int .i64 0) w (fun t13 w k1 =>
 Bn P .lss 3 false t13 t12 w fun t14 w =>
 If t14
 (dIx P 35 t0 t13 w.drew fun t18 =>
 dL P 42 t18 w.drew fun t19 =>
 dIx P 35 t1 t13 w.drew fun t22 =>
 dL P 42 t22 w.drew fun t23 =>
 Dv P false (bn .neq 42 false t19 t23) w.drew fun t24 =>
 If t24
 (R (.returned (.bool false)) w.drew)
 (Bn P .add 3 true t13 (.int .i64 1) w.drew fun t25 w =>
 k1 t25 w))
 (R (.returned (.bool true)) w)))
theorem e_slices_Equal_api_Fact_api_Fact (h : s_slices_Equal_api_Fact_api_Fact Tryz.prog t0 t1 w R) : Calls Tryz.prog 42 #[t0, t1] w R :=
 en1 (.sq .z (.sq (.sq .z (.cd (.sq .z .z) .z)) (.sq (.sq .z (.bk (.lp [13] [4, 5, 14, 15, 16, 17, 18, 19, 20, 21, 22, 23, 24, 25] (.sq .z (.sq (.cd .z .z) (.sq (.bk (.sq .z (.sq (.dr (.pur true 0 (.pur true 1 (.pur true 2 (.pur false 3 (.pur true 4 (.pur true 5 (.pur true 6 (.pur false 7 (.pur false 8 .done)))))))))) (.cd (.sq .z .z) .z)))) .z)))))) (.sq .z .z)))) [t0, t1] Tryz.func42 (by kernel_rfl) (by kernel_rfl) h
theorem n_slices_Equal_api_Fact_api_Fact : Enters Tryz.prog 42 := enters_of Tryz.func42 (by kernel_rfl) rfl
def s_shard_state_all (P : Program) (t0 : Value) (w : World) (R : Ending → World → Prop) : Prop :=
 Nc t0 w fun t12 w =>
 Fa P 76 t12 0 w fun t13 w =>
 Fa P 30 t13 2 w fun t14 w =>
 Ld P 3 t14 w fun t15 w =>
 Ms P 60 t15 t15 w fun t16 w =>
 Nc t0 w fun t18 w =>
 Fa P 76 t18 0 w fun t19 w =>
 Fa P 30 t19 2 w fun t20 w =>
 Ld P 3 t20 w fun t21 w =>
 Ms P 120 t21 t21 w fun t22 w =>
 Nc t0 w fun t24 w =>
 Fa P 76 t24 0 w fun t25 w =>
 Fa P 30 t25 0 w fun t26 w =>
 Ld P 24 t26 w fun t27 w =>
 Bt P .len #[24] 3 #[t27] w fun t28 w =>
 Lp1 (.int .i64 0) w (fun t29 w k1 =>
 Bn P .lss 3 false t29 t28 w fun t30 w =>
 If t30
 (Ia P 24 t27 t29 w fun t32 w =>
 Ld P 60 t32 w fun t33 w =>
 Bt P .len #[60] 3 #[t33] w fun t35 w =>
 Bn P .leq 3 true t35 (.int .i64 400) w fun t36 w =>
 Cl P 57 #[t36] w (Pk R) fun t37 w =>
 Mm P 121 none w fun t38 w =>
 Bt P .len #[60] 3 #[t33] w fun t40 w =>
 Lp1 (.int .i64 0) w (fun t41 w k2 =>
 Bn P .lss 3 false t41 t40 w fun t42 w =>
 If t42
 (Ia P 60 t33 t41 w fun t44 w =>
 Ld P 62 t44 w fun t45 w =>
 Al P 62 w fun t9 w =>
 Sto P 62 t9 t45 w fun w =>
 Fa P 62 t9 0 w fun t46 w =>
 Fa P 42 t46 0 w fun t47 w =>
 Ld P 3 t47 w fun t48 w =>
 Fa P 62 t9 0 w fun t49 w =>
 Fa P 42 t49 1 w fun t50 w =>
 Ld P 3 t50 w fun t51 w =>
 Bd P 122 [(0, t48), (1, t51)] w fun t52 w =>
 Al P 122 w fun t10 w =>
 Sto P 122 t10 t52 w fun w =>
 dFl P 62 t9 0 w.drew fun t53 =>
 dL P 42 t53 w.drew fun t54 =>
 Cl P 58 #[t54] w.drew (Pk R) fun t55 w =>
 GdP t55 true (fun k => dFl P 62 t9 1 w k) fun t57 =>
 GdP t55 true (fun k => dL P 3 t57 w k) fun t58 =>
 GdP t55 true (fun k => k t0) fun t59 =>
 GdP t55 true (fun k => NcP t59 k) fun t60 =>
 GdP t55 true (fun k => dFl P 76 t60 0 w k) fun t61 =>
 GdP t55 true (fun k => dFl P 30 t61 2 w k) fun t62 =>
 GdP t55 true (fun k => dL P 3 t62 w k) fun t63 =>
 GdP t55 true (fun k => Dv P true (bn .sub 3 true t63 (.int .i64 1)) w k) fun t64 =>
 Gd t55 true (fun k => Cl P 20 #[t58, (.int .i64 0), t64] w (Pk R) k) w fun t65 w =>
 PickP t55 t65 (.bool false) fun t66 =>
 GdP t66 true (fun k => k t41) fun t68 =>
 GdP t66 true (fun k => Dv P true (bn .eql 3 true t68 (.int .i64 0)) w k) fun t69 =>
 GdP t66 true (fun k => k t69) fun t70 =>
 GdP t70 false (fun k => k t33) fun t71 =>
 GdP t70 false (fun k => k t41) fun t72 =>
 GdP t70 false (fun k => Dv P true (bn .sub 3 true t72 (.int .i64 1)) w k) fun t73 =>
 GdP t70 false (fun k => dIx P 60 t71 t73 w k) fun t74 =>
 GdP t70 false (fun k => dFl P 62 t74 1 w k) fun t75 =>
 GdP t70 false (fun k => dL P 3 t75 w k) fun t76 =>
 GdP t70 false (fun k => dFl P 62 t9 1 w k) fun t77 =>
 GdP t70 false (fun k => dL P 3 t77 w k) fun t78 =>
 GdP t70 false (fun k => Dv P true (bn .lss 3 false t76 t78) w k) fun t79 =>
 GdP t66 true (fun k => PickP t70 (.bool true) t79 k) fun t80 =>
 PickP t66 t80 (.bool false) fun t81 =>
 GdP t81 true (fun k => k t38) fun t83 =>
 GdP t81 true (fun k => dL P 122 t10 w k) fun t84 =>
 GdP t81 true (fun k => Dv P false (Instr.lookup 121 t83 t84 false) w k) fun t85 =>
 GdP t81 true (fun k => Dv P true (Op.unary .not t85) w k) fun t86 =>
 PickP t81 t86 (.bool false) fun t87 =>
 Cl P 57 #[t87] w (Pk R) fun t88 w =>
 Ld P 122 t10 w fun t90 w =>
 Mu P 121 t38 t90 (.bool true) w fun w =>
 NcP t0 fun t92 =>
 dFl P 76 t92 0 w.drew fun t93 =>
 dFl P 30 t93 1 w.drew fun t94 =>
 dL P 25 t94 w.drew fun t95 =>
 dFl P 62 t9 0 w.drew fun t96 =>
 dFl P 42 t96 0 w.drew fun t97 =>
 dL P 3 t97 w.drew fun t98 =>
 Cl P 17 #[t98] w.drew (Pk R) fun t99 w =>
 kLd P 25 t94 t95 w <|
 dIx P 25 t95 t99 w fun t100 =>
 dL P 3 t100 w fun t101 =>
 Dv P true (bn .eql 3 false t101 t29) w fun t103 =>
 If t103
 (Fa P 62 t9 1 w fun t105 w =>
 Ld P 3 t105 w fun t106 w =>
 Ia P 120 t22 t106 w fun t107 w =>
 Ld P 4 t107 w fun t108 w =>
 Un P .not t108 w fun t109 w =>
 Cl P 57 #[t109] w (Pk R) fun t110 w =>
 dFl P 62 t9 1 w.drew fun t112 =>
 dL P 3 t112 w.drew fun t113 =>
 dFl P 62 t9 1 w.drew fun t115 =>
 dL P 3 t115 w.drew fun t116 =>
 dL P 62 t9 w.drew fun t117 =>
 dIx P 60 t16 t113 w.drew fun t118 =>
 Sto P 62 t118 t117 w.drew fun w =>
 kLd P 3 t115 t116 w <|
 dIx P 120 t22 t116 w fun t119 =>
 Sto P 4 t119 (.bool true) w fun w =>
 Bn P .add 3 true t41 (.int .i64 1) w fun t120 w =>
 k2 t120 w)
 (Bn P .add 3 true t41 (.int .i64 1) w fun t120x1 w =>
 k2 t120x1 w))
 (Bn P .add 3 true t29 (.int .i64 1) w fun t121 w =>
 k1 t121 w)))
 (Cl P 80 #[t22, (.bool false)] w (Pk R) fun t123 w =>
 Un P .not t123 w fun t124 w =>
 Cl P 57 #[t124] w (Pk R) fun t125 w =>
 R (.returned t16) w))
theorem e_shard_state_all (h : s_shard_state_all Tryz.prog t0 w R) : Calls Tryz.prog 43 #[t0] w R :=
 en1 (.sq .z (.sq .z (.sq .z (.sq (.sq .z (.bk (.lp [29] [5, 6, 7, 8, 9, 10, 30, 31, 32, 33, 34, 35, 36, 37, 38, 39, 40, 41, 42, 43, 44, 45, 46, 47, 48, 49, 50, 51, 52, 53, 54, 55, 56, 57, 58, 59, 60, 61, 62, 63, 64, 65, 66, 67, 68, 69, 70, 71, 72, 73, 74, 75, 76, 77, 78, 79, 80, 81, 82, 83, 84, 85, 86, 87, 88, 89, 90, 91, 92, 93, 94, 95, 96, 97, 98, 99, 100, 101, 102, 103, 104, 105, 106, 107, 108, 109, 110, 111, 112, 113, 114, 115, 116, 117, 118, 119, 120, 121] (.sq .z (.sq (.cd .z .z) (.sq (.bk (.sq .z (.sq .z (.sq .z (.sq .z (.bk (.lp [41] [8, 9, 10, 42, 43, 44, 45, 46, 47, 48, 49, 50, 51, 52, 53, 54, 55, 56, 57, 58, 59, 60, 61, 62, 63, 64, 65, 66, 67, 68, 69, 70, 71, 72, 73, 74, 75, 76, 77, 78, 79, 80, 81, 82, 83, 84, 85, 86, 87, 88, 89, 90, 91, 92, 93, 94, 95, 96, 97, 98, 99, 100, 101, 102, 103, 104, 105, 106, 107, 108, 109, 110, 111, 112, 113, 114, 115, 116, 117, 118, 119, 120] (.sq .z (.sq (.cd .z .z) (.sq (.bk (.sq .z (.sq .z (.sq (.dr (.pur true 0 (.pur false 1 (.eff 2 [] (.pur true 3 (.pur true 4 (.pur false 5 (.pur true 6 (.pur true 7 (.pur true 8 (.pur true 9 (.pur false 10 (.pur true 11 (.eff 12 [] (.pur true 13 (.pur true 14 (.pur true 15 (.pur true 16 (.pur true 17 (.pur true 18 (.pur true 19 (.pur true 20 (.pur true 21 (.pur true 22 (.pur false 23 (.pur true 24 (.pur false 25 (.pur true 26 (.pur true 27 (.pur true 28 (.pur true 29 (.pur true 30 (.pur false 31 (.pur false 32 (.pur true 33 (.pur true 34 (.eff 35 [] .done))))))))))))))))))))))))))))))))))))) (.sq .z (.sq (.dr (.pur true 0 (.pur true 1 (.pur true 2 (.pur true 3 (.pur false 4 (.pur true 5 (.pur true 6 (.pur false 7 (.pur true 11 (.eff 8 [4] (.pur true 9 (.pur false 10 (.pur true 12 .done)))))))))))))) (.cd (.sq .z (.dr (.pur true 0 (.pur true 1 (.pur false 2 (.pur true 3 (.pur true 4 (.pur false 5 (.pur false 6 (.pur true 7 (.eff 8 [5] (.pur true 9 (.eff 10 [] .done))))))))))))) .z))))))) .z)))))))))) .z)))))) (.sq .z (.sq .z .z)))))) [t0] Tryz.func43 (by kernel_rfl) (by kernel_rfl) h
theorem n_shard_state_all : Enters Tryz.prog 43 := enters_of Tryz.func43 (by kernel_rfl) rfl
def s_slices_SortFunc_api_Fact_api_Fact (P : Program) (t0 t1 : Value) (w : World) (R : Ending → World → Prop) : Prop :=
 Bt P .len #[35] 3 #[t0] w fun t6 w =>
 Cv P 3 126 t6 w fun t10 w =>
 Cl P 82 #[t10] w (Pk R) fun t11 w =>
 Cl P 81 #[t0, (.int .i64 0), t6, t11, t1] w (Pk R) fun t13 w =>
 R (.returned (.tuple #[])) w
theorem e_slices_SortFunc_api_Fact_api_Fact (h : s_slices_SortFunc_api_Fact_api_Fact Tryz.prog t0 t1 w R) : Calls Tryz.prog 44 #[t0, t1] w R :=
 en1 (.sq .z .z) [t0, t1] Tryz.func44 (by kernel_rfl) (by kernel_rfl) h
theorem n_slices_SortFunc_api_Fact_api_Fact : Enters Tryz.prog 44 := enters_of Tryz.func44 (by kernel_rfl) rfl
def s_shard_order (P : Program) (t0 t1 : Value) (w : World) (R : Ending → World → Prop) : Prop :=
 Bx P 42 t0 w fun t2 w =>
 Bx P 42 t1 w fun t3 w =>
 dFl P 42 t2 0 w.drew fun t5 =>
 dL P 3 t5 w.drew fun t6 =>
 dFl P 42 t3 0 w.drew fun t7 =>
 dL P 3 t7 w.drew fun t8 =>
 dFl P 42 t2 1 w.drew fun t10 =>
 dL P 3 t10 w.drew fun t11 =>
 dFl P 42 t3 1 w.drew fun t12 =>
 dL P 3 t12 w.drew fun t13 =>
 Cl P 64 #[t6, t8] w.drew (Pk R) fun t9 w =>
 kLd P 3 t10 t11 w <|
 kLd P 3 t12 t13 w <|
 Cl P 64 #[t11, t13] w (Pk R) fun t14 w =>
 Bs P 25 2 [(0, t9), (1, t14)] w fun t15 w =>
 Cl P 83 #[t15] w (Pk R) fun t16 w =>
 R (.returned t16) w
theorem e_shard_order (h : s_shard_order Tryz.prog t0 t1 w R) : Calls Tryz.prog 45 #[t0, t1] w R :=
 en1 (.sq .z (.sq (.dr (.pur true 0 (.pur false 1 (.pur true 2 (.pur false 3 (.pur true 5 (.pur false 6 (.pur true 7 (.pur false 8 (.eff 4 [6, 8] (.eff 9 [] (.eff 10 [] (.eff 11 [] (.pur true 12 .done)))))))))))))) .z)) [t0, t1] Tryz.func45 (by kernel_rfl) (by kernel_rfl) h
theorem n_shard_order : Enters Tryz.prog 45 := enters_of Tryz.func45 (by kernel_rfl) rfl
def s_shard_state_check (P : Program) (t0 : Value) (w : World) (R : Ending → World → Prop) : Prop :=
 Nc t0 w fun t7 w =>
 Fa P 76 t7 0 w fun t8 w =>
 Fa P 30 t8 0 w fun t9 w =>
 Ld P 24 t9 w fun t10 w =>
 Bt P .len #[24] 3 #[t10] w fun t11 w =>
 Cl P 20 #[t11, (.int .i64 2), (.int .i64 4)] w (Pk R) fun t12 w =>
 Gd t12 true (fun k => k t0 w) w fun t14 w =>
 Gd t12 true (fun k => Nc t14 w k) w fun t15 w =>
 Gd t12 true (fun k => Fa P 76 t15 0 w k) w fun t16 w =>
 Gd t12 true (fun k => Fa P 30 t16 2 w k) w fun t17 w =>
 Gd t12 true (fun k => Ld P 3 t17 w k) w fun t18 w =>
 Gd t12 true (fun k => Cl P 20 #[t18, (.int .i64 0), (.int .i64 400)] w (Pk R) k) w fun t19 w =>
 Pick t12 t19 (.bool false) w fun t20 w =>
 Gd t20 true (fun k => k t0 w) w fun t22 w =>
 Gd t20 true (fun k => Nc t22 w k) w fun t23 w =>
 Gd t20 true (fun k => Fa P 76 t23 0 w k) w fun t24 w =>
 Gd t20 true (fun k => Fa P 30 t24 4 w k) w fun t25 w =>
 Gd t20 true (fun k => Ld P 28 t25 w k) w fun t26 w =>
 Gd t20 true (fun k => Bt P .len #[28] 3 #[t26] w k) w fun t27 w =>
 Gd t20 true (fun k => Bn P .leq 3 true t27 (.int .i64 4) w k) w fun t28 w =>
 Pick t20 t28 (.bool false) w fun t29 w =>
 Cl P 57 #[t29] w (Pk R) fun t30 w =>
 Nc t0 w fun t33 w =>
 Fa P 76 t33 0 w fun t34 w =>
 Fa P 30 t34 1 w fun t35 w =>
 Ld P 25 t35 w fun t36 w =>
 Cl P 84 #[t0, t36] w (Pk R) fun t37 w =>
 Cl P 43 #[t0] w (Pk R) fun t39 w =>
 Cl P 85 #[t0] w (Pk R) fun t41 w =>
 Nc t0 w fun t43 w =>
 Fa P 76 t43 0 w fun t44 w =>
 Fa P 30 t44 4 w fun t45 w =>
 Ld P 28 t45 w fun t46 w =>
 Bt P .len #[28] 3 #[t46] w fun t47 w =>
 Lp1 (.int .i64 0) w (fun t48 w k1 =>
 Bn P .lss 3 false t48 t47 w fun t49 w =>
 If t49
 (Ia P 28 t46 t48 w fun t51 w =>
 Ld P 48 t51 w fun t52 w =>
 Al P 48 w fun t5 w =>
 Sto P 48 t5 t52 w fun w =>
 Dv P true (bn .eql 3 true t48 (.int .i64 0)) w.drew fun t54 =>
 GdP t54 false (fun k => k t0) fun t56 =>
 GdP t54 false (fun k => NcP t56 k) fun t57 =>
 GdP t54 false (fun k => dFl P 76 t57 0 w.drew k) fun t58 =>
 GdP t54 false (fun k => dFl P 30 t58 4 w.drew k) fun t59 =>
 GdP t54 false (fun k => dL P 28 t59 w.drew k) fun t60 =>
 GdP t54 false (fun k => k t48) fun t61 =>
 GdP t54 false (fun k => Dv P true (bn .sub 3 true t61 (.int .i64 1)) w.drew k) fun t62 =>
 GdP t54 false (fun k => dIx P 28 t60 t62 w.drew k) fun t63 =>
 GdP t54 false (fun k => dFl P 48 t63 0 w.drew k) fun t64 =>
 GdP t54 false (fun k => dL P 3 t64 w.drew k) fun t65 =>
 GdP t54 false (fun k => dFl P 48 t5 0 w.drew k) fun t66 =>
 GdP t54 false (fun k => dL P 3 t66 w.drew k) fun t67 =>
 GdP t54 false (fun k => Dv P true (bn .lss 3 false t65 t67) w.drew k) fun t68 =>
 PickP t54 (.bool true) t68 fun t69 =>
 Cl P 57 #[t69] w.drew (Pk R) fun t70 w =>
 Ld P 48 t5 w fun t72 w =>
 Cl P 86 #[t0, t72, t39] w (Pk R) fun t74 w =>
 Bn P .add 3 true t48 (.int .i64 1) w fun t75 w =>
 k1 t75 w)
 (R (.returned t39) w))
theorem e_shard_state_check (h : s_shard_state_check Tryz.prog t0 w R) : Calls Tryz.prog 47 #[t0] w R :=
 en1 (.sq .z (.sq .z (.sq .z (.sq .z (.sq .z (.sq (.sq .z (.bk (.lp [48] [4, 5, 49, 50, 51, 52, 53, 54, 55, 56, 57, 58, 59, 60, 61, 62, 63, 64, 65, 66, 67, 68, 69, 70, 71, 72, 73, 74, 75] (.sq .z (.sq (.cd .z .z) (.sq (.bk (.sq .z (.sq (.dr (.pur true 0 (.pur true 1 (.pur true 2 (.pur true 3 (.pur true 4 (.pur true 5 (.pur true 6 (.pur false 7 (.pur true 8 (.pur true 9 (.pur true 10 (.pur true 11 (.pur false 12 (.pur true 13 (.pur false 14 (.pur true 15 (.pur true 16 (.eff 17 [] .done))))))))))))))))))) .z))) .z)))))) (.sq .z .z))))))) [t0] Tryz.func47 (by kernel_rfl) (by kernel_rfl) h
theorem n_shard_state_check : Enters Tryz.prog 47 := enters_of Tryz.func47 (by kernel_rfl) rfl
def s_ref37_in (P : Program) (t0 t1 t2 : Value) (w : World) (R : Ending → World → Prop) : Prop :=
 Bn P .geq 3 false t0 t1 w fun t9 w =>
 Gd t9 true (fun k => k t0 w) w fun t11 w =>
 Gd t9 true (fun k => k t2 w) w fun t12 w =>
 Gd t9 true (fun k => Bn P .leq 3 false t11 t12 w k) w fun t13 w =>
 Pick t9 t13 (.bool false) w fun t14 w =>
 R (.returned t14) w
theorem e_ref37_in (h : s_ref37_in Tryz.prog t0 t1 t2 w R) : Calls Tryz.prog 48 #[t0, t1, t2] w R :=
 en1 (.sq .z (.sq .z .z)) [t0, t1, t2] Tryz.func48 (by kernel_rfl) (by kernel_rfl) h
theorem n_ref37_in : Enters Tryz.prog 48 := enters_of Tryz.func48 (by kernel_rfl) rfl
def s_ref37_Valid (P : Program) (t0 : Value) (w : World) (R : Ending → World → Prop) : Prop :=
 Bx P 30 t0 w fun t1 w =>
 Fa P 30 t1 0 w fun t5 w =>
 Ld P 24 t5 w fun t6 w =>
 Bt P .len #[24] 3 #[t6] w fun t7 w =>
 Cl P 48 #[t7, (.int .i64 2), (.int .i64 4)] w (Pk R) fun t8 w =>
 Un P .not t8 w fun t9 w =>
 Gd t9 false (fun k => Fa P 30 t1 1 w k) w fun t11 w =>
 Gd t9 false (fun k => Ld P 25 t11 w k) w fun t12 w =>
 Gd t9 false (fun k => Fa P 30 t1 0 w k) w fun t13 w =>
 Gd t9 false (fun k => Ld P 24 t13 w k) w fun t14 w =>
 Gd t9 false (fun k => Bt P .len #[24] 3 #[t14] w k) w fun t15 w =>
 Gd t9 false (fun k => Cl P 87 #[t12, t15] w (Pk R) k) w fun t16 w =>
 Gd t9 false (fun k => Un P .not t16 w k) w fun t17 w =>
 Pick t9 (.bool true) t17 w fun t18 w =>
 Gd t18 false (fun k => Fa P 30 t1 2 w k) w fun t20 w =>
 Gd t18 false (fun k => Ld P 3 t20 w k) w fun t21 w =>
 Gd t18 false (fun k => Cl P 48 #[t21, (.int .i64 0), (.int .i64 400)] w (Pk R) k) w fun t22 w =>
 Gd t18 false (fun k => Un P .not t22 w k) w fun t23 w =>
 Pick t18 (.bool true) t23 w fun t24 w =>
 Gd t24 false (fun k => Fa P 30 t1 4 w k) w fun t26 w =>
 Gd t24 false (fun k => Ld P 28 t26 w k) w fun t27 w =>
 Gd t24 false (fun k => Bt P .len #[28] 3 #[t27] w k) w fun t28 w =>
 Gd t24 false (fun k => Bn P .gtr 3 true t28 (.int .i64 4) w k) w fun t29 w =>
 Pick t24 (.bool true) t29 w fun t30 w =>
 If t30
 (R (.returned (.bool false)) w)
 (Lp1 (.int .i64 0) w (fun t3 w k1 =>
 Fa P 30 t1 0 w fun t32 w =>
 Ld P 24 t32 w fun t33 w =>
 Bt P .len #[24] 3 #[t33] w fun t34 w =>
 Bn P .lss 3 false t3 t34 w fun t35 w =>
 If t35
 (Fa P 30 t1 0 w fun t38 w =>
 Ld P 24 t38 w fun t39 w =>
 Ia P 24 t39 t3 w fun t41 w =>
 Ld P 60 t41 w fun t42 w =>
 Bt P .len #[60] 3 #[t42] w fun t43 w =>
 Bn P .gtr 3 true t43 (.int .i64 400) w fun t44 w =>
 If t44
 (R (.returned (.bool false)) w)
 (Bn P .add 3 true t3 (.int .i64 1) w fun t37 w =>
 k1 t37 w))
 (Ld P 30 t1 w fun t45 w =>
 Cl P 88 #[t45] w (Pk R) fun t46 w =>
 Un P .not t46 w fun t47 w =>
 Gd t47 false (fun k => Ld P 30 t1 w k) w fun t49 w =>
 Gd t47 false (fun k => Cl P 89 #[t49] w (Pk R) k) w fun t50 w =>
 Gd t47 false (fun k => Un P .not t50 w k) w fun t51 w =>
 Pick t47 (.bool true) t51 w fun t52 w =>
 If t52
 (R (.returned (.bool false)) w)
 (Lp1 (.int .i64 0) w (fun t4 w k2 =>
 Fa P 30 t1 4 w fun t54 w =>
 Ld P 28 t54 w fun t55 w =>
 Bt P .len #[28] 3 #[t55] w fun t56 w =>
 Bn P .lss 3 false t4 t56 w fun t57 w =>
 If t57
 (dL P 30 t1 w.drew fun t60 =>
 dFl P 30 t1 4 w.drew fun t61 =>
 dL P 28 t61 w.drew fun t62 =>
 dIx P 28 t62 t4 w.drew fun t64 =>
 dL P 48 t64 w.drew fun t65 =>
 Cl P 90 #[t60, t65] w.drew (Pk R) fun t66 w =>
 Dv P true (Op.unary .not t66) w fun t67 =>
 GdP t67 false (fun k => k t4) fun t69 =>
 GdP t67 false (fun k => Dv P true (bn .gtr 3 true t69 (.int .i64 0)) w k) fun t70 =>
 GdP t67 false (fun k => k t70) fun t71 =>
 GdP t71 true (fun k => dFl P 30 t1 4 w k) fun t72 =>
 GdP t71 true (fun k => dL P 28 t72 w k) fun t73 =>
 GdP t71 true (fun k => k t4) fun t74 =>
 GdP t71 true (fun k => dIx P 28 t73 t74 w k) fun t75 =>
 GdP t71 true (fun k => dFl P 48 t75 0 w k) fun t76 =>
 GdP t71 true (fun k => dL P 3 t76 w k) fun t77 =>
 GdP t71 true (fun k => dFl P 30 t1 4 w k) fun t78 =>
 GdP t71 true (fun k => dL P 28 t78 w k) fun t79 =>
 GdP t71 true (fun k => k t4) fun t80 =>
 GdP t71 true (fun k => Dv P true (bn .sub 3 true t80 (.int .i64 1)) w k) fun t81 =>
 GdP t71 true (fun k => dIx P 28 t79 t81 w k) fun t82 =>
 GdP t71 true (fun k => dFl P 48 t82 0 w k) fun t83 =>
 GdP t71 true (fun k => dL P 3 t83 w k) fun t84 =>
 GdP t71 true (fun k => Dv P true (bn .leq 3 false t77 t84) w k) fun t85 =>
 GdP t67 false (fun k => PickP t71 t85 (.bool false) k) fun t86 =>
 PickP t67 (.bool true) t86 fun t87 =>
 If t87
 (R (.returned (.bool false)) w)
 (Bn P .add 3 true t4 (.int .i64 1) w fun t59 w =>
 k2 t59 w))
 (R (.returned (.bool true)) w))))))
theorem e_ref37_Valid (h : s_ref37_Valid Tryz.prog t0 w R) : Calls Tryz.prog 49 #[t0] w R :=
 en1 (.sq .z (.sq (.sq .z (.cd (.sq .z .z) .z)) (.sq (.sq .z (.bk (.lp [3] [2, 31, 32, 33, 34, 35, 36, 37, 38, 39, 40, 41, 42, 43, 44] (.sq (.sq .z (.cd .z .z)) (.sq (.bk (.sq .z (.cd (.sq .z .z) .z))) .z))))) (.sq (.sq .z (.cd (.sq .z .z) .z)) (.sq (.sq .z (.bk (.lp [4] [2, 53, 54, 55, 56, 57, 58, 59, 60, 61, 62, 63, 64, 65, 66, 67, 68, 69, 70, 71, 72, 73, 74, 75, 76, 77, 78, 79, 80, 81, 82, 83, 84, 85, 86, 87] (.sq (.sq .z (.cd .z .z)) (.sq (.bk (.sq (.dr (.pur false 0 (.pur true 1 (.pur false 2 (.pur true 3 (.pur true 4 (.pur false 5 (.eff 6 [] (.pur true 7 (.pur true 8 (.pur true 9 (.pur true 10 (.pur true 11 (.pur true 12 (.pur false 13 (.pur true 14 (.pur true 15 (.pur true 16 (.pur false 17 (.pur true 18 (.pur false 19 (.pur true 20 (.pur true 21 (.pur true 22 (.pur true 23 (.pur false 24 (.pur true 25 (.pur true 26 (.pur true 27 .done))))))))))))))))))))))))))))) (.cd (.sq .z .z) .z))) .z))))) (.sq .z .z)))))) [t0] Tryz.func49 (by kernel_rfl) (by kernel_rfl) h
theorem n_ref37_Valid : Enters Tryz.prog 49 := enters_of Tryz.func49 (by kernel_rfl) rfl
def s_ref37_formed (P : Program) (t0 : Value) (w : World) (R : Ending → World → Prop) : Prop :=
 Bx P 44 t0 w fun t1 w =>
 Ld P 44 t1 w fun t4 w =>
 Al P 44 w fun t3 w =>
 Sto P 44 t3 t4 w fun w =>
 Fa P 44 t3 0 w fun t5 w =>
 Sto P 3 t5 (.int .i64 0) w fun w =>
 Jn0 (fun k1 =>
 Fa P 44 t1 0 w fun t6 w =>
 Ld P 3 t6 w fun t7 w =>
 Bn P .eql 3 true t7 (.int .i64 1) w fun t9 w =>
 If t9
 (Bd P 42 [] w fun t10 w =>
 Fa P 44 t3 1 w fun t11 w =>
 Sto P 42 t11 t10 w fun w =>
 k1 w)
 (Bn P .eql 3 true t7 (.int .i64 2) w fun t13 w =>
 If t13
 (Fa P 44 t3 2 w fun t14 w =>
 Sto P 3 t14 (.int .i64 0) w fun w =>
 Fa P 44 t3 3 w fun t15 w =>
 Sto P 3 t15 (.int .i64 0) w fun w =>
 k1 w)
 (Jn1 (fun k2 =>
 Bn P .eql 3 true t7 (.int .i64 3) w fun t17 w =>
 If t17
 (k2 t17 w)
 (Bn P .eql 3 true t7 (.int .i64 5) w fun t18 w =>
 k2 t18 w))
 (fun t16 w =>
 If t16
 (Fa P 44 t3 4 w fun t19 w =>
 Sto P 3 t19 (.int .i64 0) w fun w =>
 k1 w)
 (Jn1 (fun k3 =>
 Bn P .eql 3 true t7 (.int .i64 7) w fun t21 w =>
 If t21
 (k3 t21 w)
 (Bn P .eql 3 true t7 (.int .i64 8) w fun t22 w =>
 k3 t22 w))
 (fun t20 w =>
 If t20
 (Fa P 44 t3 5 w fun t23 w =>
 Sto P 3 t23 (.int .i64 0) w fun w =>
 k1 w)
 (Bn P .eql 3 true t7 (.int .i64 4) w fun t25 w =>
 If t25
 (If t25
 (k1 w)
 (R (.returned (.bool false)) w))
 (Bn P .eql 3 true t7 (.int .i64 6) w fun t26 w =>
 If t26
 (k1 w)
 (R (.returned (.bool false)) w)))))))))
 (fun w =>
 Ld P 44 t3 w fun t27 w =>
 Bd P 44 [] w fun t28 w =>
 Bn P .eql 44 false t27 t28 w fun t29 w =>
 R (.returned t29) w)
theorem e_ref37_formed (h : s_ref37_formed Tryz.prog t0 w R) : Calls Tryz.prog 50 #[t0] w R :=
 en1 (.sq .z (.sq .z (.sq .z (.jn [] [2, 6, 7, 8, 9, 10, 11, 12, 13, 14, 15, 16, 17, 18, 19, 20, 21, 22, 23, 24, 25, 26] (.sq .z (.bk (.sq .z (.cd .z (.sq .z (.cd (.sq .z .z) (.jn [16] [17, 18] (.sq .z (.cd .z .z)) (.cd .z (.jn [20] [21, 22] (.sq .z (.cd .z .z)) (.cd .z (.sq (.sq .z (.cd .z .z)) (.cd .z (.sq .z .z))))))))))))) (.sq .z .z))))) [t0] Tryz.func50 (by kernel_rfl) (by kernel_rfl) h
theorem n_ref37_formed : Enters Tryz.prog 50 := enters_of Tryz.func50 (by kernel_rfl) rfl
def s_ref37_Copy (P : Program) (t0 : Value) (w : World) (R : Ending → World → Prop) : Prop :=
 Bx P 30 t0 w fun t1 w =>
 Al P 30 w fun t2 w =>
 Ld P 30 t1 w fun t7 w =>
 Al P 30 w fun t3 w =>
 Sto P 30 t3 t7 w fun w =>
 Fa P 30 t3 0 w fun t8 w =>
 Sto P 24 t8 (.slice none 0 0) w fun w =>
 Lp1 (.int .i64 0) w (fun t4 w k1 =>
 Fa P 30 t1 0 w fun t10 w =>
 Ld P 24 t10 w fun t11 w =>
 Bt P .len #[24] 3 #[t11] w fun t12 w =>
 Bn P .lss 3 false t4 t12 w fun t13 w =>
 If t13
 (dFl P 30 t3 0 w.drew fun t16 =>
 dL P 24 t16 w.drew fun t17 =>
 dFl P 30 t1 0 w.drew fun t19 =>
 dL P 24 t19 w.drew fun t20 =>
 dIx P 24 t20 t4 w.drew fun t22 =>
 dL P 60 t22 w.drew fun t23 =>
 Bs P 60 0 [] w.drew fun t18 w =>
 kLd P 24 t16 t17 w <|
 kLd P 24 t19 t20 w <|
 kLd P 60 t22 t23 w <|
 Bt P .append #[60, 60] 60 #[t18, t23] w fun t24 w =>
 kLd P 24 t16 t17 w <|
 Bs P 24 1 [(0, t24)] w fun t25 w =>
 kLd P 24 t16 t17 w <|
 Bt P .append #[24, 24] 24 #[t17, t25] w fun t26 w =>
 dFl P 30 t3 0 w fun t27 =>
 Sto P 24 t27 t26 w fun w =>
 Bn P .add 3 true t4 (.int .i64 1) w fun t15 w =>
 k1 t15 w)
 (Bs P 25 0 [] w fun t28 w =>
 Fa P 30 t1 1 w fun t29 w =>
 Ld P 25 t29 w fun t30 w =>
 Bt P .append #[25, 25] 25 #[t28, t30] w fun t31 w =>
 Fa P 30 t3 1 w fun t32 w =>
 Sto P 25 t32 t31 w fun w =>
 Fa P 30 t3 4 w fun t33 w =>
 Sto P 28 t33 (.slice none 0 0) w fun w =>
 Lp1 (.int .i64 0) w (fun t5 w k2 =>
 Fa P 30 t1 4 w fun t35 w =>
 Ld P 28 t35 w fun t36 w =>
 Bt P .len #[28] 3 #[t36] w fun t37 w =>
 Bn P .lss 3 false t5 t37 w fun t38 w =>
 If t38
 (Fa P 30 t1 4 w fun t41 w =>
 Ld P 28 t41 w fun t42 w =>
 Ia P 28 t42 t5 w fun t44 w =>
 Ld P 48 t44 w fun t45 w =>
 Al P 48 w fun t6 w =>
 Sto P 48 t6 t45 w fun w =>
 Bs P 25 0 [] w fun t46 w =>
 Fa P 48 t6 2 w fun t47 w =>
 Ld P 25 t47 w fun t48 w =>
 Bt P .append #[25, 25] 25 #[t46, t48] w fun t49 w =>
 Fa P 48 t6 2 w fun t50 w =>
 Sto P 25 t50 t49 w fun w =>
 Bs P 35 0 [] w fun t51 w =>
 Fa P 48 t6 4 w fun t52 w =>
 Ld P 35 t52 w fun t53 w =>
 Bt P .append #[35, 35] 35 #[t51, t53] w fun t54 w =>
 Fa P 48 t6 4 w fun t55 w =>
 Sto P 35 t55 t54 w fun w =>
 Fa P 30 t3 4 w fun t56 w =>
 Ld P 28 t56 w fun t57 w =>
 Ld P 48 t6 w fun t58 w =>
 Bs P 28 1 [(0, t58)] w fun t59 w =>
 Bt P .append #[28, 28] 28 #[t57, t59] w fun t60 w =>
 Fa P 30 t3 4 w fun t61 w =>
 Sto P 28 t61 t60 w fun w =>
 Bn P .add 3 true t5 (.int .i64 1) w fun t40 w =>
 k2 t40 w)
 (Ld P 30 t3 w fun t62 w =>
 Sto P 30 t2 t62 w fun w =>
 Rc P 30 t2 w fun r0 =>
 R (.returned r0) w))))
theorem e_ref37_Copy (h : s_ref37_Copy Tryz.prog t0 w R) : Calls Tryz.prog 51 #[t0] w R :=
 en1 (.sq .z (.sq .z (.sq .z (.sq (.sq .z (.bk (.lp [4] [9, 10, 11, 12, 13, 14, 15, 16, 17, 18, 19, 20, 21, 22, 23, 24, 25, 26, 27] (.sq (.sq .z (.cd .z .z)) (.sq (.bk (.dr (.pur true 0 (.pur false 1 (.pur true 3 (.pur false 4 (.pur true 5 (.pur true 6 (.pur false 7 (.eff 2 [1, 4, 7] (.eff 8 [1] (.eff 9 [1] (.eff 10 [] (.pur true 11 (.eff 12 [] .done))))))))))))))) .z))))) (.sq .z (.sq .z (.sq (.sq .z (.bk (.lp [5] [6, 34, 35, 36, 37, 38, 39, 40, 41, 42, 43, 44, 45, 46, 47, 48, 49, 50, 51, 52, 53, 54, 55, 56, 57, 58, 59, 60, 61] (.sq (.sq .z (.cd .z .z)) (.sq (.bk (.sq .z (.sq .z (.sq .z .z)))) .z))))) (.sq .z .z)))))))) [t0] Tryz.func51 (by kernel_rfl) (by kernel_rfl) h
theorem n_ref37_Copy : Enters Tryz.prog 51 := enters_of Tryz.func51 (by kernel_rfl) rfl
def s_ref14_ValidFact (P : Program) (t0 : Value) (w : World) (R : Ending → World → Prop) : Prop :=
 Bx P 42 t0 w fun t1 w =>
 Fa P 42 t1 0 w fun t3 w =>
 Ld P 3 t3 w fun t4 w =>
 Cl P 91 #[t4, (.int .i64 0), (.int .i64 999)] w (Pk R) fun t5 w =>
 Un P .not t5 w fun t6 w =>
 Gd t6 false (fun k => Fa P 42 t1 1 w k) w fun t8 w =>
 Gd t6 false (fun k => Ld P 3 t8 w k) w fun t9 w =>
 Gd t6 false (fun k => Cl P 91 #[t9, (.int .i64 0), (.int .i64 9)] w (Pk R) k) w fun t10 w =>
 Gd t6 false (fun k => Un P .not t10 w k) w fun t11 w =>
 Pick t6 (.bool true) t11 w fun t12 w =>
 Gd t12 false (fun k => Fa P 42 t1 2 w k) w fun t14 w =>
 Gd t12 false (fun k => Ld P 3 t14 w k) w fun t15 w =>
 Gd t12 false (fun k => Cl P 91 #[t15, (.int .i64 0), (.int .i64 7)] w (Pk R) k) w fun t16 w =>
 Gd t12 false (fun k => Un P .not t16 w k) w fun t17 w =>
 Pick t12 (.bool true) t17 w fun t18 w =>
 Gd t18 false (fun k => Fa P 42 t1 3 w k) w fun t20 w =>
 Gd t18 false (fun k => Ld P 3 t20 w k) w fun t21 w =>
 Gd t18 false (fun k => Cl P 91 #[t21, (.int .i64 0), (.int .i64 9)] w (Pk R) k) w fun t22 w =>
 Gd t18 false (fun k => Un P .not t22 w k) w fun t23 w =>
 Pick t18 (.bool true) t23 w fun t24 w =>
 Gd t24 false (fun k => Fa P 42 t1 4 w k) w fun t26 w =>
 Gd t24 false (fun k => Ld P 3 t26 w k) w fun t27 w =>
 Gd t24 false (fun k => Cl P 91 #[t27, (.int .i64 0), (.int .i64 11)] w (Pk R) k) w fun t28 w =>
 Gd t24 false (fun k => Un P .not t28 w k) w fun t29 w =>
 Pick t24 (.bool true) t29 w fun t30 w =>
 Gd t30 false (fun k => Fa P 42 t1 5 w k) w fun t32 w =>
 Gd t30 false (fun k => Ld P 3 t32 w k) w fun t33 w =>
 Gd t30 false (fun k => Cl P 91 #[t33, (.int .i64 (-1)), (.int .i64 19)] w (Pk R) k) w fun t34 w =>
 Gd t30 false (fun k => Un P .not t34 w k) w fun t35 w =>
 Pick t30 (.bool true) t35 w fun t36 w =>
 If t36
 (R (.returned (.bool false)) w)
 (Fa P 42 t1 6 w fun t37 w =>
 Ld P 3 t37 w fun t38 w =>
 Fa P 42 t1 0 w fun t39 w =>
 Ld P 3 t39 w fun t40 w =>
 Bn P .quo 3 true t40 (.int .i64 10) w fun t41 w =>
 Bn P .eql 3 false t38 t41 w fun t42 w =>
 Gd t42 true (fun k => Fa P 42 t1 7 w k) w fun t44 w =>
 Gd t42 true (fun k => Ld P 3 t44 w k) w fun t45 w =>
 Gd t42 true (fun k => Bn P .geq 3 true t45 (.int .i64 0) w k) w fun t46 w =>
 Pick t42 t46 (.bool false) w fun t47 w =>
 Gd t47 true (fun k => Fa P 42 t1 7 w k) w fun t49 w =>
 Gd t47 true (fun k => Ld P 3 t49 w k) w fun t50 w =>
 Gd t47 true (fun k => Fa P 42 t1 8 w k) w fun t51 w =>
 Gd t47 true (fun k => Ld P 3 t51 w k) w fun t52 w =>
 Gd t47 true (fun k => Bn P .leq 3 false t50 t52 w k) w fun t53 w =>
 Pick t47 t53 (.bool false) w fun t54 w =>
 Gd t54 true (fun k => Fa P 42 t1 8 w k) w fun t56 w =>
 Gd t54 true (fun k => Ld P 3 t56 w k) w fun t57 w =>
 Gd t54 true (fun k => Bn P .leq 3 true t57 (.int .i64 4398046511104) w k) w fun t58 w =>
 Pick t54 t58 (.bool false) w fun t59 w =>
 Gd t59 true (fun k => Fa P 42 t1 9 w k) w fun t61 w =>
 Gd t59 true (fun k => Ld P 3 t61 w k) w fun t62 w =>
 Gd t59 true (fun k => Cl P 91 #[t62, (.int .i64 0), (.int .i64 24000)] w (Pk R) k) w fun t63 w =>
 Pick t59 t63 (.bool false) w fun t64 w =>
 R (.returned t64) w)
theorem e_ref14_ValidFact (h : s_ref14_ValidFact Tryz.prog t0 w R) : Calls Tryz.prog 52 #[t0] w R :=
 en1 (.sq .z (.sq (.sq .z (.cd (.sq .z .z) .z)) (.sq .z .z))) [t0] Tryz.func52 (by kernel_rfl) (by kernel_rfl) h
theorem n_ref14_ValidFact : Enters Tryz.prog 52 := enters_of Tryz.func52 (by kernel_rfl) rfl
def s_ref37_of (P : Program) (t0 : Value) (w : World) (R : Ending → World → Prop) : Prop :=
 Bx P 42 t0 w fun t1 w =>
 Fa P 42 t1 0 w fun t3 w =>
 Ld P 3 t3 w fun t4 w =>
 Cl P 92 #[t4] w (Pk R) fun t5 w =>
 R (.returned t5) w
theorem e_ref37_of (h : s_ref37_of Tryz.prog t0 w R) : Calls Tryz.prog 53 #[t0] w R :=
 en1 (.sq .z (.sq .z .z)) [t0] Tryz.func53 (by kernel_rfl) (by kernel_rfl) h
theorem n_ref37_of : Enters Tryz.prog 53 := enters_of Tryz.func53 (by kernel_rfl) rfl
def s_ref37_has (P : Program) (t0 t1 : Value) (w : World) (R : Ending → World → Prop) : Prop :=
 Bx P 42 t1 w fun t3 w =>
 Lp1 (.int .i64 0) w (fun t5 w k1 =>
 Bt P .len #[60] 3 #[t0] w fun t8 w =>
 Bn P .lss 3 false t5 t8 w fun t9 w =>
 If t9
 (dIx P 60 t0 t5 w.drew fun t14 =>
 dFl P 62 t14 0 w.drew fun t15 =>
 dFl P 42 t15 0 w.drew fun t16 =>
 dL P 3 t16 w.drew fun t17 =>
 dFl P 42 t3 0 w.drew fun t18 =>
 dL P 3 t18 w.drew fun t19 =>
 Dv P true (bn .eql 3 false t17 t19) w.drew fun t20 =>
 GdP t20 true (fun k => k t0) fun t22 =>
 GdP t20 true (fun k => k t5) fun t23 =>
 GdP t20 true (fun k => dIx P 60 t22 t23 w.drew k) fun t24 =>
 GdP t20 true (fun k => dFl P 62 t24 0 w.drew k) fun t25 =>
 GdP t20 true (fun k => dFl P 42 t25 1 w.drew k) fun t26 =>
 GdP t20 true (fun k => dL P 3 t26 w.drew k) fun t27 =>
 GdP t20 true (fun k => dFl P 42 t3 1 w.drew k) fun t28 =>
 GdP t20 true (fun k => dL P 3 t28 w.drew k) fun t29 =>
 GdP t20 true (fun k => Dv P true (bn .eql 3 false t27 t29) w.drew k) fun t30 =>
 PickP t20 t30 (.bool false) fun t31 =>
 If t31
 (R (.returned (.bool true)) w.drew)
 (Bn P .add 3 true t5 (.int .i64 1) w.drew fun t11 w =>
 k1 t11 w))
 (R (.returned (.bool false)) w))
theorem e_ref37_has (h : s_ref37_has Tryz.prog t0 t1 w R) : Calls Tryz.prog 54 #[t0, t1] w R :=
 en1 (.sq .z (.sq (.sq .z (.bk (.lp [5] [4, 6, 7, 8, 9, 10, 11, 12, 13, 14, 15, 16, 17, 18, 19, 20, 21, 22, 23, 24, 25, 26, 27, 28, 29, 30, 31] (.sq (.sq .z (.cd .z .z)) (.sq (.bk (.sq (.dr (.pur true 0 (.pur true 1 (.pur true 2 (.pur true 3 (.pur true 4 (.pur false 5 (.pur true 6 (.pur false 7 (.pur true 8 (.pur true 9 (.pur true 10 (.pur true 11 (.pur true 12 (.pur true 13 (.pur true 14 (.pur false 15 (.pur true 16 (.pur false 17 (.pur true 18 (.pur true 19 .done))))))))))))))))))))) (.cd (.sq .z .z) .z))) .z))))) (.sq .z .z))) [t0, t1] Tryz.func54 (by kernel_rfl) (by kernel_rfl) h
theorem n_ref37_has : Enters Tryz.prog 54 := enters_of Tryz.func54 (by kernel_rfl) rfl
def s_ref37_reading (P : Program) (t0 t1 : Value) (w : World) (R : Ending → World → Prop) : Prop :=
 Bx P 30 t0 w fun t2 w =>
 Bx P 44 t1 w fun t3 w =>
 Al P 30 w fun t4 w =>
 Ld P 30 t2 w fun t14 w =>
 Fa P 44 t3 5 w fun t15 w =>
 Ld P 3 t15 w fun t16 w =>
 Cl P 93 #[t14, t16] w (Pk R) fun t17 w =>
 Fa P 44 t3 0 w fun t18 w =>
 Ld P 3 t18 w fun t19 w =>
 Bn P .eql 3 true t19 (.int .i64 7) w fun t20 w =>
 If t20
 (Bn P .geq 3 true t17 (.int .i64 0) w fun t22 w =>
 Gd t22 false (fun k => Fa P 44 t3 5 w k) w fun t24 w =>
 Gd t22 false (fun k => Ld P 3 t24 w k) w fun t25 w =>
 Gd t22 false (fun k => Cl P 48 #[t25, (.int .i64 0), (.int .i64 99)] w (Pk R) k) w fun t26 w =>
 Gd t22 false (fun k => Un P .not t26 w k) w fun t27 w =>
 Pick t22 (.bool true) t27 w fun t28 w =>
 Gd t28 false (fun k => Fa P 30 t2 4 w k) w fun t30 w =>
 Gd t28 false (fun k => Ld P 28 t30 w k) w fun t31 w =>
 Gd t28 false (fun k => Bt P .len #[28] 3 #[t31] w k) w fun t32 w =>
 Gd t28 false (fun k => Bn P .geq 3 true t32 (.int .i64 4) w k) w fun t33 w =>
 Pick t28 (.bool true) t33 w fun t34 w =>
 If t34
 (Ld P 30 t2 w fun t35 w =>
 Sto P 30 t4 t35 w fun w =>
 Rc P 30 t4 w fun r0 =>
 R (.returned (.tuple #[r0, (.slice none 0 0), (.bool false)])) w)
 (Lp1 (.int .i64 0) w (fun t8 w k1 =>
 dFl P 30 t2 4 w.drew fun t37 =>
 dL P 28 t37 w.drew fun t38 =>
 Dv P true (bV .len #[28] 3 #[t38]) w.drew fun t39 =>
 Dv P true (bn .lss 3 false t8 t39) w.drew fun t40 =>
 GdP t40 true (fun k => dFl P 30 t2 4 w.drew k) fun t42 =>
 GdP t40 true (fun k => dL P 28 t42 w.drew k) fun t43 =>
 GdP t40 true (fun k => k t8) fun t44 =>
 GdP t40 true (fun k => dIx P 28 t43 t44 w.drew k) fun t45 =>
 GdP t40 true (fun k => dFl P 48 t45 0 w.drew k) fun t46 =>
 GdP t40 true (fun k => dL P 3 t46 w.drew k) fun t47 =>
 GdP t40 true (fun k => dFl P 44 t3 5 w.drew k) fun t48 =>
 GdP t40 true (fun k => dL P 3 t48 w.drew k) fun t49 =>
 GdP t40 true (fun k => Dv P true (bn .lss 3 false t47 t49) w.drew k) fun t50 =>
 PickP t40 t50 (.bool false) fun t51 =>
 If t51
 (Bn P .add 3 true t8 (.int .i64 1) w.drew fun t53 w =>
 k1 t53 w)
 (Jn1 (fun k2 =>
 Dv P true (Instr.fieldAt 44 t3 5) w.drew.drew fun t54 =>
 Dv P false (Instr.loadAt 3 t54) w.drew.drew fun t55 =>
 Dv P true (Instr.fieldAt 30 t2 2) w.drew.drew fun t56 =>
 Dv P false (Instr.loadAt 3 t56) w.drew.drew fun t57 =>
 Dv P true (Instr.fieldAt 30 t2 1) w.drew.drew fun t59 =>
 Dv P false (Instr.loadAt 25 t59) w.drew.drew fun t60 =>
 (Bs P 25 0 [] w.drew.drew fun t58 w =>
 kLd P 3 t54 t55 w <|
 kLd P 3 t56 t57 w <|
 kLd P 25 t59 t60 w <|
 (Bt P .append #[25, 25] 25 #[t58, t60] w fun t61 w =>
 kLd P 3 t54 t55 w <|
 kLd P 3 t56 t57 w <|
 Dv P true (Instr.build 48 #[(0, t55), (1, t57), (2, t61)]) w fun t62 =>
 Al P 48 w fun t9 w =>
 kLd P 3 t54 t55 w <|
 kLd P 3 t56 t57 w <|
 kLd P 25 t59 t60 w <|
 Sto P 48 t9 t62 w fun w =>
 k2 t9 w) ∧
 (Al P 48 w fun t9x1 w =>
 kLd P 3 t54 t55 w <|
 kLd P 3 t56 t57 w <|
 kLd P 25 t59 t60 w <|
 Bt P .append #[25, 25] 25 #[t58, t60] w fun t61x1 w =>
 kLd P 3 t54 t55 w <|
 kLd P 3 t56 t57 w <|
 Dv P true (Instr.build 48 #[(0, t55), (1, t57), (2, t61x1)]) w fun t62x1 =>
 Sto P 48 t9x1 t62x1 w fun w =>
 k2 t9x1 w)) ∧
 (Al P 48 w.drew.drew fun t9x2 w =>
 kLd P 3 t54 t55 w <|
 kLd P 3 t56 t57 w <|
 kLd P 25 t59 t60 w <|
 Bs P 25 0 [] w fun t58x1 w =>
 kLd P 3 t54 t55 w <|
 kLd P 3 t56 t57 w <|
 kLd P 25 t59 t60 w <|
 Bt P .append #[25, 25] 25 #[t58x1, t60] w fun t61x2 w =>
 kLd P 3 t54 t55 w <|
 kLd P 3 t56 t57 w <|
 Dv P true (Instr.build 48 #[(0, t55), (1, t57), (2, t61x2)]) w fun t62x2 =>
 Sto P 48 t9x2 t62x2 w fun w =>
 k2 t9x2 w))
 (fun t9x3 w =>
 Bs P 28 0 [] w fun t63 w =>
 Fa P 30 t2 4 w fun t64 w =>
 Ld P 28 t64 w fun t65 w =>
 Sc P 28 t65 none (some t8) none w fun t67 w =>
 Bt P .append #[28, 28] 28 #[t63, t67] w fun t68 w =>
 Ld P 48 t9x3 w fun t70 w =>
 Bs P 28 1 [(0, t70)] w fun t71 w =>
 Bt P .append #[28, 28] 28 #[t68, t71] w fun t72 w =>
 Fa P 30 t2 4 w fun t74 w =>
 Ld P 28 t74 w fun t75 w =>
 Sc P 28 t75 (some t8) none none w fun t77 w =>
 Bt P .append #[28, 28] 28 #[t72, t77] w fun t78 w =>
 Fa P 30 t2 4 w fun t79 w =>
 Sto P 28 t79 t78 w fun w =>
 Ld P 30 t2 w fun t80 w =>
 Sto P 30 t4 t80 w fun w =>
 Rc P 30 t4 w fun r0 =>
 R (.returned (.tuple #[r0, (.slice none 0 0), (.bool true)])) w)))))
 (Bn P .lss 3 true t17 (.int .i64 0) w fun t82 w =>
 If t82
 (Ld P 30 t2 w fun t83 w =>
 Sto P 30 t4 t83 w fun w =>
 Rc P 30 t4 w fun r0 =>
 R (.returned (.tuple #[r0, (.slice none 0 0), (.bool false)])) w)
 (Fa P 30 t2 4 w fun t84 w =>
 Ld P 28 t84 w fun t85 w =>
 Ia P 28 t85 t17 w fun t87 w =>
 Ld P 48 t87 w fun t88 w =>
 Al P 48 w fun t11 w =>
 Sto P 48 t11 t88 w fun w =>
 Lp1 (.int .i64 0) w (fun t12 w k3 =>
 Fa P 30 t2 0 w fun t90 w =>
 Ld P 24 t90 w fun t91 w =>
 Fa P 48 t11 3 w fun t92 w =>
 Ld P 3 t92 w fun t93 w =>
 Ia P 24 t91 t93 w fun t94 w =>
 Ld P 60 t94 w fun t95 w =>
 Bt P .len #[60] 3 #[t95] w fun t96 w =>
 Bn P .lss 3 false t12 t96 w fun t97 w =>
 If t97
 (Fa P 30 t2 0 w fun t100 w =>
 Ld P 24 t100 w fun t101 w =>
 Fa P 48 t11 3 w fun t102 w =>
 Ld P 3 t102 w fun t103 w =>
 Ia P 24 t101 t103 w fun t104 w =>
 Ld P 60 t104 w fun t105 w =>
 Ia P 60 t105 t12 w fun t107 w =>
 Ld P 62 t107 w fun t108 w =>
 Al P 62 w fun t13 w =>
 Sto P 62 t13 t108 w fun w =>
 dFl P 62 t13 1 w.drew fun t109 =>
 dL P 3 t109 w.drew fun t110 =>
 dFl P 48 t11 1 w.drew fun t111 =>
 dL P 3 t111 w.drew fun t112 =>
 Dv P true (bn .lss 3 false t110 t112) w.drew fun t113 =>
 GdP t113 true (fun k => dFl P 48 t11 2 w.drew k) fun t115 =>
 GdP t113 true (fun k => dL P 25 t115 w.drew k) fun t116 =>
 GdP t113 true (fun k => dFl P 62 t13 0 w.drew k) fun t117 =>
 GdP t113 true (fun k => dL P 42 t117 w.drew k) fun t118 =>
 GdP t113 true (fun k => dFl P 48 t11 3 w.drew k) fun t122 =>
 GdP t113 true (fun k => dL P 3 t122 w.drew k) fun t123 =>
 Gd t113 true (fun k => Cl P 53 #[t118] w.drew (Pk R) k) w.drew fun t119 w =>
 Kg t113 true P (Instr.loadAt 25 t115) t116 w <|
 Kg t113 true P (Instr.loadAt 3 t122) t123 w <|
 GdP t113 true (fun k => dIx P 25 t116 t119 w k) fun t120 =>
 GdP t113 true (fun k => dL P 3 t120 w k) fun t121 =>
 GdP t113 true (fun k => Dv P true (bn .eql 3 false t121 t123) w k) fun t124 =>
 PickP t113 t124 (.bool false) fun t125 =>
 If t125
 (Fa P 48 t11 4 w fun t126 w =>
 Ld P 35 t126 w fun t127 w =>
 Fa P 62 t13 0 w fun t128 w =>
 Ld P 42 t128 w fun t129 w =>
 Cl P 94 #[t127, t129] w (Pk R) fun t130 w =>
 Fa P 48 t11 4 w fun t131 w =>
 Sto P 35 t131 t130 w fun w =>
 Bn P .add 3 true t12 (.int .i64 1) w fun t99 w =>
 k3 t99 w)
 (Bn P .add 3 true t12 (.int .i64 1) w fun t99x1 w =>
 k3 t99x1 w))
 (Fa P 48 t11 3 w fun t132 w =>
 Ld P 3 t132 w fun t133 w =>
 Bn P .add 3 true t133 (.int .i64 1) w fun t134 w =>
 Fa P 48 t11 3 w fun t135 w =>
 Sto P 3 t135 t134 w fun w =>
 Fa P 30 t2 4 w fun t136 w =>
 Ld P 28 t136 w fun t137 w =>
 Ld P 48 t11 w fun t139 w =>
 Ia P 28 t137 t17 w fun t140 w =>
 Sto P 48 t140 t139 w fun w =>
 Fa P 48 t11 3 w fun t141 w =>
 Ld P 3 t141 w fun t142 w =>
 Fa P 30 t2 0 w fun t143 w =>
 Ld P 24 t143 w fun t144 w =>
 Bt P .len #[24] 3 #[t144] w fun t145 w =>
 Bn P .lss 3 false t142 t145 w fun t146 w =>
 If t146
 (Ld P 30 t2 w fun t147 w =>
 Sto P 30 t4 t147 w fun w =>
 Rc P 30 t4 w fun r0 =>
 R (.returned (.tuple #[r0, (.slice none 0 0), (.bool true)])) w)
 (dFl P 30 t2 4 w.drew fun t149 =>
 dL P 28 t149 w.drew fun t150 =>
 Dv P true (Instr.sliceAt 28 t150 none (some t17) none) w.drew fun t152 =>
 dFl P 30 t2 4 w.drew fun t154 =>
 dL P 28 t154 w.drew fun t155 =>
 Dv P true (bn .add 3 true t17 (.int .i64 1)) w.drew fun t157 =>
 Dv P true (Instr.sliceAt 28 t155 (some t157) none none) w.drew fun t158 =>
 Bs P 28 0 [] w.drew fun t148 w =>
 kLd P 28 t149 t150 w <|
 kLd P 28 t154 t155 w <|
 Bt P .append #[28, 28] 28 #[t148, t152] w fun t153 w =>
 kLd P 28 t154 t155 w <|
 Bt P .append #[28, 28] 28 #[t153, t158] w fun t159 w =>
 dFl P 30 t2 4 w fun t160 =>
 Sto P 28 t160 t159 w fun w =>
 dL P 30 t2 w.drew fun t161 =>
 dFl P 48 t11 4 w.drew fun t162 =>
 dL P 35 t162 w.drew fun t163 =>
 Sto P 30 t4 t161 w.drew fun w =>
 kLd P 35 t162 t163 w <|
 Rc P 30 t4 w fun r0 =>
 R (.returned (.tuple #[r0, t163, (.bool true)])) w)))))
theorem e_ref37_reading (h : s_ref37_reading Tryz.prog t0 t1 w R) : Calls Tryz.prog 55 #[t0, t1] w R :=
 en1 (.sq .z (.sq .z (.sq (.sq .z (.cd (.sq (.sq .z (.cd (.sq .z .z) .z)) (.sq .z (.sq (.bk (.lp [8] [36, 37, 38, 39, 40, 41, 42, 43, 44, 45, 46, 47, 48, 49, 50, 51, 52, 53] (.sq (.sq (.dr (.pur true 0 (.pur true 1 (.pur false 2 (.pur true 3 (.pur true 4 (.pur true 5 (.pur true 6 (.pur false 7 (.pur true 8 (.pur true 9 (.pur true 10 (.pur false 11 (.pur true 12 (.pur false 13 (.pur true 14 (.pur true 15 .done))))))))))))))))) (.cd .z .z)) (.bk .z)))) (.jn [9] [54, 55, 56, 57, 58, 59, 60, 61, 62] (.dr (.pur true 0 (.pur false 1 (.pur true 2 (.pur false 3 (.pur true 5 (.pur false 6 (.alt (.eff 4 [1, 3, 6] (.alt (.eff 7 [1, 3] (.pur true 8 (.eff 9 [1, 3, 6] (.eff 10 [] .done)))) (.eff 9 [1, 3, 6] (.eff 7 [1, 3] (.pur true 8 (.eff 10 [] .done)))))) (.eff 9 [1, 3, 6] (.eff 4 [1, 3, 6] (.eff 7 [1, 3] (.pur true 8 (.eff 10 [] .done))))))))))))) (.sq .z (.sq .z (.sq .z (.sq .z .z)))))))) .z)) (.sq (.sq .z (.cd (.sq .z .z) .z)) (.sq .z (.sq (.sq .z (.bk (.lp [12] [13, 89, 90, 91, 92, 93, 94, 95, 96, 97, 98, 99, 100, 101, 102, 103, 104, 105, 106, 107, 108, 109, 110, 111, 112, 113, 114, 115, 116, 117, 118, 119, 120, 121, 122, 123, 124, 125, 126, 127, 128, 129, 130, 131] (.sq (.sq .z (.cd .z .z)) (.sq (.bk (.sq .z (.sq (.dr (.pur true 0 (.pur false 1 (.pur true 2 (.pur false 3 (.pur true 4 (.pur true 5 (.pur true 6 (.pur false 7 (.pur true 8 (.pur false 9 (.pur true 13 (.pur false 14 (.eff 10 [7, 14] (.pur true 11 (.pur false 12 (.pur true 15 (.pur true 16 .done)))))))))))))))))) (.cd .z .z)))) .z))))) (.sq .z (.sq .z (.sq (.sq .z (.cd (.sq .z .z) .z)) (.sq (.dr (.pur true 1 (.pur false 2 (.pur true 3 (.pur true 4 (.pur true 6 (.pur false 7 (.pur true 8 (.pur true 9 (.pur true 10 (.eff 0 [2, 7] (.eff 5 [7] (.eff 11 [] (.pur true 12 (.eff 13 [] .done))))))))))))))) (.sq (.dr (.pur false 0 (.pur true 1 (.pur false 2 (.eff 3 [2] (.pur true 4 (.pur true 5 .done))))))) .z))))))))))) [t0, t1] Tryz.func55 (by kernel_rfl) (by kernel_rfl) h
theorem n_ref37_reading : Enters Tryz.prog 55 := enters_of Tryz.func55 (by kernel_rfl) rfl
def s_ref37_moving (P : Program) (t0 t1 : Value) (w : World) (R : Ending → World → Prop) : Prop :=
 Bx P 30 t0 w fun t2 w =>
 Bx P 44 t1 w fun t3 w =>
 Al P 30 w fun t4 w =>
 Fa P 30 t2 3 w fun t12 w =>
 Ld P 27 t12 w fun t13 w =>
 Al P 27 w fun t6 w =>
 Sto P 27 t6 t13 w fun w =>
 Fa P 44 t3 0 w fun t14 w =>
 Ld P 3 t14 w fun t15 w =>
 Bn P .eql 3 true t15 (.int .i64 2) w fun t17 w =>
 If t17
 (dFl P 27 t6 0 w.drew fun t18 =>
 dL P 3 t18 w.drew fun t19 =>
 Dv P true (bn .neq 3 true t19 (.int .i64 0)) w.drew fun t20 =>
 GdP t20 false (fun k => dFl P 44 t3 2 w.drew k) fun t22 =>
 GdP t20 false (fun k => dL P 3 t22 w.drew k) fun t23 =>
 Gd t20 false (fun k => Cl P 48 #[t23, (.int .i64 0), (.int .i64 7)] w.drew (Pk R) k) w.drew fun t24 w =>
 GdP t20 false (fun k => Dv P true (Op.unary .not t24) w k) fun t25 =>
 PickP t20 (.bool true) t25 fun t26 =>
 GdP t26 false (fun k => dFl P 44 t3 3 w k) fun t28 =>
 GdP t26 false (fun k => dL P 3 t28 w k) fun t29 =>
 GdP t26 false (fun k => dFl P 30 t2 0 w k) fun t30 =>
 GdP t26 false (fun k => dL P 24 t30 w k) fun t31 =>
 GdP t26 false (fun k => Dv P true (bV .len #[24] 3 #[t31]) w k) fun t32 =>
 GdP t26 false (fun k => Dv P true (bn .sub 3 true t32 (.int .i64 1)) w k) fun t33 =>
 Gd t26 false (fun k => Cl P 48 #[t29, (.int .i64 0), t33] w (Pk R) k) w fun t34 w =>
 GdP t26 false (fun k => Dv P true (Op.unary .not t34) w k) fun t35 =>
 PickP t26 (.bool true) t35 fun t36 =>
 GdP t36 false (fun k => dFl P 30 t2 1 w k) fun t38 =>
 GdP t36 false (fun k => dL P 25 t38 w k) fun t39 =>
 GdP t36 false (fun k => dFl P 44 t3 2 w k) fun t40 =>
 GdP t36 false (fun k => dL P 3 t40 w k) fun t41 =>
 GdP t36 false (fun k => dIx P 25 t39 t41 w k) fun t42 =>
 GdP t36 false (fun k => dL P 3 t42 w k) fun t43 =>
 GdP t36 false (fun k => dFl P 44 t3 3 w k) fun t44 =>
 GdP t36 false (fun k => dL P 3 t44 w k) fun t45 =>
 GdP t36 false (fun k => Dv P true (bn .eql 3 false t43 t45) w k) fun t46 =>
 PickP t36 (.bool true) t46 fun t47 =>
 If t47
 (Ld P 30 t2 w fun t48 w =>
 Sto P 30 t4 t48 w fun w =>
 Rc P 30 t4 w fun r0 =>
 R (.returned (.tuple #[r0, (.bool false)])) w)
 (dFl P 44 t3 2 w.drew fun t49 =>
 dL P 3 t49 w.drew fun t50 =>
 dFl P 30 t2 1 w.drew fun t51 =>
 dL P 25 t51 w.drew fun t52 =>
 dFl P 44 t3 2 w.drew fun t53 =>
 dL P 3 t53 w.drew fun t54 =>
 dIx P 25 t52 t54 w.drew fun t55 =>
 dL P 3 t55 w.drew fun t56 =>
 dFl P 44 t3 3 w.drew fun t57 =>
 dL P 3 t57 w.drew fun t58 =>
 Dv P true (Instr.build 27 #[(0, (.int .i64 1)), (1, t50), (2, t56), (3, t58), (4, (.int .i64 (-1)))]) w.drew fun t59 =>
 dFl P 30 t2 3 w.drew fun t60 =>
 Sto P 27 t60 t59 w.drew fun w =>
 Ld P 30 t2 w fun t61 w =>
 Sto P 30 t4 t61 w fun w =>
 Rc P 30 t4 w fun r0 =>
 R (.returned (.tuple #[r0, (.bool true)])) w))
 (Bn P .eql 3 true t15 (.int .i64 3) w fun t63 w =>
 If t63
 (Fa P 27 t6 0 w fun t64 w =>
 Ld P 3 t64 w fun t65 w =>
 Bn P .neq 3 true t65 (.int .i64 1) w fun t66 w =>
 Gd t66 false (fun k => Fa P 44 t3 4 w k) w fun t68 w =>
 Gd t66 false (fun k => Ld P 3 t68 w k) w fun t69 w =>
 Gd t66 false (fun k => Bn P .lss 3 true t69 (.int .i64 1) w k) w fun t70 w =>
 Pick t66 (.bool true) t70 w fun t71 w =>
 If t71
 (Ld P 30 t2 w fun t72 w =>
 Sto P 30 t4 t72 w fun w =>
 Rc P 30 t4 w fun r0 =>
 R (.returned (.tuple #[r0, (.bool false)])) w)
 (dFl P 30 t2 0 w.drew fun t73 =>
 dL P 24 t73 w.drew fun t74 =>
 dFl P 27 t6 2 w.drew fun t75 =>
 dL P 3 t75 w.drew fun t76 =>
 dIx P 24 t74 t76 w.drew fun t77 =>
 dL P 60 t77 w.drew fun t78 =>
 dFl P 27 t6 1 w.drew fun t79 =>
 dL P 3 t79 w.drew fun t80 =>
 Cl P 95 #[t78, t80] w.drew (Pk R) fun t81 w =>
 Lp2 (.int .i64 0) (.int .i64 0) w (fun t8 t9 w k1 =>
 Bt P .len #[60] 3 #[t81] w fun t84 w =>
 Bn P .lss 3 false t9 t84 w fun t85 w =>
 Gd t85 true (fun k => k t8 w) w fun t87 w =>
 Gd t85 true (fun k => Fa P 44 t3 4 w k) w fun t88 w =>
 Gd t85 true (fun k => Ld P 3 t88 w k) w fun t89 w =>
 Gd t85 true (fun k => Bn P .lss 3 false t87 t89 w k) w fun t90 w =>
 Pick t85 t90 (.bool false) w fun t91 w =>
 If t91
 (dIx P 60 t81 t9 w.drew fun t96 =>
 dFl P 62 t96 1 w.drew fun t97 =>
 dL P 3 t97 w.drew fun t98 =>
 dFl P 27 t6 4 w.drew fun t99 =>
 dL P 3 t99 w.drew fun t100 =>
 Dv P true (bn .gtr 3 false t98 t100) w.drew fun t101 =>
 If t101
 (Dv P true (Instr.fieldAt 30 t2 0) w.drew.drew fun t102 =>
 Dv P false (Instr.loadAt 24 t102) w.drew.drew fun t103 =>
 Dv P true (Instr.fieldAt 27 t6 3) w.drew.drew fun t104 =>
 Dv P false (Instr.loadAt 3 t104) w.drew.drew fun t105 =>
 Dv P true (Instr.fieldAt 30 t2 0) w.drew.drew fun t106 =>
 Dv P false (Instr.loadAt 24 t106) w.drew.drew fun t107 =>
 Dv P true (Instr.fieldAt 27 t6 3) w.drew.drew fun t108 =>
 Dv P false (Instr.loadAt 3 t108) w.drew.drew fun t109 =>
 Dv P true (Instr.indexAt 24 t107 t109) w.drew.drew fun t110 =>
 Dv P false (Instr.loadAt 60 t110) w.drew.drew fun t111 =>
 Dv P true (Instr.indexAt 60 t81 t9) w.drew.drew fun t114 =>
 Dv P false (Instr.loadAt 62 t114) w.drew.drew fun t115 =>
 Cl P 96 #[t111, t115] w.drew.drew (Pk R) fun t116 w =>
 kLd P 24 t102 t103 w <|
 kLd P 3 t104 t105 w <|
 dIx P 24 t103 t105 w fun t117 =>
 Sto P 60 t117 t116 w fun w =>
 Ia P 60 t81 t9 w fun t120 w =>
 Fa P 62 t120 1 w fun t121 w =>
 Ld P 3 t121 w fun t122 w =>
 Fa P 30 t2 3 w fun t123 w =>
 Fa P 27 t123 4 w fun t124 w =>
 Sto P 3 t124 t122 w fun w =>
 Bn P .add 3 true t8 (.int .i64 1) w fun t126 w =>
 Bn P .add 3 true t9 (.int .i64 1) w fun t93 w =>
 k1 t126 t93 w)
 (Bn P .add 3 true t9 (.int .i64 1) w.drew fun t93x1 w =>
 k1 t8 t93x1 w))
 (Ld P 30 t2 w fun t127 w =>
 Sto P 30 t4 t127 w fun w =>
 Rc P 30 t4 w fun r0 =>
 R (.returned (.tuple #[r0, (.bool true)])) w))))
 (Bn P .eql 3 true t15 (.int .i64 4) w fun t129 w =>
 If t129
 (Fa P 27 t6 0 w fun t130 w =>
 Ld P 3 t130 w fun t131 w =>
 Bn P .neq 3 true t131 (.int .i64 1) w fun t132 w =>
 If t132
 (Ld P 30 t2 w fun t133 w =>
 Sto P 30 t4 t133 w fun w =>
 Rc P 30 t4 w fun r0 =>
 R (.returned (.tuple #[r0, (.bool false)])) w)
 (dFl P 30 t2 0 w.drew fun t134 =>
 dL P 24 t134 w.drew fun t135 =>
 dFl P 27 t6 2 w.drew fun t136 =>
 dL P 3 t136 w.drew fun t137 =>
 dIx P 24 t135 t137 w.drew fun t138 =>
 dL P 60 t138 w.drew fun t139 =>
 dFl P 27 t6 1 w.drew fun t140 =>
 dL P 3 t140 w.drew fun t141 =>
 Cl P 95 #[t139, t141] w.drew (Pk R) fun t142 w =>
 Dv P true (bV .len #[60] 3 #[t142]) w.drew fun t144 =>
 Dv P true (bn .gtr 3 true t144 (.int .i64 0)) w.drew fun t145 =>
 GdP t145 true (fun k => k t142) fun t147 =>
 GdP t145 true (fun k => k t142) fun t148 =>
 GdP t145 true (fun k => Dv P true (bV .len #[60] 3 #[t148]) w.drew k) fun t149 =>
 GdP t145 true (fun k => Dv P true (bn .sub 3 true t149 (.int .i64 1)) w.drew k) fun t150 =>
 GdP t145 true (fun k => dIx P 60 t147 t150 w.drew k) fun t151 =>
 GdP t145 true (fun k => dFl P 62 t151 1 w.drew k) fun t152 =>
 GdP t145 true (fun k => dL P 3 t152 w.drew k) fun t153 =>
 GdP t145 true (fun k => dFl P 27 t6 4 w.drew k) fun t154 =>
 GdP t145 true (fun k => dL P 3 t154 w.drew k) fun t155 =>
 GdP t145 true (fun k => Dv P true (bn .gtr 3 false t153 t155) w.drew k) fun t156 =>
 PickP t145 t156 (.bool false) fun t157 =>
 If t157
 (Ld P 30 t2 w.drew fun t158 w =>
 Sto P 30 t4 t158 w fun w =>
 Rc P 30 t4 w fun r0 =>
 R (.returned (.tuple #[r0, (.bool false)])) w)
 (Fa P 30 t2 1 w.drew fun t159 w =>
 Ld P 25 t159 w fun t160 w =>
 Fa P 27 t6 1 w fun t161 w =>
 Ld P 3 t161 w fun t162 w =>
 Fa P 27 t6 3 w fun t163 w =>
 Ld P 3 t163 w fun t164 w =>
 Ia P 25 t160 t162 w fun t165 w =>
 Sto P 3 t165 t164 w fun w =>
 Fa P 30 t2 3 w fun t166 w =>
 Fa P 27 t166 0 w fun t167 w =>
 Sto P 3 t167 (.int .i64 2) w fun w =>
 Fa P 30 t2 3 w fun t168 w =>
 Fa P 27 t168 4 w fun t169 w =>
 Sto P 3 t169 (.int .i64 0) w fun w =>
 Bt P .len #[60] 3 #[t142] w fun t171 w =>
 Bn P .eql 3 true t171 (.int .i64 0) w fun t172 w =>
 If t172
 (Bd P 27 [] w fun t173 w =>
 Fa P 30 t2 3 w fun t174 w =>
 Sto P 27 t174 t173 w fun w =>
 Ld P 30 t2 w fun t175 w =>
 Sto P 30 t4 t175 w fun w =>
 Rc P 30 t4 w fun r0 =>
 R (.returned (.tuple #[r0, (.bool true)])) w)
 (Ld P 30 t2 w fun t175x1 w =>
 Sto P 30 t4 t175x1 w fun w =>
 Rc P 30 t4 w fun r0 =>
 R (.returned (.tuple #[r0, (.bool true)])) w))))
 (Bn P .eql 3 true t15 (.int .i64 5) w fun t177 w =>
 If t177
 (Fa P 27 t6 0 w fun t178 w =>
 Ld P 3 t178 w fun t179 w =>
 Bn P .neq 3 true t179 (.int .i64 2) w fun t180 w =>
 Gd t180 false (fun k => Fa P 44 t3 4 w k) w fun t182 w =>
 Gd t180 false (fun k => Ld P 3 t182 w k) w fun t183 w =>
 Gd t180 false (fun k => Bn P .lss 3 true t183 (.int .i64 1) w k) w fun t184 w =>
 Pick t180 (.bool true) t184 w fun t185 w =>
 If t185
 (Ld P 30 t2 w fun t186 w =>
 Sto P 30 t4 t186 w fun w =>
 Rc P 30 t4 w fun r0 =>
 R (.returned (.tuple #[r0, (.bool false)])) w)
 (Lp1 (.int .i64 0) w (fun t11 w k2 =>
 Fa P 30 t2 4 w fun t188 w =>
 Ld P 28 t188 w fun t189 w =>
 Bt P .len #[28] 3 #[t189] w fun t190 w =>
 Bn P .lss 3 false t11 t190 w fun t191 w =>
 If t191
 (dFl P 30 t2 4 w.drew fun t194 =>
 dL P 28 t194 w.drew fun t195 =>
 dIx P 28 t195 t11 w.drew fun t197 =>
 dFl P 48 t197 2 w.drew fun t198 =>
 dL P 25 t198 w.drew fun t199 =>
 dFl P 27 t6 1 w.drew fun t200 =>
 dL P 3 t200 w.drew fun t201 =>
 dIx P 25 t199 t201 w.drew fun t202 =>
 dL P 3 t202 w.drew fun t203 =>
 dFl P 27 t6 2 w.drew fun t204 =>
 dL P 3 t204 w.drew fun t205 =>
 Dv P true (bn .eql 3 false t203 t205) w.drew fun t206 =>
 GdP t206 true (fun k => dFl P 30 t2 4 w.drew k) fun t208 =>
 GdP t206 true (fun k => dL P 28 t208 w.drew k) fun t209 =>
 GdP t206 true (fun k => k t11) fun t210 =>
 GdP t206 true (fun k => dIx P 28 t209 t210 w.drew k) fun t211 =>
 GdP t206 true (fun k => dFl P 48 t211 3 w.drew k) fun t212 =>
 GdP t206 true (fun k => dL P 3 t212 w.drew k) fun t213 =>
 GdP t206 true (fun k => dFl P 27 t6 2 w.drew k) fun t214 =>
 GdP t206 true (fun k => dL P 3 t214 w.drew k) fun t215 =>
 GdP t206 true (fun k => Dv P true (bn .leq 3 false t213 t215) w.drew k) fun t216 =>
 PickP t206 t216 (.bool false) fun t217 =>
 If t217
 (Ld P 30 t2 w.drew fun t218 w =>
 Sto P 30 t4 t218 w fun w =>
 Rc P 30 t4 w fun r0 =>
 R (.returned (.tuple #[r0, (.bool false)])) w)
 (Bn P .add 3 true t11 (.int .i64 1) w.drew fun t193 w =>
 k2 t193 w))
 (dFl P 30 t2 0 w.drew fun t219 =>
 dL P 24 t219 w.drew fun t220 =>
 dFl P 27 t6 2 w.drew fun t221 =>
 dL P 3 t221 w.drew fun t222 =>
 dFl P 30 t2 0 w.drew fun t223 =>
 dL P 24 t223 w.drew fun t224 =>
 dFl P 27 t6 2 w.drew fun t225 =>
 dL P 3 t225 w.drew fun t226 =>
 dIx P 24 t224 t226 w.drew fun t227 =>
 dL P 60 t227 w.drew fun t228 =>
 dFl P 27 t6 1 w.drew fun t229 =>
 dL P 3 t229 w.drew fun t230 =>
 dFl P 44 t3 4 w.drew fun t231 =>
 dL P 3 t231 w.drew fun t232 =>
 Cl P 97 #[t228, t230, t232] w.drew (Pk R) fun t233 w =>
 kLd P 24 t219 t220 w <|
 kLd P 3 t221 t222 w <|
 dIx P 24 t220 t222 w fun t234 =>
 Sto P 60 t234 t233 w fun w =>
 dFl P 30 t2 0 w.drew fun t235 =>
 dL P 24 t235 w.drew fun t236 =>
 dFl P 27 t6 2 w.drew fun t237 =>
 dL P 3 t237 w.drew fun t238 =>
 dIx P 24 t236 t238 w.drew fun t239 =>
 dL P 60 t239 w.drew fun t240 =>
 dFl P 27 t6 1 w.drew fun t241 =>
 dL P 3 t241 w.drew fun t242 =>
 Cl P 95 #[t240, t242] w.drew (Pk R) fun t243 w =>
 Dv P true (bV .len #[60] 3 #[t243]) w fun t244 =>
 Dv P true (bn .eql 3 true t244 (.int .i64 0)) w fun t245 =>
 If t245
 (Bd P 27 [] w fun t246 w =>
 Fa P 30 t2 3 w fun t247 w =>
 Sto P 27 t247 t246 w fun w =>
 Ld P 30 t2 w fun t248 w =>
 Sto P 30 t4 t248 w fun w =>
 Rc P 30 t4 w fun r0 =>
 R (.returned (.tuple #[r0, (.bool true)])) w)
 (Ld P 30 t2 w fun t248x1 w =>
 Sto P 30 t4 t248x1 w fun w =>
 Rc P 30 t4 w fun r0 =>
 R (.returned (.tuple #[r0, (.bool true)])) w)))))
 (Jn0 (fun k3 =>
 Fa P 27 t6 0 w fun t249 w =>
 Ld P 3 t249 w fun t250 w =>
 Bn P .eql 3 true t250 (.int .i64 1) w fun t251 w =>
 If t251
 (dFl P 30 t2 0 w.drew fun t252 =>
 dL P 24 t252 w.drew fun t253 =>
 dFl P 27 t6 3 w.drew fun t254 =>
 dL P 3 t254 w.drew fun t255 =>
 dFl P 30 t2 0 w.drew fun t256 =>
 dL P 24 t256 w.drew fun t257 =>
 dFl P 27 t6 3 w.drew fun t258 =>
 dL P 3 t258 w.drew fun t259 =>
 dIx P 24 t257 t259 w.drew fun t260 =>
 dL P 60 t260 w.drew fun t261 =>
 dFl P 27 t6 1 w.drew fun t262 =>
 dL P 3 t262 w.drew fun t263 =>
 Cl P 97 #[t261, t263, (.int .i64 400)] w.drew (Pk R) fun t264 w =>
 kLd P 24 t252 t253 w <|
 kLd P 3 t254 t255 w <|
 dIx P 24 t253 t255 w fun t265 =>
 Sto P 60 t265 t264 w fun w =>
 Bd P 27 [] w fun t266 w =>
 Fa P 30 t2 3 w fun t267 w =>
 Sto P 27 t267 t266 w fun w =>
 k3 w)
 (k3 w))
 (fun w =>
 dL P 30 t2 w.drew fun t268 =>
 dFl P 27 t6 0 w.drew fun t269 =>
 dL P 3 t269 w.drew fun t270 =>
 Dv P true (bn .neq 3 true t270 (.int .i64 0)) w.drew fun t271 =>
 Sto P 30 t4 t268 w.drew fun w =>
 kLd P 3 t269 t270 w <|
 Rc P 30 t4 w fun r0 =>
 R (.returned (.tuple #[r0, t271])) w)))))
theorem e_ref37_moving (h : s_ref37_moving Tryz.prog t0 t1 w R) : Calls Tryz.prog 56 #[t0, t1] w R :=
 en1 (.sq .z (.sq .z (.sq (.sq .z (.bk (.sq .z (.cd (.sq (.sq (.dr (.pur true 0 (.pur false 1 (.pur true 2 (.pur true 3 (.pur true 4 (.pur false 5 (.eff 6 [] (.pur true 7 (.pur true 8 (.pur true 9 (.pur true 10 (.pur false 11 (.pur true 12 (.pur false 13 (.pur true 14 (.pur true 15 (.eff 16 [] (.pur true 17 (.pur true 18 (.pur true 19 (.pur true 20 (.pur false 21 (.pur true 22 (.pur false 23 (.pur true 24 (.pur false 25 (.pur true 26 (.pur false 27 (.pur true 28 (.pur true 29 .done))))))))))))))))))))))))))))))) (.cd (.sq .z .z) .z)) (.sq (.dr (.pur true 0 (.pur false 1 (.pur true 2 (.pur false 3 (.pur true 4 (.pur false 5 (.pur true 6 (.pur false 7 (.pur true 8 (.pur false 9 (.pur true 10 (.pur true 11 (.eff 12 [] .done)))))))))))))) (.sq .z .z))) (.sq .z (.cd (.sq (.sq .z (.cd (.sq .z .z) .z)) (.sq (.dr (.pur true 0 (.pur false 1 (.pur true 2 (.pur false 3 (.pur true 4 (.pur false 5 (.pur true 6 (.pur false 7 (.eff 8 [] (.pur true 9 .done))))))))))) (.sq .z (.sq (.sq .z (.bk (.lp [8, 9] [82, 83, 84, 85, 86, 87, 88, 89, 90, 91, 92, 93, 94, 95, 96, 97, 98, 99, 100, 101, 102, 103, 104, 105, 106, 107, 108, 109, 110, 111, 112, 113, 114, 115, 116, 117, 118, 119, 120, 121, 122, 123, 124, 125, 126] (.sq (.sq .z (.cd .z .z)) (.sq (.bk (.sq (.dr (.pur true 0 (.pur true 1 (.pur true 2 (.pur true 3 (.pur false 4 (.pur true 5 (.pur false 6 (.pur true 7 .done))))))))) (.cd (.sq (.dr (.pur true 0 (.pur false 1 (.pur true 2 (.pur false 3 (.pur true 4 (.pur false 5 (.pur true 6 (.pur false 7 (.pur true 8 (.pur false 9 (.pur true 10 (.pur true 11 (.pur true 12 (.pur false 13 (.eff 14 [1, 3] (.pur true 15 (.eff 16 [] .done)))))))))))))))))) (.sq .z .z)) .z))) .z))))) (.sq .z .z))))) (.sq .z (.cd (.sq (.sq .z (.cd (.sq .z .z) .z)) (.sq (.dr (.pur true 0 (.pur false 1 (.pur true 2 (.pur false 3 (.pur true 4 (.pur false 5 (.pur true 6 (.pur false 7 (.eff 8 [] (.pur true 9 .done))))))))))) (.sq (.sq (.dr (.pur true 0 (.pur true 1 (.pur true 2 (.pur true 3 (.pur true 4 (.pur true 5 (.pur true 6 (.pur true 7 (.pur true 8 (.pur true 9 (.pur false 10 (.pur true 11 (.pur false 12 (.pur true 13 (.pur true 14 .done)))))))))))))))) (.cd (.sq .z .z) .z)) (.sq .z (.sq .z (.sq .z (.sq (.sq .z (.cd .z .z)) (.sq .z .z)))))))) (.sq .z (.cd (.sq (.sq .z (.cd (.sq .z .z) .z)) (.sq (.sq .z (.bk (.lp [11] [5, 187, 188, 189, 190, 191, 192, 193, 194, 195, 196, 197, 198, 199, 200, 201, 202, 203, 204, 205, 206, 207, 208, 209, 210, 211, 212, 213, 214, 215, 216, 217, 218] (.sq (.sq .z (.cd .z .z)) (.sq (.bk (.sq (.dr (.pur true 0 (.pur false 1 (.pur true 2 (.pur true 3 (.pur true 4 (.pur false 5 (.pur true 6 (.pur false 7 (.pur true 8 (.pur false 9 (.pur true 10 (.pur false 11 (.pur true 12 (.pur true 13 (.pur true 14 (.pur false 15 (.pur true 16 (.pur true 17 (.pur true 18 (.pur false 19 (.pur true 20 (.pur false 21 (.pur true 22 (.pur true 23 .done))))))))))))))))))))))))) (.cd (.sq .z .z) .z))) .z))))) (.sq (.dr (.pur true 0 (.pur false 1 (.pur true 2 (.pur false 3 (.pur true 4 (.pur false 5 (.pur true 6 (.pur false 7 (.pur true 8 (.pur false 9 (.pur true 10 (.pur false 11 (.pur true 12 (.pur false 13 (.eff 14 [1, 3] (.pur true 15 (.eff 16 [] .done)))))))))))))))))) (.sq (.sq (.dr (.pur true 0 (.pur false 1 (.pur true 2 (.pur false 3 (.pur true 4 (.pur false 5 (.pur true 6 (.pur false 7 (.eff 8 [] (.pur true 9 (.pur true 10 .done)))))))))))) (.cd .z .z)) (.sq .z .z))))) .z)))))))))) (.jn [] [249, 250, 251, 252, 253, 254, 255, 256, 257, 258, 259, 260, 261, 262, 263, 264, 265, 266, 267] (.sq .z (.cd (.sq (.dr (.pur true 0 (.pur false 1 (.pur true 2 (.pur false 3 (.pur true 4 (.pur false 5 (.pur true 6 (.pur false 7 (.pur true 8 (.pur false 9 (.pur true 10 (.pur false 11 (.eff 12 [1, 3] (.pur true 13 (.eff 14 [] .done)))))))))))))))) .z) .z)) (.sq (.dr (.pur false 0 (.pur true 1 (.pur false 2 (.pur true 3 (.eff 4 [2] (.pur true 5 .done))))))) .z))))) [t0, t1] Tryz.func56 (by kernel_rfl) (by kernel_rfl) h
theorem n_ref37_moving : Enters Tryz.prog 56 := enters_of Tryz.func56 (by kernel_rfl) rfl
def s_shard_must (P : Program) (t0 : Value) (w : World) (R : Ending → World → Prop) : Prop :=
 Un P .not t0 w fun t3 w =>
 If t3
 (Bd P 129 [] w fun t4 w =>
 Mi P 129 t4 w fun t5 w =>
 Pn P t5 w (Pk R) fun _ w =>
 R (.returned (.tuple #[])) w)
 (R (.returned (.tuple #[])) w)
theorem e_shard_must (h : s_shard_must Tryz.prog t0 w R) : Calls Tryz.prog 57 #[t0] w R :=
 en1 (.sq .z (.cd .z .z)) [t0] Tryz.func57 (by kernel_rfl) (by kernel_rfl) h
theorem n_shard_must : Enters Tryz.prog 57 := enters_of Tryz.func57 (by kernel_rfl) rfl
def s_trace_ValidFact (P : Program) (t0 : Value) (w : World) (R : Ending → World → Prop) : Prop :=
 Bx P 42 t0 w fun t1 w =>
 Fa P 42 t1 0 w fun t3 w =>
 Ld P 3 t3 w fun t4 w =>
 Cl P 98 #[t4, (.int .i64 0), (.int .i64 999)] w (Pk R) fun t5 w =>
 Gd t5 true (fun k => Fa P 42 t1 1 w k) w fun t7 w =>
 Gd t5 true (fun k => Ld P 3 t7 w k) w fun t8 w =>
 Gd t5 true (fun k => Cl P 98 #[t8, (.int .i64 0), (.int .i64 9)] w (Pk R) k) w fun t9 w =>
 Pick t5 t9 (.bool false) w fun t10 w =>
 Gd t10 true (fun k => Fa P 42 t1 2 w k) w fun t12 w =>
 Gd t10 true (fun k => Ld P 3 t12 w k) w fun t13 w =>
 Gd t10 true (fun k => Cl P 98 #[t13, (.int .i64 0), (.int .i64 7)] w (Pk R) k) w fun t14 w =>
 Pick t10 t14 (.bool false) w fun t15 w =>
 Gd t15 true (fun k => Fa P 42 t1 3 w k) w fun t17 w =>
 Gd t15 true (fun k => Ld P 3 t17 w k) w fun t18 w =>
 Gd t15 true (fun k => Cl P 98 #[t18, (.int .i64 0), (.int .i64 9)] w (Pk R) k) w fun t19 w =>
 Pick t15 t19 (.bool false) w fun t20 w =>
 Gd t20 true (fun k => Fa P 42 t1 4 w k) w fun t22 w =>
 Gd t20 true (fun k => Ld P 3 t22 w k) w fun t23 w =>
 Gd t20 true (fun k => Cl P 98 #[t23, (.int .i64 0), (.int .i64 11)] w (Pk R) k) w fun t24 w =>
 Pick t20 t24 (.bool false) w fun t25 w =>
 Gd t25 true (fun k => Fa P 42 t1 5 w k) w fun t27 w =>
 Gd t25 true (fun k => Ld P 3 t27 w k) w fun t28 w =>
 Gd t25 true (fun k => Cl P 98 #[t28, (.int .i64 (-1)), (.int .i64 19)] w (Pk R) k) w fun t29 w =>
 Pick t25 t29 (.bool false) w fun t30 w =>
 Gd t30 true (fun k => Fa P 42 t1 6 w k) w fun t32 w =>
 Gd t30 true (fun k => Ld P 3 t32 w k) w fun t33 w =>
 Gd t30 true (fun k => Fa P 42 t1 0 w k) w fun t34 w =>
 Gd t30 true (fun k => Ld P 3 t34 w k) w fun t35 w =>
 Gd t30 true (fun k => Bn P .quo 3 true t35 (.int .i64 10) w k) w fun t36 w =>
 Gd t30 true (fun k => Bn P .eql 3 false t33 t36 w k) w fun t37 w =>
 Pick t30 t37 (.bool false) w fun t38 w =>
 Gd t38 true (fun k => Fa P 42 t1 7 w k) w fun t40 w =>
 Gd t38 true (fun k => Ld P 3 t40 w k) w fun t41 w =>
 Gd t38 true (fun k => Fa P 42 t1 8 w k) w fun t42 w =>
 Gd t38 true (fun k => Ld P 3 t42 w k) w fun t43 w =>
 Gd t38 true (fun k => Cl P 98 #[t41, (.int .i64 0), t43] w (Pk R) k) w fun t44 w =>
 Pick t38 t44 (.bool false) w fun t45 w =>
 Gd t45 true (fun k => Fa P 42 t1 8 w k) w fun t47 w =>
 Gd t45 true (fun k => Ld P 3 t47 w k) w fun t48 w =>
 Gd t45 true (fun k => Bn P .leq 3 true t48 (.int .i64 4398046511104) w k) w fun t49 w =>
 Pick t45 t49 (.bool false) w fun t50 w =>
 Gd t50 true (fun k => Fa P 42 t1 9 w k) w fun t52 w =>
 Gd t50 true (fun k => Ld P 3 t52 w k) w fun t53 w =>
 Gd t50 true (fun k => Cl P 98 #[t53, (.int .i64 0), (.int .i64 24000)] w (Pk R) k) w fun t54 w =>
 Pick t50 t54 (.bool false) w fun t55 w =>
 R (.returned t55) w
theorem e_trace_ValidFact (h : s_trace_ValidFact Tryz.prog t0 w R) : Calls Tryz.prog 58 #[t0] w R :=
 en1 (.sq .z (.sq .z .z)) [t0] Tryz.func58 (by kernel_rfl) (by kernel_rfl) h
theorem n_trace_ValidFact : Enters Tryz.prog 58 := enters_of Tryz.func58 (by kernel_rfl) rfl
def s_slices_ContainsFunc_api_Held_api_Held (P : Program) (t0 t1 : Value) (w : World) (R : Ending → World → Prop) : Prop :=
 Cl P 99 #[t0, t1] w (Pk R) fun t7 w =>
 Bn P .geq 3 true t7 (.int .i64 0) w fun t8 w =>
 R (.returned t8) w
theorem e_slices_ContainsFunc_api_Held_api_Held (h : s_slices_ContainsFunc_api_Held_api_Held Tryz.prog t0 t1 w R) : Calls Tryz.prog 59 #[t0, t1] w R :=
 en1 (.sq .z (.sq .z .z)) [t0, t1] Tryz.func59 (by kernel_rfl) (by kernel_rfl) h
theorem n_slices_ContainsFunc_api_Held_api_Held : Enters Tryz.prog 59 := enters_of Tryz.func59 (by kernel_rfl) rfl
def s_shard_change_put_1 (P : Program) (t0 t1 : Value) (w : World) (R : Ending → World → Prop) : Prop :=
 Bx P 62 t0 w fun t2 w =>
 Fa P 62 t2 0 w fun t4 w =>
 Ld P 42 t4 w fun t5 w =>
 Fa P 44 t1 1 w fun t6 w =>
 Ld P 42 t6 w fun t7 w =>
 Cl P 45 #[t5, t7] w (Pk R) fun t8 w =>
 Bn P .eql 3 true t8 (.int .i64 0) w fun t9 w =>
 R (.returned t9) w
theorem e_shard_change_put_1 (h : s_shard_change_put_1 Tryz.prog t0 t1 w R) : Calls Tryz.prog 60 #[t0, t1] w R :=
 en1 (.sq .z (.sq .z .z)) [t0, t1] Tryz.func60 (by kernel_rfl) (by kernel_rfl) h
theorem n_shard_change_put_1 : Enters Tryz.prog 60 := enters_of Tryz.func60 (by kernel_rfl) rfl
def s_shard_ofSlot (P : Program) (t0 t1 : Value) (w : World) (R : Ending → World → Prop) : Prop :=
 Bx P 3 t1 w fun t3 w =>
 Cl P 77 #[t0] w (Pk R) fun t6 w =>
 Cl P 100 #[t6, (.func (.func 101) #[] #[t3])] w (Pk R) fun t8 w =>
 R (.returned t8) w
theorem e_shard_ofSlot (h : s_shard_ofSlot Tryz.prog t0 t1 w R) : Calls Tryz.prog 61 #[t0, t1] w R :=
 en1 (.sq .z (.sq .z .z)) [t0, t1] Tryz.func61 (by kernel_rfl) (by kernel_rfl) h
theorem n_shard_ofSlot : Enters Tryz.prog 61 := enters_of Tryz.func61 (by kernel_rfl) rfl
def s_slices_BinarySearchFunc_api_Held_api_Held_api_Held (P : Program) (t0 t1 t2 : Value) (w : World) (R : Ending → World → Prop) : Prop :=
 Bx P 62 t1 w fun t4 w =>
 Bt P .len #[60] 3 #[t0] w fun t13 w =>
 Lp2 (.int .i64 0) t13 w (fun t9 t10 w k1 =>
 Bn P .lss 3 false t9 t10 w fun t17 w =>
 If t17
 (Bn P .add 3 false t9 t10 w fun t20 w =>
 Cv P 3 126 t20 w fun t21 w =>
 Bn P .shr 126 true t21 (.int .u64 1) w fun t22 w =>
 Cv P 126 3 t22 w fun t23 w =>
 dIx P 60 t0 t23 w.drew fun t27 =>
 dL P 62 t27 w.drew fun t28 =>
 dL P 62 t4 w.drew fun t29 =>
 Cw P t2 #[t28, t29] w.drew (Pk R) fun t30 w =>
 Dv P true (bn .lss 3 true t30 (.int .i64 0)) w fun t31 =>
 If t31
 (Bn P .add 3 true t23 (.int .i64 1) w fun t33 w =>
 k1 t33 t10 w)
 (k1 t9 t23 w))
 (Dv P true (bn .lss 3 false t9 t13) w.drew fun t38 =>
 GdP t38 true (fun k => k t2) fun t40 =>
 GdP t38 true (fun k => k t0) fun t41 =>
 GdP t38 true (fun k => k t9) fun t42 =>
 GdP t38 true (fun k => dIx P 60 t41 t42 w.drew k) fun t43 =>
 GdP t38 true (fun k => dL P 62 t43 w.drew k) fun t44 =>
 GdP t38 true (fun k => dL P 62 t4 w.drew k) fun t45 =>
 Gd t38 true (fun k => Cw P t40 #[t44, t45] w.drew (Pk R) k) w.drew fun t46 w =>
 GdP t38 true (fun k => Dv P true (bn .eql 3 true t46 (.int .i64 0)) w k) fun t47 =>
 PickP t38 t47 (.bool false) fun t48 =>
 R (.returned (.tuple #[t9, t48])) w))
theorem e_slices_BinarySearchFunc_api_Held_api_Held_api_Held (h : s_slices_BinarySearchFunc_api_Held_api_Held_api_Held Tryz.prog t0 t1 t2 w R) : Calls Tryz.prog 62 #[t0, t1, t2] w R :=
 en1 (.sq .z (.sq .z (.sq .z (.sq (.bk (.lp [9, 10] [11, 15, 16, 17, 18, 19, 20, 21, 22, 23, 24, 25, 26, 27, 28, 29, 30, 31, 32, 33, 34] (.sq (.sq .z (.cd .z .z)) (.bk (.sq .z (.sq (.dr (.pur true 0 (.pur true 1 (.pur true 2 (.pur true 3 (.pur false 4 (.pur false 5 (.eff 6 [] (.pur true 7 .done))))))))) (.cd .z .z))))))) (.sq (.dr (.pur true 0 (.pur true 1 (.pur true 2 (.pur true 3 (.pur true 4 (.pur true 5 (.pur true 6 (.pur true 7 (.pur true 8 (.pur false 9 (.pur false 10 (.eff 11 [] (.pur true 12 (.pur true 13 (.pur true 14 (.pur true 15 .done))))))))))))))))) .z))))) [t0, t1, t2] Tryz.func62 (by kernel_rfl) (by kernel_rfl) h
theorem n_slices_BinarySearchFunc_api_Held_api_Held_api_Held : Enters Tryz.prog 62 := enters_of Tryz.func62 (by kernel_rfl) rfl
def s_shard_change_copy_1 (P : Program) (t0 t1 : Value) (w : World) (R : Ending → World → Prop) : Prop :=
 Bx P 62 t0 w fun t2 w =>
 Bx P 62 t1 w fun t3 w =>
 Fa P 62 t2 1 w fun t5 w =>
 Ld P 3 t5 w fun t6 w =>
 Fa P 62 t3 1 w fun t7 w =>
 Ld P 3 t7 w fun t8 w =>
 Cl P 64 #[t6, t8] w (Pk R) fun t9 w =>
 R (.returned t9) w
theorem e_shard_change_copy_1 (h : s_shard_change_copy_1 Tryz.prog t0 t1 w R) : Calls Tryz.prog 63 #[t0, t1] w R :=
 en1 (.sq .z (.sq .z .z)) [t0, t1] Tryz.func63 (by kernel_rfl) (by kernel_rfl) h
theorem n_shard_change_copy_1 : Enters Tryz.prog 63 := enters_of Tryz.func63 (by kernel_rfl) rfl
def s_cmp_Compare_int (P : Program) (t0 t1 : Value) (w : World) (R : Ending → World → Prop) : Prop :=
 Cl P 102 #[t0] w (Pk R) fun t8 w =>
 Cl P 102 #[t1] w (Pk R) fun t10 w =>
 If t8
 (If t10
 (R (.returned (.int .i64 0)) w)
 (R (.returned (.int .i64 (-1))) w))
 (If t10
 (R (.returned (.int .i64 1)) w)
 (Bn P .lss 3 false t0 t1 w fun t16 w =>
 If t16
 (R (.returned (.int .i64 (-1))) w)
 (Bn P .gtr 3 false t0 t1 w fun t19 w =>
 If t19
 (R (.returned (.int .i64 1)) w)
 (R (.returned (.int .i64 0)) w))))
theorem e_cmp_Compare_int (h : s_cmp_Compare_int Tryz.prog t0 t1 w R) : Calls Tryz.prog 64 #[t0, t1] w R :=
 en1 (.sq .z (.sq .z (.sq .z (.sq (.sq .z (.cd (.sq (.sq .z (.cd (.sq .z .z) .z)) (.sq .z .z)) .z)) (.sq (.sq .z (.cd (.sq .z .z) .z)) (.sq (.sq .z (.cd (.sq .z .z) .z)) (.sq (.sq .z (.cd (.sq .z .z) .z)) (.sq .z .z)))))))) [t0, t1] Tryz.func64 (by kernel_rfl) (by kernel_rfl) h
theorem n_cmp_Compare_int : Enters Tryz.prog 64 := enters_of Tryz.func64 (by kernel_rfl) rfl
def s_shard_change_rest (P : Program) (t0 : Value) (w : World) (R : Ending → World → Prop) : Prop :=
 NcP t0 fun t4 =>
 dFl P 78 t4 0 w.drew fun t5 =>
 dFl P 76 t5 0 w.drew fun t6 =>
 dFl P 30 t6 0 w.drew fun t7 =>
 dL P 24 t7 w.drew fun t8 =>
 NcP t0 fun t10 =>
 dFl P 78 t10 0 w.drew fun t11 =>
 dFl P 76 t11 0 w.drew fun t12 =>
 dFl P 30 t12 3 w.drew fun t13 =>
 dFl P 27 t13 2 w.drew fun t14 =>
 dL P 3 t14 w.drew fun t15 =>
 dIx P 24 t8 t15 w.drew fun t16 =>
 dL P 60 t16 w.drew fun t17 =>
 NcP t0 fun t19 =>
 dFl P 78 t19 0 w.drew fun t20 =>
 dFl P 76 t20 0 w.drew fun t21 =>
 dFl P 30 t21 3 w.drew fun t22 =>
 dFl P 27 t22 1 w.drew fun t23 =>
 dL P 3 t23 w.drew fun t24 =>
 Cl P 61 #[t17, t24] w.drew (Pk R) fun t25 w =>
 R (.returned t25) w
theorem e_shard_change_rest (h : s_shard_change_rest Tryz.prog t0 w R) : Calls Tryz.prog 65 #[t0] w R :=
 en1 (.sq .z (.sq (.dr (.pur true 0 (.pur true 1 (.pur true 2 (.pur true 3 (.pur true 4 (.pur false 5 (.pur true 6 (.pur true 7 (.pur true 8 (.pur true 9 (.pur true 10 (.pur true 11 (.pur false 12 (.pur true 13 (.pur false 14 (.pur true 15 (.pur true 16 (.pur true 17 (.pur true 18 (.pur true 19 (.pur true 20 (.pur false 21 (.eff 22 [] (.pur true 23 .done))))))))))))))))))))))))) .z)) [t0] Tryz.func65 (by kernel_rfl) (by kernel_rfl) h
theorem n_shard_change_rest : Enters Tryz.prog 65 := enters_of Tryz.func65 (by kernel_rfl) rfl
def s_shard_change_end (P : Program) (t0 : Value) (w : World) (R : Ending → World → Prop) : Prop :=
 Cl P 65 #[t0] w (Pk R) fun t3 w =>
 Bt P .len #[60] 3 #[t3] w fun t4 w =>
 Bn P .eql 3 true t4 (.int .i64 0) w fun t5 w =>
 If t5
 (Bd P 27 [] w fun t7 w =>
 Nc t0 w fun t8 w =>
 Fa P 78 t8 0 w fun t9 w =>
 Fa P 76 t9 0 w fun t10 w =>
 Fa P 30 t10 3 w fun t11 w =>
 Sto P 27 t11 t7 w fun w =>
 R (.returned (.tuple #[])) w)
 (R (.returned (.tuple #[])) w)
theorem e_shard_change_end (h : s_shard_change_end Tryz.prog t0 w R) : Calls Tryz.prog 66 #[t0] w R :=
 en1 (.sq .z (.cd .z .z)) [t0] Tryz.func66 (by kernel_rfl) (by kernel_rfl) h
theorem n_shard_change_end : Enters Tryz.prog 66 := enters_of Tryz.func66 (by kernel_rfl) rfl
def s_slices_ContainsFunc_api_Reader_api_Reader (P : Program) (t0 t1 : Value) (w : World) (R : Ending → World → Prop) : Prop :=
 Cl P 74 #[t0, t1] w (Pk R) fun t7 w =>
 Bn P .geq 3 true t7 (.int .i64 0) w fun t8 w =>
 R (.returned t8) w
theorem e_slices_ContainsFunc_api_Reader_api_Reader (h : s_slices_ContainsFunc_api_Reader_api_Reader Tryz.prog t0 t1 w R) : Calls Tryz.prog 67 #[t0, t1] w R :=
 en1 (.sq .z (.sq .z .z)) [t0, t1] Tryz.func67 (by kernel_rfl) (by kernel_rfl) h
theorem n_slices_ContainsFunc_api_Reader_api_Reader : Enters Tryz.prog 67 := enters_of Tryz.func67 (by kernel_rfl) rfl
def s_shard_change_drop_1 (P : Program) (t0 t1 : Value) (w : World) (R : Ending → World → Prop) : Prop :=
 Bx P 48 t0 w fun t2 w =>
 dFl P 48 t2 2 w.drew fun t4 =>
 dL P 25 t4 w.drew fun t5 =>
 dL P 70 t1 w.drew fun t6 =>
 NcP t6 fun t7 =>
 dFl P 78 t7 0 w.drew fun t8 =>
 dFl P 76 t8 0 w.drew fun t9 =>
 dFl P 30 t9 3 w.drew fun t10 =>
 dFl P 27 t10 1 w.drew fun t11 =>
 dL P 3 t11 w.drew fun t12 =>
 dIx P 25 t5 t12 w.drew fun t13 =>
 dL P 3 t13 w.drew fun t14 =>
 dL P 70 t1 w.drew fun t15 =>
 NcP t15 fun t16 =>
 dFl P 78 t16 0 w.drew fun t17 =>
 dFl P 76 t17 0 w.drew fun t18 =>
 dFl P 30 t18 3 w.drew fun t19 =>
 dFl P 27 t19 2 w.drew fun t20 =>
 dL P 3 t20 w.drew fun t21 =>
 Dv P true (bn .eql 3 false t14 t21) w.drew fun t22 =>
 GdP t22 true (fun k => dFl P 48 t2 3 w.drew k) fun t24 =>
 GdP t22 true (fun k => dL P 3 t24 w.drew k) fun t25 =>
 GdP t22 true (fun k => dL P 70 t1 w.drew k) fun t26 =>
 GdP t22 true (fun k => NcP t26 k) fun t27 =>
 GdP t22 true (fun k => dFl P 78 t27 0 w.drew k) fun t28 =>
 GdP t22 true (fun k => dFl P 76 t28 0 w.drew k) fun t29 =>
 GdP t22 true (fun k => dFl P 30 t29 3 w.drew k) fun t30 =>
 GdP t22 true (fun k => dFl P 27 t30 2 w.drew k) fun t31 =>
 GdP t22 true (fun k => dL P 3 t31 w.drew k) fun t32 =>
 GdP t22 true (fun k => Dv P true (bn .leq 3 false t25 t32) w.drew k) fun t33 =>
 PickP t22 t33 (.bool false) fun t34 =>
 R (.returned t34) w.drew
theorem e_shard_change_drop_1 (h : s_shard_change_drop_1 Tryz.prog t0 t1 w R) : Calls Tryz.prog 68 #[t0, t1] w R :=
 en1 (.sq .z (.sq (.dr (.pur true 0 (.pur false 1 (.pur false 2 (.pur true 3 (.pur true 4 (.pur true 5 (.pur true 6 (.pur true 7 (.pur false 8 (.pur true 9 (.pur false 10 (.pur false 11 (.pur true 12 (.pur true 13 (.pur true 14 (.pur true 15 (.pur true 16 (.pur false 17 (.pur true 18 (.pur true 19 (.pur true 20 (.pur false 21 (.pur false 22 (.pur true 23 (.pur true 24 (.pur true 25 (.pur true 26 (.pur true 27 (.pur false 28 (.pur true 29 (.pur true 30 (.pur true 31 .done))))))))))))))))))))))))))))))))) .z)) [t0, t1] Tryz.func68 (by kernel_rfl) (by kernel_rfl) h
theorem n_shard_change_drop_1 : Enters Tryz.prog 68 := enters_of Tryz.func68 (by kernel_rfl) rfl
def s_shard_change_remove (P : Program) (t0 t1 t2 : Value) (w : World) (R : Ending → World → Prop) : Prop :=
 Bx P 70 t0 w fun t3 w =>
 Bx P 3 t2 w fun t5 w =>
 dL P 70 t3 w.drew fun t6 =>
 NcP t6 fun t7 =>
 dFl P 78 t7 0 w.drew fun t8 =>
 dFl P 76 t8 0 w.drew fun t9 =>
 dFl P 30 t9 0 w.drew fun t10 =>
 dL P 24 t10 w.drew fun t11 =>
 dL P 70 t3 w.drew fun t13 =>
 NcP t13 fun t14 =>
 dFl P 78 t14 0 w.drew fun t15 =>
 dFl P 76 t15 0 w.drew fun t16 =>
 dFl P 30 t16 0 w.drew fun t17 =>
 dL P 24 t17 w.drew fun t18 =>
 dIx P 24 t18 t1 w.drew fun t20 =>
 dL P 60 t20 w.drew fun t21 =>
 Cl P 100 #[t21, (.func (.func 103) #[] #[t3, t5])] w.drew (Pk R) fun t23 w =>
 kLd P 70 t3 t6 w <|
 kLd P 24 t10 t11 w <|
 dIx P 24 t11 t1 w fun t24 =>
 Sto P 60 t24 t23 w fun w =>
 R (.returned (.tuple #[])) w
theorem e_shard_change_remove (h : s_shard_change_remove Tryz.prog t0 t1 t2 w R) : Calls Tryz.prog 69 #[t0, t1, t2] w R :=
 en1 (.sq .z (.dr (.pur false 0 (.pur true 1 (.pur true 2 (.pur true 3 (.pur true 4 (.pur false 5 (.pur true 6 (.pur false 7 (.pur true 8 (.pur true 9 (.pur true 10 (.pur true 11 (.pur false 12 (.pur true 13 (.pur true 14 (.pur false 15 (.pur true 16 (.eff 17 [0, 5] (.pur true 18 (.eff 19 [] .done)))))))))))))))))))))) [t0, t1, t2] Tryz.func69 (by kernel_rfl) (by kernel_rfl) h
theorem n_shard_change_remove : Enters Tryz.prog 69 := enters_of Tryz.func69 (by kernel_rfl) rfl
def s_slices_BinarySearchFunc_api_Reader_api_Reader_int (P : Program) (t0 t1 t2 : Value) (w : World) (R : Ending → World → Prop) : Prop :=
 Bt P .len #[28] 3 #[t0] w fun t13 w =>
 Lp2 (.int .i64 0) t13 w (fun t9 t10 w k1 =>
 Bn P .lss 3 false t9 t10 w fun t17 w =>
 If t17
 (Bn P .add 3 false t9 t10 w fun t20 w =>
 Cv P 3 126 t20 w fun t21 w =>
 Bn P .shr 126 true t21 (.int .u64 1) w fun t22 w =>
 Cv P 126 3 t22 w fun t23 w =>
 Ia P 28 t0 t23 w fun t27 w =>
 Ld P 48 t27 w fun t28 w =>
 Cw P t2 #[t28, t1] w (Pk R) fun t30 w =>
 Bn P .lss 3 true t30 (.int .i64 0) w fun t31 w =>
 If t31
 (Bn P .add 3 true t23 (.int .i64 1) w fun t33 w =>
 k1 t33 t10 w)
 (k1 t9 t23 w))
 (Bn P .lss 3 false t9 t13 w fun t38 w =>
 Gd t38 true (fun k => k t2 w) w fun t40 w =>
 Gd t38 true (fun k => k t0 w) w fun t41 w =>
 Gd t38 true (fun k => k t9 w) w fun t42 w =>
 Gd t38 true (fun k => Ia P 28 t41 t42 w k) w fun t43 w =>
 Gd t38 true (fun k => Ld P 48 t43 w k) w fun t44 w =>
 Gd t38 true (fun k => k t1 w) w fun t45 w =>
 Gd t38 true (fun k => Cw P t40 #[t44, t45] w (Pk R) k) w fun t46 w =>
 Gd t38 true (fun k => Bn P .eql 3 true t46 (.int .i64 0) w k) w fun t47 w =>
 Pick t38 t47 (.bool false) w fun t48 w =>
 R (.returned (.tuple #[t9, t48])) w))
theorem e_slices_BinarySearchFunc_api_Reader_api_Reader_int (h : s_slices_BinarySearchFunc_api_Reader_api_Reader_int Tryz.prog t0 t1 t2 w R) : Calls Tryz.prog 70 #[t0, t1, t2] w R :=
 en1 (.sq .z (.sq .z (.sq .z (.sq (.bk (.lp [9, 10] [11, 15, 16, 17, 18, 19, 20, 21, 22, 23, 24, 25, 26, 27, 28, 29, 30, 31, 32, 33, 34] (.sq (.sq .z (.cd .z .z)) (.bk (.sq .z (.sq .z (.cd .z .z))))))) (.sq .z .z))))) [t0, t1, t2] Tryz.func70 (by kernel_rfl) (by kernel_rfl) h
theorem n_slices_BinarySearchFunc_api_Reader_api_Reader_int : Enters Tryz.prog 70 := enters_of Tryz.func70 (by kernel_rfl) rfl
def s_shard_change_open_1 (P : Program) (t0 t1 : Value) (w : World) (R : Ending → World → Prop) : Prop :=
 Bx P 48 t0 w fun t2 w =>
 Fa P 48 t2 0 w fun t5 w =>
 Ld P 3 t5 w fun t6 w =>
 Cl P 64 #[t6, t1] w (Pk R) fun t8 w =>
 R (.returned t8) w
theorem e_shard_change_open_1 (h : s_shard_change_open_1 Tryz.prog t0 t1 w R) : Calls Tryz.prog 71 #[t0, t1] w R :=
 en1 (.sq .z (.sq .z .z)) [t0, t1] Tryz.func71 (by kernel_rfl) (by kernel_rfl) h
theorem n_shard_change_open_1 : Enters Tryz.prog 71 := enters_of Tryz.func71 (by kernel_rfl) rfl
def s_slices_Insert_api_Reader_api_Reader (P : Program) (t0 t1 t2 : Value) (w : World) (R : Ending → World → Prop) : Prop :=
 Sc P 28 t0 (some t1) none none w fun t12 w =>
 Bt P .len #[28] 3 #[t2] w fun t14 w =>
 Bn P .eql 3 true t14 (.int .i64 0) w fun t16 w =>
 If t16
 (R (.returned t0) w)
 (Bt P .len #[28] 3 #[t0] w fun t19 w =>
 Bn P .eql 3 false t1 t19 w fun t22 w =>
 If t22
 (Bt P .append #[28, 28] 28 #[t0, t2] w fun t25 w =>
 R (.returned t25) w)
 (Bn P .add 3 false t19 t14 w fun t28 w =>
 Bt P .cap #[28] 3 #[t0] w fun t30 w =>
 Bn P .gtr 3 false t28 t30 w fun t31 w =>
 If t31
 (Sc P 28 t0 none (some t1) none w fun t34 w =>
 Bn P .add 3 false t19 t14 w fun t37 w =>
 Bn P .sub 3 false t37 t1 w fun t39 w =>
 Bt P .append #[28, 3] 28 #[t34, t39] w fun t40 w =>
 Sc P 28 t40 (some t1) none none w fun t43 w =>
 Bt P .copy #[28, 28] 3 #[t43, t2] w fun t45 w =>
 Dv P true (bn .add 3 false t1 t14) w.drew fun t49 =>
 Dv P true (Instr.sliceAt 28 t40 (some t49) none none) w.drew fun t50 =>
 Dv P true (Instr.sliceAt 28 t0 (some t1) none none) w.drew fun t53 =>
 Bt P .copy #[28, 28] 3 #[t50, t53] w.drew fun t54 w =>
 R (.returned t40) w)
 (Bn P .add 3 false t19 t14 w fun t59 w =>
 Sc P 28 t0 none (some t59) none w fun t60 w =>
 Bn P .add 3 false t1 t14 w fun t65 w =>
 Sc P 28 t60 (some t65) none none w fun t66 w =>
 Cl P 104 #[t2, t66] w (Pk R) fun t67 w =>
 Un P .not t67 w fun t68 w =>
 If t68
 (Dv P true (bn .add 3 false t1 t14) w.drew fun t72 =>
 Dv P true (Instr.sliceAt 28 t60 (some t72) none none) w.drew fun t73 =>
 Dv P true (Instr.sliceAt 28 t60 (some t1) none none) w.drew fun t76 =>
 Bt P .copy #[28, 28] 3 #[t73, t76] w.drew fun t77 w =>
 Sc P 28 t60 (some t1) none none w fun t80 w =>
 Bt P .copy #[28, 28] 3 #[t80, t2] w fun t82 w =>
 R (.returned t60) w)
 (Sc P 28 t60 (some t19) none none w fun t86 w =>
 Bt P .copy #[28, 28] 3 #[t86, t2] w fun t88 w =>
 Sc P 28 t60 (some t1) none none w fun t91 w =>
 Cl P 105 #[t91, t14] w (Pk R) fun t93 w =>
 R (.returned t60) w))))
theorem e_slices_Insert_api_Reader_api_Reader (h : s_slices_Insert_api_Reader_api_Reader Tryz.prog t0 t1 t2 w R) : Calls Tryz.prog 72 #[t0, t1, t2] w R :=
 en1 (.sq .z (.sq .z (.sq .z (.sq (.sq .z (.cd (.sq .z .z) .z)) (.sq .z (.sq (.sq .z (.cd (.sq .z .z) .z)) (.sq (.sq .z (.cd (.sq .z (.sq .z (.sq (.dr (.pur true 0 (.pur true 1 (.pur true 2 (.pur true 3 (.pur true 4 (.pur true 5 (.pur true 6 (.pur true 7 (.eff 8 [] .done)))))))))) (.sq .z .z)))) .z)) (.sq .z (.sq (.sq .z (.cd (.sq (.dr (.pur true 0 (.pur true 1 (.pur true 2 (.pur true 3 (.pur true 4 (.pur true 5 (.pur true 6 (.pur true 7 (.eff 8 [] .done)))))))))) (.sq .z (.sq .z .z))) .z)) (.sq .z (.sq .z (.sq .z .z)))))))))))) [t0, t1, t2] Tryz.func72 (by kernel_rfl) (by kernel_rfl) h
theorem n_slices_Insert_api_Reader_api_Reader : Enters Tryz.prog 72 := enters_of Tryz.func72 (by kernel_rfl) rfl
def s_slices_Clone_int_int (P : Program) (t0 : Value) (w : World) (R : Ending → World → Prop) : Prop :=
 Bn P .eql 25 true t0 (.slice none 0 0) w fun t4 w =>
 If t4
 (R (.returned (.slice none 0 0)) w)
 (Bs P 25 0 [] w fun t5 w =>
 Bt P .append #[25, 25] 25 #[t5, t0] w fun t7 w =>
 R (.returned t7) w)
theorem e_slices_Clone_int_int (h : s_slices_Clone_int_int Tryz.prog t0 w R) : Calls Tryz.prog 73 #[t0] w R :=
 en1 (.sq .z (.sq (.sq .z (.cd (.sq .z .z) .z)) (.sq .z .z))) [t0] Tryz.func73 (by kernel_rfl) (by kernel_rfl) h
theorem n_slices_Clone_int_int : Enters Tryz.prog 73 := enters_of Tryz.func73 (by kernel_rfl) rfl
def s_slices_IndexFunc_api_Reader_api_Reader (P : Program) (t0 t1 : Value) (w : World) (R : Ending → World → Prop) : Prop :=
 Bt P .len #[28] 3 #[t0] w fun t7 w =>
 Lp1 (.int .i64 0) w (fun t8 w k1 =>
 Bn P .lss 3 false t8 t7 w fun t9 w =>
 If t9
 (Ia P 28 t0 t8 w fun t14 w =>
 Ld P 48 t14 w fun t15 w =>
 Cw P t1 #[t15] w (Pk R) fun t16 w =>
 If t16
 (R (.returned t8) w)
 (Bn P .add 3 true t8 (.int .i64 1) w fun t18 w =>
 k1 t18 w))
 (R (.returned (.int .i64 (-1))) w))
theorem e_slices_IndexFunc_api_Reader_api_Reader (h : s_slices_IndexFunc_api_Reader_api_Reader Tryz.prog t0 t1 w R) : Calls Tryz.prog 74 #[t0, t1] w R :=
 en1 (.sq .z (.sq (.sq .z (.bk (.lp [8] [4, 5, 9, 10, 11, 12, 13, 14, 15, 16, 17, 18] (.sq .z (.sq (.cd .z .z) (.sq (.bk (.sq .z (.sq .z (.cd (.sq .z .z) .z)))) .z)))))) (.sq .z .z))) [t0, t1] Tryz.func74 (by kernel_rfl) (by kernel_rfl) h
theorem n_slices_IndexFunc_api_Reader_api_Reader : Enters Tryz.prog 74 := enters_of Tryz.func74 (by kernel_rfl) rfl
def s_shard_change_read_1 (P : Program) (t0 t1 : Value) (w : World) (R : Ending → World → Prop) : Prop :=
 Bx P 48 t0 w fun t2 w =>
 Fa P 48 t2 0 w fun t4 w =>
 Ld P 3 t4 w fun t5 w =>
 Fa P 44 t1 5 w fun t6 w =>
 Ld P 3 t6 w fun t7 w =>
 Bn P .eql 3 false t5 t7 w fun t8 w =>
 R (.returned t8) w
theorem e_shard_change_read_1 (h : s_shard_change_read_1 Tryz.prog t0 t1 w R) : Calls Tryz.prog 75 #[t0, t1] w R :=
 en1 (.sq .z (.sq .z .z)) [t0, t1] Tryz.func75 (by kernel_rfl) (by kernel_rfl) h
theorem n_shard_change_read_1 : Enters Tryz.prog 75 := enters_of Tryz.func75 (by kernel_rfl) rfl
def s_slices_Delete_api_Reader_api_Reader (P : Program) (t0 t1 t2 : Value) (w : World) (R : Ending → World → Prop) : Prop :=
 Bt P .len #[28] 3 #[t0] w fun t12 w =>
 Sc P 28 t0 (some t1) (some t2) (some t12) w fun t13 w =>
 Bn P .eql 3 false t1 t2 w fun t16 w =>
 If t16
 (R (.returned t0) w)
 (Bt P .len #[28] 3 #[t0] w fun t19 w =>
 Dv P true (Instr.sliceAt 28 t0 none (some t1) none) w.drew fun t22 =>
 Dv P true (Instr.sliceAt 28 t0 (some t2) none none) w.drew fun t25 =>
 Bt P .append #[28, 28] 28 #[t22, t25] w.drew fun t26 w =>
 Bt P .len #[28] 3 #[t26] w fun t29 w =>
 Sc P 28 t26 (some t29) (some t19) none w fun t31 w =>
 Bt P .clear #[28] 0 #[t31] w fun _ w =>
 R (.returned t26) w)
theorem e_slices_Delete_api_Reader_api_Reader (h : s_slices_Delete_api_Reader_api_Reader Tryz.prog t0 t1 t2 w R) : Calls Tryz.prog 76 #[t0, t1, t2] w R :=
 en1 (.sq .z (.sq .z (.sq (.sq .z (.cd (.sq .z .z) .z)) (.sq .z (.sq (.dr (.pur true 0 (.pur true 1 (.pur true 2 (.pur true 3 (.pur true 4 (.pur true 5 (.eff 6 [] (.pur true 7 .done))))))))) (.sq .z (.sq .z .z))))))) [t0, t1, t2] Tryz.func76 (by kernel_rfl) (by kernel_rfl) h
theorem n_slices_Delete_api_Reader_api_Reader : Enters Tryz.prog 76 := enters_of Tryz.func76 (by kernel_rfl) rfl
def s_slices_Clone_api_Held_api_Held (P : Program) (t0 : Value) (w : World) (R : Ending → World → Prop) : Prop :=
 Bn P .eql 60 true t0 (.slice none 0 0) w fun t4 w =>
 If t4
 (R (.returned (.slice none 0 0)) w)
 (Bs P 60 0 [] w fun t5 w =>
 Bt P .append #[60, 60] 60 #[t5, t0] w fun t7 w =>
 R (.returned t7) w)
theorem e_slices_Clone_api_Held_api_Held (h : s_slices_Clone_api_Held_api_Held Tryz.prog t0 w R) : Calls Tryz.prog 77 #[t0] w R :=
 en1 (.sq .z (.sq (.sq .z (.cd (.sq .z .z) .z)) (.sq .z .z))) [t0] Tryz.func77 (by kernel_rfl) (by kernel_rfl) h
theorem n_slices_Clone_api_Held_api_Held : Enters Tryz.prog 77 := enters_of Tryz.func77 (by kernel_rfl) rfl
def s_slices_Clone_api_Reader_api_Reader (P : Program) (t0 : Value) (w : World) (R : Ending → World → Prop) : Prop :=
 Bn P .eql 28 true t0 (.slice none 0 0) w fun t4 w =>
 If t4
 (R (.returned (.slice none 0 0)) w)
 (Bs P 28 0 [] w fun t5 w =>
 Bt P .append #[28, 28] 28 #[t5, t0] w fun t7 w =>
 R (.returned t7) w)
theorem e_slices_Clone_api_Reader_api_Reader (h : s_slices_Clone_api_Reader_api_Reader Tryz.prog t0 w R) : Calls Tryz.prog 78 #[t0] w R :=
 en1 (.sq .z (.sq (.sq .z (.cd (.sq .z .z) .z)) (.sq .z .z))) [t0] Tryz.func78 (by kernel_rfl) (by kernel_rfl) h
theorem n_slices_Clone_api_Reader_api_Reader : Enters Tryz.prog 78 := enters_of Tryz.func78 (by kernel_rfl) rfl
def s_slices_Clone_api_Fact_api_Fact (P : Program) (t0 : Value) (w : World) (R : Ending → World → Prop) : Prop :=
 Bn P .eql 35 true t0 (.slice none 0 0) w fun t4 w =>
 If t4
 (R (.returned (.slice none 0 0)) w)
 (Bs P 35 0 [] w fun t5 w =>
 Bt P .append #[35, 35] 35 #[t5, t0] w fun t7 w =>
 R (.returned t7) w)
theorem e_slices_Clone_api_Fact_api_Fact (h : s_slices_Clone_api_Fact_api_Fact Tryz.prog t0 w R) : Calls Tryz.prog 79 #[t0] w R :=
 en1 (.sq .z (.sq (.sq .z (.cd (.sq .z .z) .z)) (.sq .z .z))) [t0] Tryz.func79 (by kernel_rfl) (by kernel_rfl) h
theorem n_slices_Clone_api_Fact_api_Fact : Enters Tryz.prog 79 := enters_of Tryz.func79 (by kernel_rfl) rfl
def s_slices_Contains_bool_bool (P : Program) (t0 t1 : Value) (w : World) (R : Ending → World → Prop) : Prop :=
 Cl P 106 #[t0, t1] w (Pk R) fun t7 w =>
 Bn P .geq 3 true t7 (.int .i64 0) w fun t8 w =>
 R (.returned t8) w
theorem e_slices_Contains_bool_bool (h : s_slices_Contains_bool_bool Tryz.prog t0 t1 w R) : Calls Tryz.prog 80 #[t0, t1] w R :=
 en1 (.sq .z (.sq .z .z)) [t0, t1] Tryz.func80 (by kernel_rfl) (by kernel_rfl) h
theorem n_slices_Contains_bool_bool : Enters Tryz.prog 80 := enters_of Tryz.func80 (by kernel_rfl) rfl
def s_slices_pdqsortCmpFunc_api_Fact (P : Program) (t0 t1 t2 t3 t4 : Value) (w : World) (R : Ending → World → Prop) : Prop :=
 Lp5 t1 t2 t3 (.bool true) (.bool true) w (fun t1x1 t2x1 t3x1 t10 t11 w k1 =>
 Bn P .sub 3 false t2x1 t1x1 w fun t23 w =>
 Bn P .leq 3 true t23 (.int .i64 12) w fun t25 w =>
 If t25
 (Cl P 107 #[t0, t1x1, t2x1, t4] w (Pk R) fun t30 w =>
 R (.returned (.tuple #[])) w)
 (Bn P .eql 3 true t3x1 (.int .i64 0) w fun t32 w =>
 If t32
 (Cl P 108 #[t0, t1x1, t2x1, t4] w (Pk R) fun t37 w =>
 R (.returned (.tuple #[])) w)
 (Jn1 (fun k2 =>
 Un P .not t10 w fun t39 w =>
 If t39
 (Cl P 109 #[t0, t1x1, t2x1, t4] w (Pk R) fun t44 w =>
 Bn P .sub 3 true t3x1 (.int .i64 1) w fun t46 w =>
 k2 t46 w)
 (k2 t3x1 w))
 (fun t3x2 w =>
 Cl P 110 #[t0, t1x1, t2x1, t4] w (Pk R) fun t52 w =>
 Ex t52 0 w fun t53 w =>
 Ex t52 1 w fun t54 w =>
 Jn2 (fun k3 =>
 Bn P .eql 146 true t54 (.int .i64 2) w fun t56 w =>
 If t56
 (Cl P 111 #[t0, t1x1, t2x1, t4] w (Pk R) fun t61 w =>
 Bn P .sub 3 true t2x1 (.int .i64 1) w fun t63 w =>
 Bn P .sub 3 false t53 t1x1 w fun t66 w =>
 Bn P .sub 3 false t63 t66 w fun t67 w =>
 k3 t67 (.int .i64 1) w)
 (k3 t53 t54 w))
 (fun t13 t14 w =>
 Jn0 (fun k4 =>
 Gd t10 true (fun k => k t11 w) w fun t70 w =>
 Pick t10 t70 (.bool false) w fun t71 w =>
 Gd t71 true (fun k => k t14 w) w fun t73 w =>
 Gd t71 true (fun k => Bn P .eql 146 true t73 (.int .i64 1) w k) w fun t74 w =>
 Pick t71 t74 (.bool false) w fun t75 w =>
 If t75
 (Cl P 112 #[t0, t1x1, t2x1, t4] w (Pk R) fun t80 w =>
 If t80
 (R (.returned (.tuple #[])) w)
 (k4 w))
 (k4 w))
 (fun w =>
 Dv P true (bn .gtr 3 true t1x1 (.int .i64 0)) w.drew fun t82 =>
 GdP t82 true (fun k => k t4) fun t84 =>
 GdP t82 true (fun k => k t0) fun t85 =>
 GdP t82 true (fun k => k t1x1) fun t86 =>
 GdP t82 true (fun k => Dv P true (bn .sub 3 true t86 (.int .i64 1)) w.drew k) fun t87 =>
 GdP t82 true (fun k => dIx P 35 t85 t87 w.drew k) fun t88 =>
 GdP t82 true (fun k => dL P 42 t88 w.drew k) fun t89 =>
 GdP t82 true (fun k => k t0) fun t90 =>
 GdP t82 true (fun k => k t13) fun t91 =>
 GdP t82 true (fun k => dIx P 35 t90 t91 w.drew k) fun t92 =>
 GdP t82 true (fun k => dL P 42 t92 w.drew k) fun t93 =>
 Gd t82 true (fun k => Cw P t84 #[t89, t93] w.drew (Pk R) k) w.drew fun t94 w =>
 GdP t82 true (fun k => Dv P true (bn .lss 3 true t94 (.int .i64 0)) w k) fun t95 =>
 GdP t82 true (fun k => Dv P true (Op.unary .not t95) w k) fun t96 =>
 PickP t82 t96 (.bool false) fun t97 =>
 If t97
 (Cl P 113 #[t0, t1x1, t2x1, t13, t4] w (Pk R) fun t103 w =>
 k1 t103 t2x1 t3x2 t10 t11 w)
 (Cl P 114 #[t0, t1x1, t2x1, t13, t4] w (Pk R) fun t111 w =>
 Ex t111 0 w fun t112 w =>
 Ex t111 1 w fun t113 w =>
 Bn P .sub 3 false t112 t1x1 w fun t117 w =>
 Bn P .sub 3 false t2x1 t112 w fun t120 w =>
 Bn P .quo 3 true t23 (.int .i64 8) w fun t122 w =>
 Bn P .lss 3 false t117 t120 w fun t125 w =>
 If t125
 (Bn P .geq 3 false t117 t122 w fun t128 w =>
 Cl P 81 #[t0, t1x1, t112, t3x2, t4] w (Pk R) fun t134 w =>
 Bn P .add 3 true t112 (.int .i64 1) w fun t136 w =>
 k1 t136 t2x1 t3x2 t128 t113 w)
 (Bn P .geq 3 false t120 t122 w fun t139 w =>
 Bn P .add 3 true t112 (.int .i64 1) w fun t142 w =>
 Cl P 81 #[t0, t142, t2x1, t3x2, t4] w (Pk R) fun t146 w =>
 k1 t1x1 t112 t3x2 t139 t113 w))))))))
theorem e_slices_pdqsortCmpFunc_api_Fact (h : s_slices_pdqsortCmpFunc_api_Fact Tryz.prog t0 t1 t2 t3 t4 w R) : Calls Tryz.prog 81 #[t0, t1, t2, t3, t4] w R :=
 en1 (.sq .z (.sq .z (.bk (.lp [1, 2, 3, 10, 11] [12, 13, 14, 15, 16, 17, 18, 19, 20, 21, 22, 23, 24, 25, 26, 27, 28, 29, 30, 31, 32, 33, 34, 35, 36, 37, 38, 39, 40, 41, 42, 43, 44, 45, 46, 47, 48, 49, 50, 51, 52, 53, 54, 55, 56, 57, 58, 59, 60, 61, 62, 63, 64, 65, 66, 67, 68, 69, 70, 71, 72, 73, 74, 75, 76, 77, 78, 79, 80, 81, 82, 83, 84, 85, 86, 87, 88, 89, 90, 91, 92, 93, 94, 95, 96, 97, 98, 99, 100, 101, 102, 103, 104, 105, 106, 107, 108, 109, 110, 111, 112, 113, 114, 115, 116, 117, 118, 119, 120, 121, 122, 123, 124, 125, 126, 127, 128, 129, 130, 131, 132, 133, 134, 135, 136, 137, 138, 139, 140, 141, 142, 143, 144, 145, 146, 147] (.bk (.sq .z (.sq (.sq .z (.cd (.sq .z .z) .z)) (.sq (.sq .z (.cd (.sq .z .z) .z)) (.jn [3] [38, 39, 40, 41, 42, 43, 44, 45, 46] (.sq .z (.cd (.sq .z .z) .z)) (.sq .z (.jn [13, 14] [55, 56, 57, 58, 59, 60, 61, 62, 63, 64, 65, 66, 67] (.sq .z (.cd (.sq .z (.sq .z .z)) .z)) (.jn [] [68, 69, 70, 71, 72, 73, 74, 75, 76, 77, 78, 79, 80] (.sq .z (.cd (.sq .z (.cd .z .z)) .z)) (.sq (.sq (.dr (.pur true 0 (.pur true 1 (.pur true 2 (.pur true 3 (.pur true 4 (.pur true 5 (.pur true 6 (.pur true 7 (.pur false 8 (.pur true 9 (.pur true 10 (.pur true 11 (.pur false 12 (.eff 13 [] (.pur true 14 (.pur true 15 (.pur true 16 .done)))))))))))))))))) (.cd (.sq .z (.sq .z .z)) .z)) (.sq .z (.sq .z (.sq .z (.sq .z (.sq .z (.cd (.sq .z (.sq .z .z)) (.sq .z (.sq .z .z))))))))))))))))))))) [t0, t1, t2, t3, t4] Tryz.func81 (by kernel_rfl) (by kernel_rfl) h
theorem n_slices_pdqsortCmpFunc_api_Fact : Enters Tryz.prog 81 := enters_of Tryz.func81 (by kernel_rfl) rfl
theorem n_math_bits_Len : Enters Tryz.prog 82 := enters_of Tryz.func82 (by kernel_rfl) rfl
def s_cmp_Or_int (P : Program) (t0 : Value) (w : World) (R : Ending → World → Prop) : Prop :=
 Bt P .len #[25] 3 #[t0] w fun t7 w =>
 Lp1 (.int .i64 0) w (fun t8 w k1 =>
 Bn P .lss 3 false t8 t7 w fun t9 w =>
 If t9
 (Ia P 25 t0 t8 w fun t10 w =>
 Ld P 3 t10 w fun t11 w =>
 Bn P .neq 3 false t11 (.int .i64 0) w fun t14 w =>
 If t14
 (R (.returned t11) w)
 (Bn P .add 3 true t8 (.int .i64 1) w fun t16 w =>
 k1 t16 w))
 (R (.returned (.int .i64 0)) w))
theorem e_cmp_Or_int (h : s_cmp_Or_int Tryz.prog t0 w R) : Calls Tryz.prog 83 #[t0] w R :=
 en1 (.sq .z (.sq .z (.sq (.sq .z (.bk (.lp [8] [2, 5, 9, 10, 11, 12, 13, 14, 15, 16] (.sq .z (.sq (.cd .z .z) (.sq (.bk (.sq .z (.sq .z (.cd (.sq .z .z) .z)))) .z)))))) (.sq .z .z)))) [t0] Tryz.func83 (by kernel_rfl) (by kernel_rfl) h
theorem n_cmp_Or_int : Enters Tryz.prog 83 := enters_of Tryz.func83 (by kernel_rfl) rfl
def s_shard_state_route (P : Program) (t0 t1 : Value) (w : World) (R : Ending → World → Prop) : Prop :=
 Bx P 84 t0 w fun t2 w =>
 Bt P .len #[25] 3 #[t1] w fun t5 w =>
 Bn P .eql 3 true t5 (.int .i64 8) w fun t6 w =>
 Gd t6 true (fun k => k t1 w) w fun t8 w =>
 Gd t6 true (fun k => k (.func (.func 118) #[] #[t2]) w) w fun t9 w =>
 Gd t6 true (fun k => Cl P 117 #[t8, t9] w (Pk R) k) w fun t10 w =>
 Gd t6 true (fun k => Un P .not t10 w k) w fun t11 w =>
 Pick t6 t11 (.bool false) w fun t12 w =>
 Cl P 57 #[t12] w (Pk R) fun t13 w =>
 R (.returned (.tuple #[])) w
theorem e_shard_state_route (h : s_shard_state_route Tryz.prog t0 t1 w R) : Calls Tryz.prog 84 #[t0, t1] w R :=
 en1 (.sq .z .z) [t0, t1] Tryz.func84 (by kernel_rfl) (by kernel_rfl) h
theorem n_shard_state_route : Enters Tryz.prog 84 := enters_of Tryz.func84 (by kernel_rfl) rfl
def s_shard_state_move (P : Program) (t0 : Value) (w : World) (R : Ending → World → Prop) : Prop :=
 Bx P 84 t0 w fun t1 w =>
 Ld P 84 t1 w fun t13 w =>
 Nc t13 w fun t14 w =>
 Fa P 76 t14 0 w fun t15 w =>
 Fa P 30 t15 3 w fun t16 w =>
 Ld P 27 t16 w fun t17 w =>
 Al P 27 w fun t2 w =>
 Sto P 27 t2 t17 w fun w =>
 Jn2 (fun k1 =>
 Fa P 27 t2 0 w fun t18 w =>
 Ld P 3 t18 w fun t19 w =>
 Bn P .eql 3 true t19 (.int .i64 0) w fun t22 w =>
 If t22
 (Ld P 27 t2 w fun t23 w =>
 Bd P 27 [] w fun t24 w =>
 Bn P .eql 27 false t23 t24 w fun t25 w =>
 Cl P 57 #[t25] w (Pk R) fun t26 w =>
 k1 (.int .i64 (-1)) (.int .i64 (-1)) w)
 (Jn1 (fun k2 =>
 Bn P .eql 3 true t19 (.int .i64 1) w fun t28 w =>
 If t28
 (k2 t28 w)
 (Bn P .eql 3 true t19 (.int .i64 2) w fun t29 w =>
 k2 t29 w))
 (fun t27 w =>
 If t27
 (dFl P 27 t2 1 w.drew fun t30 =>
 dL P 3 t30 w.drew fun t31 =>
 Cl P 20 #[t31, (.int .i64 0), (.int .i64 7)] w.drew (Pk R) fun t32 w =>
 GdP t32 true (fun k => dFl P 27 t2 2 w k) fun t34 =>
 GdP t32 true (fun k => dL P 3 t34 w k) fun t35 =>
 GdP t32 true (fun k => dL P 84 t1 w k) fun t36 =>
 GdP t32 true (fun k => NcP t36 k) fun t37 =>
 GdP t32 true (fun k => dFl P 76 t37 0 w k) fun t38 =>
 GdP t32 true (fun k => dFl P 30 t38 0 w k) fun t39 =>
 GdP t32 true (fun k => dL P 24 t39 w k) fun t40 =>
 GdP t32 true (fun k => Dv P true (bV .len #[24] 3 #[t40]) w k) fun t41 =>
 GdP t32 true (fun k => Dv P true (bn .sub 3 true t41 (.int .i64 1)) w k) fun t42 =>
 Gd t32 true (fun k => Cl P 20 #[t35, (.int .i64 0), t42] w (Pk R) k) w fun t43 w =>
 PickP t32 t43 (.bool false) fun t44 =>
 GdP t44 true (fun k => dFl P 27 t2 3 w k) fun t46 =>
 GdP t44 true (fun k => dL P 3 t46 w k) fun t47 =>
 GdP t44 true (fun k => dL P 84 t1 w k) fun t48 =>
 GdP t44 true (fun k => NcP t48 k) fun t49 =>
 GdP t44 true (fun k => dFl P 76 t49 0 w k) fun t50 =>
 GdP t44 true (fun k => dFl P 30 t50 0 w k) fun t51 =>
 GdP t44 true (fun k => dL P 24 t51 w k) fun t52 =>
 GdP t44 true (fun k => Dv P true (bV .len #[24] 3 #[t52]) w k) fun t53 =>
 GdP t44 true (fun k => Dv P true (bn .sub 3 true t53 (.int .i64 1)) w k) fun t54 =>
 Gd t44 true (fun k => Cl P 20 #[t47, (.int .i64 0), t54] w (Pk R) k) w fun t55 w =>
 PickP t44 t55 (.bool false) fun t56 =>
 GdP t56 true (fun k => dFl P 27 t2 2 w k) fun t58 =>
 GdP t56 true (fun k => dL P 3 t58 w k) fun t59 =>
 GdP t56 true (fun k => dFl P 27 t2 3 w k) fun t60 =>
 GdP t56 true (fun k => dL P 3 t60 w k) fun t61 =>
 GdP t56 true (fun k => Dv P true (bn .neq 3 false t59 t61) w k) fun t62 =>
 PickP t56 t62 (.bool false) fun t63 =>
 Cl P 57 #[t63] w (Pk R) fun t64 w =>
 Fa P 27 t2 0 w fun t65 w =>
 Ld P 3 t65 w fun t66 w =>
 Bn P .eql 3 true t66 (.int .i64 1) w fun t67 w =>
 If t67
 (Fa P 27 t2 3 w fun t68 w =>
 Ld P 3 t68 w fun t69 w =>
 k1 (.int .i64 (-1)) t69 w)
 (Fa P 27 t2 2 w fun t70 w =>
 Ld P 3 t70 w fun t71 w =>
 k1 t71 (.int .i64 (-1)) w))
 (Cl P 57 #[(.bool false)] w (Pk R) fun t20 w =>
 k1 (.int .i64 (-1)) (.int .i64 (-1)) w))))
 (fun t3 t4 w =>
 Ld P 84 t1 w fun t72 w =>
 Nc t72 w fun t73 w =>
 Fa P 76 t73 0 w fun t74 w =>
 Fa P 30 t74 0 w fun t75 w =>
 Ld P 24 t75 w fun t76 w =>
 Bt P .len #[24] 3 #[t76] w fun t77 w =>
 Lp1 (.int .i64 0) w (fun t78 w k3 =>
 Bn P .lss 3 false t78 t77 w fun t79 w =>
 If t79
 (Ia P 24 t76 t78 w fun t81 w =>
 Ld P 60 t81 w fun t82 w =>
 Bt P .len #[60] 3 #[t82] w fun t84 w =>
 Lp1 (.int .i64 0) w (fun t85 w k4 =>
 Bn P .lss 3 false t85 t84 w fun t86 w =>
 If t86
 (Ia P 60 t82 t85 w fun t87 w =>
 Ld P 62 t87 w fun t88 w =>
 Al P 62 w fun t8 w =>
 Sto P 62 t8 t88 w fun w =>
 Fa P 62 t8 0 w fun t89 w =>
 Fa P 42 t89 0 w fun t90 w =>
 Ld P 3 t90 w fun t91 w =>
 Cl P 17 #[t91] w (Pk R) fun t92 w =>
 Ld P 84 t1 w fun t93 w =>
 Nc t93 w fun t94 w =>
 Fa P 76 t94 0 w fun t95 w =>
 Fa P 30 t95 1 w fun t96 w =>
 Ld P 25 t96 w fun t97 w =>
 Ia P 25 t97 t92 w fun t99 w =>
 Ld P 3 t99 w fun t100 w =>
 Bn P .eql 3 false t100 t78 w fun t102 w =>
 Gd t102 false (fun k => k t92 w) w fun t104 w =>
 Gd t102 false (fun k => Fa P 27 t2 1 w k) w fun t105 w =>
 Gd t102 false (fun k => Ld P 3 t105 w k) w fun t106 w =>
 Gd t102 false (fun k => Bn P .eql 3 false t104 t106 w k) w fun t107 w =>
 Gd t102 false (fun k => k t107 w) w fun t108 w =>
 Gd t108 true (fun k => k t78 w) w fun t109 w =>
 Gd t108 true (fun k => k t3 w) w fun t110 w =>
 Gd t108 true (fun k => Bn P .eql 3 false t109 t110 w k) w fun t111 w =>
 Gd t108 true (fun k => k t111 w) w fun t112 w =>
 Gd t112 false (fun k => k t78 w) w fun t113 w =>
 Gd t112 false (fun k => k t4 w) w fun t114 w =>
 Gd t112 false (fun k => Bn P .eql 3 false t113 t114 w k) w fun t115 w =>
 Gd t108 true (fun k => Pick t112 (.bool true) t115 w k) w fun t116 w =>
 Gd t102 false (fun k => Pick t108 t116 (.bool false) w k) w fun t117 w =>
 Pick t102 (.bool true) t117 w fun t118 w =>
 Cl P 57 #[t118] w (Pk R) fun t119 w =>
 Bn P .add 3 true t85 (.int .i64 1) w fun t120 w =>
 k4 t120 w)
 (Bn P .add 3 true t78 (.int .i64 1) w fun t121 w =>
 k3 t121 w)))
 (Jn0 (fun k5 =>
 Fa P 27 t2 0 w fun t122 w =>
 Ld P 3 t122 w fun t123 w =>
 Bn P .eql 3 true t123 (.int .i64 1) w fun t124 w =>
 If t124
 (dL P 84 t1 w.drew fun t125 =>
 NcP t125 fun t126 =>
 dFl P 76 t126 0 w.drew fun t127 =>
 dFl P 30 t127 0 w.drew fun t128 =>
 dL P 24 t128 w.drew fun t129 =>
 dFl P 27 t2 2 w.drew fun t130 =>
 dL P 3 t130 w.drew fun t131 =>
 dIx P 24 t129 t131 w.drew fun t132 =>
 dL P 60 t132 w.drew fun t133 =>
 dFl P 27 t2 1 w.drew fun t134 =>
 dL P 3 t134 w.drew fun t135 =>
 Cl P 61 #[t133, t135] w.drew (Pk R) fun t136 w =>
 Cl P 100 #[t136, (.func (.func 119) #[] #[t2])] w (Pk R) fun t139 w =>
 dL P 84 t1 w.drew fun t140 =>
 NcP t140 fun t141 =>
 dFl P 76 t141 0 w.drew fun t142 =>
 dFl P 30 t142 1 w.drew fun t143 =>
 dL P 25 t143 w.drew fun t144 =>
 dFl P 27 t2 1 w.drew fun t145 =>
 dL P 3 t145 w.drew fun t146 =>
 dIx P 25 t144 t146 w.drew fun t147 =>
 dL P 3 t147 w.drew fun t148 =>
 dFl P 27 t2 2 w.drew fun t149 =>
 dL P 3 t149 w.drew fun t150 =>
 Dv P true (bn .eql 3 false t148 t150) w.drew fun t151 =>
 GdP t151 true (fun k => dFl P 27 t2 4 w.drew k) fun t153 =>
 GdP t151 true (fun k => dL P 3 t153 w.drew k) fun t154 =>
 GdP t151 true (fun k => dL P 84 t1 w.drew k) fun t155 =>
 GdP t151 true (fun k => NcP t155 k) fun t156 =>
 GdP t151 true (fun k => dFl P 76 t156 0 w.drew k) fun t157 =>
 GdP t151 true (fun k => dFl P 30 t157 2 w.drew k) fun t158 =>
 GdP t151 true (fun k => dL P 3 t158 w.drew k) fun t159 =>
 GdP t151 true (fun k => Dv P true (bn .sub 3 true t159 (.int .i64 1)) w.drew k) fun t160 =>
 Gd t151 true (fun k => Cl P 20 #[t154, (.int .i64 (-1)), t160] w.drew (Pk R) k) w.drew fun t161 w =>
 PickP t151 t161 (.bool false) fun t162 =>
 GdP t162 true (fun k => k t139) fun t164 =>
 GdP t162 true (fun k => dL P 84 t1 w k) fun t165 =>
 GdP t162 true (fun k => NcP t165 k) fun t166 =>
 GdP t162 true (fun k => dFl P 76 t166 0 w k) fun t167 =>
 GdP t162 true (fun k => dFl P 30 t167 0 w k) fun t168 =>
 GdP t162 true (fun k => dL P 24 t168 w k) fun t169 =>
 GdP t162 true (fun k => dFl P 27 t2 3 w k) fun t170 =>
 GdP t162 true (fun k => dL P 3 t170 w k) fun t171 =>
 GdP t162 true (fun k => dIx P 24 t169 t171 w k) fun t172 =>
 GdP t162 true (fun k => dL P 60 t172 w k) fun t173 =>
 GdP t162 true (fun k => dFl P 27 t2 1 w k) fun t174 =>
 GdP t162 true (fun k => dL P 3 t174 w k) fun t175 =>
 Gd t162 true (fun k => Cl P 61 #[t173, t175] w (Pk R) k) w fun t176 w =>
 Gd t162 true (fun k => Cl P 38 #[t164, t176] w (Pk R) k) w fun t177 w =>
 PickP t162 t177 (.bool false) fun t178 =>
 Cl P 57 #[t178] w (Pk R) fun t179 w =>
 k5 w)
 (k5 w))
 (fun w =>
 Fa P 27 t2 0 w fun t180 w =>
 Ld P 3 t180 w fun t181 w =>
 Bn P .eql 3 true t181 (.int .i64 2) w fun t182 w =>
 If t182
 (dL P 84 t1 w.drew fun t183 =>
 NcP t183 fun t184 =>
 dFl P 76 t184 0 w.drew fun t185 =>
 dFl P 30 t185 0 w.drew fun t186 =>
 dL P 24 t186 w.drew fun t187 =>
 dFl P 27 t2 2 w.drew fun t188 =>
 dL P 3 t188 w.drew fun t189 =>
 dIx P 24 t187 t189 w.drew fun t190 =>
 dL P 60 t190 w.drew fun t191 =>
 dFl P 27 t2 1 w.drew fun t192 =>
 dL P 3 t192 w.drew fun t193 =>
 Cl P 61 #[t191, t193] w.drew (Pk R) fun t194 w =>
 dL P 84 t1 w.drew fun t196 =>
 NcP t196 fun t197 =>
 dFl P 76 t197 0 w.drew fun t198 =>
 dFl P 30 t198 1 w.drew fun t199 =>
 dL P 25 t199 w.drew fun t200 =>
 dFl P 27 t2 1 w.drew fun t201 =>
 dL P 3 t201 w.drew fun t202 =>
 dIx P 25 t200 t202 w.drew fun t203 =>
 dL P 3 t203 w.drew fun t204 =>
 dFl P 27 t2 3 w.drew fun t205 =>
 dL P 3 t205 w.drew fun t206 =>
 Dv P true (bn .eql 3 false t204 t206) w.drew fun t207 =>
 GdP t207 true (fun k => dFl P 27 t2 4 w.drew k) fun t209 =>
 GdP t207 true (fun k => dL P 3 t209 w.drew k) fun t210 =>
 GdP t207 true (fun k => Dv P true (bn .eql 3 true t210 (.int .i64 0)) w.drew k) fun t211 =>
 PickP t207 t211 (.bool false) fun t212 =>
 GdP t212 true (fun k => k t194) fun t214 =>
 GdP t212 true (fun k => Dv P true (bV .len #[60] 3 #[t214]) w.drew k) fun t215 =>
 GdP t212 true (fun k => Dv P true (bn .gtr 3 true t215 (.int .i64 0)) w.drew k) fun t216 =>
 PickP t212 t216 (.bool false) fun t217 =>
 GdP t217 true (fun k => k t194) fun t219 =>
 GdP t217 true (fun k => k (.func (.func 120) #[] #[t1, t2])) fun t220 =>
 Gd t217 true (fun k => Cl P 59 #[t219, t220] w.drew (Pk R) k) w.drew fun t221 w =>
 GdP t217 true (fun k => Dv P true (Op.unary .not t221) w k) fun t222 =>
 PickP t217 t222 (.bool false) fun t223 =>
 Cl P 57 #[t223] w (Pk R) fun t224 w =>
 R (.returned (.tuple #[])) w)
 (R (.returned (.tuple #[])) w)))))
theorem e_shard_state_move (h : s_shard_state_move Tryz.prog t0 w R) : Calls Tryz.prog 85 #[t0] w R :=
 en1 (.sq .z (.sq .z (.sq .z (.jn [3, 4] [18, 19, 20, 21, 22, 23, 24, 25, 26, 27, 28, 29, 30, 31, 32, 33, 34, 35, 36, 37, 38, 39, 40, 41, 42, 43, 44, 45, 46, 47, 48, 49, 50, 51, 52, 53, 54, 55, 56, 57, 58, 59, 60, 61, 62, 63, 64, 65, 66, 67, 68, 69, 70, 71] (.sq .z (.bk (.sq .z (.cd .z (.jn [27] [28, 29] (.sq .z (.cd .z .z)) (.cd (.sq (.dr (.pur true 0 (.pur false 1 (.eff 2 [] (.pur true 3 (.pur true 4 (.pur false 5 (.pur false 6 (.pur true 7 (.pur true 8 (.pur true 9 (.pur false 10 (.pur true 11 (.pur true 12 (.eff 13 [] (.pur true 14 (.pur true 15 (.pur true 16 (.pur false 17 (.pur false 18 (.pur true 19 (.pur true 20 (.pur true 21 (.pur false 22 (.pur true 23 (.pur true 24 (.eff 25 [] (.pur true 26 (.pur true 27 (.pur true 28 (.pur false 29 (.pur true 30 (.pur false 31 (.pur true 32 (.pur true 33 (.eff 34 [] .done)))))))))))))))))))))))))))))))))))) (.sq .z (.cd .z .z))) .z)))))) (.sq (.sq .z (.bk (.lp [78] [5, 6, 8, 9, 79, 80, 81, 82, 83, 84, 85, 86, 87, 88, 89, 90, 91, 92, 93, 94, 95, 96, 97, 98, 99, 100, 101, 102, 103, 104, 105, 106, 107, 108, 109, 110, 111, 112, 113, 114, 115, 116, 117, 118, 119, 120, 121] (.sq .z (.sq (.cd .z .z) (.sq (.bk (.sq .z (.sq .z (.bk (.lp [85] [8, 9, 86, 87, 88, 89, 90, 91, 92, 93, 94, 95, 96, 97, 98, 99, 100, 101, 102, 103, 104, 105, 106, 107, 108, 109, 110, 111, 112, 113, 114, 115, 116, 117, 118, 119, 120] (.sq .z (.sq (.cd .z .z) (.sq (.bk (.sq .z (.sq .z .z))) .z)))))))) .z)))))) (.jn [] [10, 122, 123, 124, 125, 126, 127, 128, 129, 130, 131, 132, 133, 134, 135, 136, 137, 138, 139, 140, 141, 142, 143, 144, 145, 146, 147, 148, 149, 150, 151, 152, 153, 154, 155, 156, 157, 158, 159, 160, 161, 162, 163, 164, 165, 166, 167, 168, 169, 170, 171, 172, 173, 174, 175, 176, 177, 178, 179] (.sq .z (.cd (.sq (.dr (.pur false 0 (.pur true 1 (.pur true 2 (.pur true 3 (.pur false 4 (.pur true 5 (.pur false 6 (.pur true 7 (.pur false 8 (.pur true 9 (.pur false 10 (.eff 11 [] (.pur true 12 .done)))))))))))))) (.sq .z (.dr (.pur false 0 (.pur true 1 (.pur true 2 (.pur true 3 (.pur false 4 (.pur true 5 (.pur false 6 (.pur true 7 (.pur false 8 (.pur true 9 (.pur false 10 (.pur true 11 (.pur true 12 (.pur true 13 (.pur false 14 (.pur false 15 (.pur true 16 (.pur true 17 (.pur true 18 (.pur false 19 (.pur true 20 (.eff 21 [] (.pur true 22 (.pur true 23 (.pur true 24 (.pur false 25 (.pur true 26 (.pur true 27 (.pur true 28 (.pur false 29 (.pur true 30 (.pur false 31 (.pur true 32 (.pur false 33 (.pur true 34 (.pur false 35 (.eff 36 [] (.eff 37 [] (.pur true 38 (.eff 39 [] .done))))))))))))))))))))))))))))))))))))))))))) .z)) (.sq .z (.cd (.sq (.dr (.pur false 0 (.pur true 1 (.pur true 2 (.pur true 3 (.pur false 4 (.pur true 5 (.pur false 6 (.pur true 7 (.pur false 8 (.pur true 9 (.pur false 10 (.eff 11 [] (.pur true 12 .done)))))))))))))) (.sq .z (.dr (.pur false 0 (.pur true 1 (.pur true 2 (.pur true 3 (.pur false 4 (.pur true 5 (.pur false 6 (.pur true 7 (.pur false 8 (.pur true 9 (.pur false 10 (.pur true 11 (.pur true 12 (.pur true 13 (.pur false 14 (.pur true 15 (.pur true 16 (.pur true 17 (.pur true 18 (.pur true 19 (.pur true 20 (.pur true 21 (.pur true 22 (.pur true 23 (.pur true 24 (.eff 25 [] (.pur true 26 (.pur true 27 (.eff 28 [] .done)))))))))))))))))))))))))))))))) .z)))))))) [t0] Tryz.func85 (by kernel_rfl) (by kernel_rfl) h
theorem n_shard_state_move : Enters Tryz.prog 85 := enters_of Tryz.func85 (by kernel_rfl) rfl
def s_shard_state_reader (P : Program) (t0 t1 t2 : Value) (w : World) (R : Ending → World → Prop) : Prop :=
 Bx P 48 t1 w fun t4 w =>
 dFl P 48 t4 0 w.drew fun t10 =>
 dL P 3 t10 w.drew fun t11 =>
 Cl P 20 #[t11, (.int .i64 0), (.int .i64 99)] w.drew (Pk R) fun t12 w =>
 GdP t12 true (fun k => dFl P 48 t4 1 w k) fun t14 =>
 GdP t12 true (fun k => dL P 3 t14 w k) fun t15 =>
 GdP t12 true (fun k => k t0) fun t16 =>
 GdP t12 true (fun k => NcP t16 k) fun t17 =>
 GdP t12 true (fun k => dFl P 76 t17 0 w k) fun t18 =>
 GdP t12 true (fun k => dFl P 30 t18 2 w k) fun t19 =>
 GdP t12 true (fun k => dL P 3 t19 w k) fun t20 =>
 Gd t12 true (fun k => Cl P 20 #[t15, (.int .i64 0), t20] w (Pk R) k) w fun t21 w =>
 PickP t12 t21 (.bool false) fun t22 =>
 GdP t22 true (fun k => dFl P 48 t4 3 w k) fun t24 =>
 GdP t22 true (fun k => dL P 3 t24 w k) fun t25 =>
 GdP t22 true (fun k => k t0) fun t26 =>
 GdP t22 true (fun k => NcP t26 k) fun t27 =>
 GdP t22 true (fun k => dFl P 76 t27 0 w k) fun t28 =>
 GdP t22 true (fun k => dFl P 30 t28 0 w k) fun t29 =>
 GdP t22 true (fun k => dL P 24 t29 w k) fun t30 =>
 GdP t22 true (fun k => Dv P true (bV .len #[24] 3 #[t30]) w k) fun t31 =>
 GdP t22 true (fun k => Dv P true (bn .sub 3 true t31 (.int .i64 1)) w k) fun t32 =>
 Gd t22 true (fun k => Cl P 20 #[t25, (.int .i64 0), t32] w (Pk R) k) w fun t33 w =>
 PickP t22 t33 (.bool false) fun t34 =>
 Cl P 57 #[t34] w (Pk R) fun t35 w =>
 Fa P 48 t4 2 w fun t37 w =>
 Ld P 25 t37 w fun t38 w =>
 Cl P 84 #[t0, t38] w (Pk R) fun t39 w =>
 Fa P 48 t4 1 w fun t41 w =>
 Ld P 3 t41 w fun t42 w =>
 Sc P 60 t2 none (some t42) none w fun t43 w =>
 Bt P .len #[60] 3 #[t43] w fun t44 w =>
 Lp2 (.slice none 0 0) (.int .i64 0) w (fun t6 t45 w k1 =>
 Bn P .lss 3 false t45 t44 w fun t46 w =>
 If t46
 (Ia P 60 t43 t45 w fun t47 w =>
 Ld P 62 t47 w fun t48 w =>
 Al P 62 w fun t8 w =>
 Sto P 62 t8 t48 w fun w =>
 dFl P 48 t4 2 w.drew fun t49 =>
 dL P 25 t49 w.drew fun t50 =>
 dFl P 62 t8 0 w.drew fun t51 =>
 dFl P 42 t51 0 w.drew fun t52 =>
 dL P 3 t52 w.drew fun t53 =>
 Cl P 17 #[t53] w.drew (Pk R) fun t54 w =>
 kLd P 25 t49 t50 w <|
 dIx P 25 t50 t54 w fun t55 =>
 dL P 3 t55 w fun t56 =>
 Fa P 48 t4 3 w fun t58 w =>
 Ld P 3 t58 w fun t59 w =>
 Bn P .lss 3 false t56 t59 w fun t60 w =>
 If t60
 (Fa P 62 t8 0 w fun t62 w =>
 Ld P 42 t62 w fun t63 w =>
 Bs P 35 1 [(0, t63)] w fun t64 w =>
 Bt P .append #[35, 35] 35 #[t6, t64] w fun t65 w =>
 Bn P .add 3 true t45 (.int .i64 1) w fun t77 w =>
 k1 t65 t77 w)
 (NcP t0 fun t67 =>
 dFl P 76 t67 0 w.drew fun t68 =>
 dFl P 30 t68 0 w.drew fun t69 =>
 dL P 24 t69 w.drew fun t70 =>
 dIx P 24 t70 t56 w.drew fun t72 =>
 dL P 60 t72 w.drew fun t73 =>
 dL P 62 t8 w.drew fun t74 =>
 Cl P 121 #[t73, t74] w.drew (Pk R) fun t75 w =>
 Cl P 57 #[t75] w (Pk R) fun t76 w =>
 Bn P .add 3 true t45 (.int .i64 1) w fun t77x1 w =>
 k1 t6 t77x1 w))
 (Cl P 44 #[t6, (.func (.func 45) #[] #[])] w (Pk R) fun t79 w =>
 Fa P 48 t4 4 w fun t81 w =>
 Ld P 35 t81 w fun t82 w =>
 Cl P 42 #[t6, t82] w (Pk R) fun t83 w =>
 Cl P 57 #[t83] w (Pk R) fun t84 w =>
 R (.returned (.tuple #[])) w))
theorem e_shard_state_reader (h : s_shard_state_reader Tryz.prog t0 t1 t2 w R) : Calls Tryz.prog 86 #[t0, t1, t2] w R :=
 en1 (.sq .z (.sq (.dr (.pur true 0 (.pur false 1 (.eff 2 [] (.pur true 3 (.pur true 4 (.pur false 5 (.pur true 6 (.pur true 7 (.pur true 8 (.pur true 9 (.pur false 10 (.eff 11 [] (.pur true 12 (.pur true 13 (.pur true 14 (.pur false 15 (.pur true 16 (.pur true 17 (.pur true 18 (.pur true 19 (.pur false 20 (.pur true 21 (.pur true 22 (.eff 23 [] (.pur true 24 (.eff 25 [] .done))))))))))))))))))))))))))) (.sq .z (.sq .z (.sq (.sq .z (.bk (.lp [6, 45] [8, 9, 46, 47, 48, 49, 50, 51, 52, 53, 54, 55, 56, 57, 58, 59, 60, 61, 62, 63, 64, 65, 66, 67, 68, 69, 70, 71, 72, 73, 74, 75, 76, 77] (.sq .z (.sq (.cd .z .z) (.sq (.bk (.sq .z (.sq (.dr (.pur true 0 (.pur false 1 (.pur true 2 (.pur true 3 (.pur false 4 (.eff 5 [1] (.pur true 6 (.pur false 7 (.pur true 8 .done)))))))))) (.sq .z (.cd .z (.dr (.pur true 0 (.pur true 1 (.pur true 2 (.pur true 3 (.pur false 4 (.pur true 5 (.pur true 6 (.pur false 7 (.pur false 8 (.eff 9 [] (.eff 10 [] .done))))))))))))))))) .z)))))) (.sq .z .z)))))) [t0, t1, t2] Tryz.func86 (by kernel_rfl) (by kernel_rfl) h
theorem n_shard_state_reader : Enters Tryz.prog 86 := enters_of Tryz.func86 (by kernel_rfl) rfl
def s_ref37_route (P : Program) (t0 t1 : Value) (w : World) (R : Ending → World → Prop) : Prop :=
 Lp1 (.int .i64 0) w (fun t5 w k1 =>
 Bt P .len #[25] 3 #[t0] w fun t8 w =>
 Bn P .lss 3 false t5 t8 w fun t9 w =>
 If t9
 (Ia P 25 t0 t5 w fun t14 w =>
 Ld P 3 t14 w fun t15 w =>
 Bn P .sub 3 true t1 (.int .i64 1) w fun t17 w =>
 Cl P 48 #[t15, (.int .i64 0), t17] w (Pk R) fun t18 w =>
 Un P .not t18 w fun t19 w =>
 If t19
 (R (.returned (.bool false)) w)
 (Bn P .add 3 true t5 (.int .i64 1) w fun t11 w =>
 k1 t11 w))
 (Bt P .len #[25] 3 #[t0] w fun t21 w =>
 Bn P .eql 3 true t21 (.int .i64 8) w fun t22 w =>
 R (.returned t22) w))
theorem e_ref37_route (h : s_ref37_route Tryz.prog t0 t1 w R) : Calls Tryz.prog 87 #[t0, t1] w R :=
 en1 (.sq .z (.sq (.sq .z (.bk (.lp [5] [4, 6, 7, 8, 9, 10, 11, 12, 13, 14, 15, 16, 17, 18, 19] (.sq (.sq .z (.cd .z .z)) (.sq (.bk (.sq .z (.cd (.sq .z .z) .z))) .z))))) (.sq .z .z))) [t0, t1] Tryz.func87 (by kernel_rfl) (by kernel_rfl) h
theorem n_ref37_route : Enters Tryz.prog 87 := enters_of Tryz.func87 (by kernel_rfl) rfl
def s_ref37_stores (P : Program) (t0 : Value) (w : World) (R : Ending → World → Prop) : Prop :=
 Bx P 30 t0 w fun t1 w =>
 Lp1 (.int .i64 0) w (fun t3 w k1 =>
 Fa P 30 t1 0 w fun t9 w =>
 Ld P 24 t9 w fun t10 w =>
 Bt P .len #[24] 3 #[t10] w fun t11 w =>
 Bn P .lss 3 false t3 t11 w fun t12 w =>
 If t12
 (Fa P 30 t1 0 w fun t15 w =>
 Ld P 24 t15 w fun t16 w =>
 Ia P 24 t16 t3 w fun t18 w =>
 Ld P 60 t18 w fun t19 w =>
 Lp1 (.int .i64 0) w (fun t5 w k2 =>
 Bt P .len #[60] 3 #[t19] w fun t22 w =>
 Bn P .lss 3 false t5 t22 w fun t23 w =>
 If t23
 (dIx P 60 t19 t5 w.drew fun t28 =>
 dFl P 62 t28 0 w.drew fun t29 =>
 dL P 42 t29 w.drew fun t30 =>
 Cl P 52 #[t30] w.drew (Pk R) fun t31 w =>
 Dv P true (Op.unary .not t31) w fun t32 =>
 GdP t32 false (fun k => k t19) fun t34 =>
 GdP t32 false (fun k => k t5) fun t35 =>
 GdP t32 false (fun k => dIx P 60 t34 t35 w k) fun t36 =>
 GdP t32 false (fun k => dFl P 62 t36 1 w k) fun t37 =>
 GdP t32 false (fun k => dL P 3 t37 w k) fun t38 =>
 GdP t32 false (fun k => dFl P 30 t1 2 w k) fun t39 =>
 GdP t32 false (fun k => dL P 3 t39 w k) fun t40 =>
 GdP t32 false (fun k => Dv P true (bn .sub 3 true t40 (.int .i64 1)) w k) fun t41 =>
 Gd t32 false (fun k => Cl P 48 #[t38, (.int .i64 0), t41] w (Pk R) k) w fun t42 w =>
 GdP t32 false (fun k => Dv P true (Op.unary .not t42) w k) fun t43 =>
 PickP t32 (.bool true) t43 fun t44 =>
 GdP t44 false (fun k => k t5) fun t46 =>
 GdP t44 false (fun k => Dv P true (bn .gtr 3 true t46 (.int .i64 0)) w k) fun t47 =>
 GdP t44 false (fun k => k t47) fun t48 =>
 GdP t48 true (fun k => k t19) fun t49 =>
 GdP t48 true (fun k => k t5) fun t50 =>
 GdP t48 true (fun k => dIx P 60 t49 t50 w k) fun t51 =>
 GdP t48 true (fun k => dFl P 62 t51 1 w k) fun t52 =>
 GdP t48 true (fun k => dL P 3 t52 w k) fun t53 =>
 GdP t48 true (fun k => k t19) fun t54 =>
 GdP t48 true (fun k => k t5) fun t55 =>
 GdP t48 true (fun k => Dv P true (bn .sub 3 true t55 (.int .i64 1)) w k) fun t56 =>
 GdP t48 true (fun k => dIx P 60 t54 t56 w k) fun t57 =>
 GdP t48 true (fun k => dFl P 62 t57 1 w k) fun t58 =>
 GdP t48 true (fun k => dL P 3 t58 w k) fun t59 =>
 GdP t48 true (fun k => Dv P true (bn .leq 3 false t53 t59) w k) fun t60 =>
 GdP t44 false (fun k => PickP t48 t60 (.bool false) k) fun t61 =>
 PickP t44 (.bool true) t61 fun t62 =>
 GdP t62 false (fun k => k t19) fun t64 =>
 GdP t62 false (fun k => k t5) fun t65 =>
 GdP t62 false (fun k => Dv P true (Instr.sliceAt 60 t64 none (some t65) none) w k) fun t66 =>
 GdP t62 false (fun k => k t19) fun t67 =>
 GdP t62 false (fun k => k t5) fun t68 =>
 GdP t62 false (fun k => dIx P 60 t67 t68 w k) fun t69 =>
 GdP t62 false (fun k => dFl P 62 t69 0 w k) fun t70 =>
 GdP t62 false (fun k => dL P 42 t70 w k) fun t71 =>
 Gd t62 false (fun k => Cl P 54 #[t66, t71] w (Pk R) k) w fun t72 w =>
 PickP t62 (.bool true) t72 fun t73 =>
 If t73
 (R (.returned (.bool false)) w)
 (Bn P .add 3 true t5 (.int .i64 1) w fun t25 w =>
 k2 t25 w))
 (Bn P .add 3 true t3 (.int .i64 1) w fun t14 w =>
 k1 t14 w)))
 (Ld P 30 t1 w fun t74 w =>
 Cl P 122 #[t74] w (Pk R) fun t75 w =>
 Lp1 (.int .i64 0) w (fun t7 w k3 =>
 Bt P .len #[60] 3 #[t75] w fun t78 w =>
 Bn P .lss 3 false t7 t78 w fun t79 w =>
 If t79
 (Ia P 60 t75 t7 w fun t84 w =>
 Fa P 62 t84 1 w fun t85 w =>
 Ld P 3 t85 w fun t86 w =>
 Bn P .neq 3 false t86 t7 w fun t88 w =>
 If t88
 (R (.returned (.bool false)) w)
 (Bn P .add 3 true t7 (.int .i64 1) w fun t81 w =>
 k3 t81 w))
 (Bt P .len #[60] 3 #[t75] w fun t90 w =>
 Fa P 30 t1 2 w fun t91 w =>
 Ld P 3 t91 w fun t92 w =>
 Bn P .eql 3 false t90 t92 w fun t93 w =>
 R (.returned t93) w))))
theorem e_ref37_stores (h : s_ref37_stores Tryz.prog t0 w R) : Calls Tryz.prog 88 #[t0] w R :=
 en1 (.sq .z (.sq (.sq .z (.bk (.lp [3] [2, 4, 5, 8, 9, 10, 11, 12, 13, 14, 15, 16, 17, 18, 19, 20, 21, 22, 23, 24, 25, 26, 27, 28, 29, 30, 31, 32, 33, 34, 35, 36, 37, 38, 39, 40, 41, 42, 43, 44, 45, 46, 47, 48, 49, 50, 51, 52, 53, 54, 55, 56, 57, 58, 59, 60, 61, 62, 63, 64, 65, 66, 67, 68, 69, 70, 71, 72, 73] (.sq (.sq .z (.cd .z .z)) (.sq (.bk (.sq .z (.sq .z (.bk (.lp [5] [2, 20, 21, 22, 23, 24, 25, 26, 27, 28, 29, 30, 31, 32, 33, 34, 35, 36, 37, 38, 39, 40, 41, 42, 43, 44, 45, 46, 47, 48, 49, 50, 51, 52, 53, 54, 55, 56, 57, 58, 59, 60, 61, 62, 63, 64, 65, 66, 67, 68, 69, 70, 71, 72, 73] (.sq (.sq .z (.cd .z .z)) (.sq (.bk (.sq (.dr (.pur true 0 (.pur true 1 (.pur true 2 (.pur true 3 (.pur false 4 (.eff 5 [] (.pur true 6 (.pur true 7 (.pur true 8 (.pur true 9 (.pur true 10 (.pur true 11 (.pur false 12 (.pur true 13 (.pur false 14 (.pur true 15 (.eff 16 [] (.pur true 17 (.pur true 18 (.pur true 19 (.pur true 20 (.pur true 21 (.pur true 22 (.pur true 23 (.pur true 24 (.pur true 25 (.pur true 26 (.pur false 27 (.pur true 28 (.pur true 29 (.pur true 30 (.pur true 31 (.pur true 32 (.pur false 33 (.pur true 34 (.pur true 35 (.pur true 36 (.pur true 37 (.pur true 38 (.pur true 39 (.pur true 40 (.pur true 41 (.pur true 42 (.pur true 43 (.pur true 44 (.pur false 45 (.eff 46 [] (.pur true 47 .done))))))))))))))))))))))))))))))))))))))))))))))))) (.cd (.sq .z .z) .z))) .z))))))) .z))))) (.sq .z (.sq (.sq .z (.bk (.lp [7] [2, 76, 77, 78, 79, 80, 81, 82, 83, 84, 85, 86, 87, 88] (.sq (.sq .z (.cd .z .z)) (.sq (.bk (.sq .z (.cd (.sq .z .z) .z))) .z))))) (.sq .z .z))))) [t0] Tryz.func88 (by kernel_rfl) (by kernel_rfl) h
theorem n_ref37_stores : Enters Tryz.prog 88 := enters_of Tryz.func88 (by kernel_rfl) rfl
def s_ref37_move (P : Program) (t0 : Value) (w : World) (R : Ending → World → Prop) : Prop :=
 Bx P 30 t0 w fun t1 w =>
 Fa P 30 t1 3 w fun t11 w =>
 Ld P 27 t11 w fun t12 w =>
 Al P 27 w fun t3 w =>
 Sto P 27 t3 t12 w fun w =>
 Fa P 27 t3 0 w fun t13 w =>
 Ld P 3 t13 w fun t14 w =>
 Bn P .eql 3 true t14 (.int .i64 0) w fun t15 w =>
 Gd t15 true (fun k => Fa P 27 t3 1 w k) w fun t17 w =>
 Gd t15 true (fun k => Ld P 3 t17 w k) w fun t18 w =>
 Gd t15 true (fun k => Bn P .neq 3 true t18 (.int .i64 0) w k) w fun t19 w =>
 Gd t15 true (fun k => k t19 w) w fun t20 w =>
 Gd t20 false (fun k => Fa P 27 t3 2 w k) w fun t21 w =>
 Gd t20 false (fun k => Ld P 3 t21 w k) w fun t22 w =>
 Gd t20 false (fun k => Bn P .neq 3 true t22 (.int .i64 0) w k) w fun t23 w =>
 Gd t15 true (fun k => Pick t20 (.bool true) t23 w k) w fun t24 w =>
 Gd t15 true (fun k => k t24 w) w fun t25 w =>
 Gd t25 false (fun k => Fa P 27 t3 3 w k) w fun t26 w =>
 Gd t25 false (fun k => Ld P 3 t26 w k) w fun t27 w =>
 Gd t25 false (fun k => Bn P .neq 3 true t27 (.int .i64 0) w k) w fun t28 w =>
 Gd t15 true (fun k => Pick t25 (.bool true) t28 w k) w fun t29 w =>
 Gd t15 true (fun k => k t29 w) w fun t30 w =>
 Gd t30 false (fun k => Fa P 27 t3 4 w k) w fun t31 w =>
 Gd t30 false (fun k => Ld P 3 t31 w k) w fun t32 w =>
 Gd t30 false (fun k => Bn P .neq 3 true t32 (.int .i64 0) w k) w fun t33 w =>
 Gd t15 true (fun k => Pick t30 (.bool true) t33 w k) w fun t34 w =>
 Pick t15 t34 (.bool false) w fun t35 w =>
 If t35
 (R (.returned (.bool false)) w)
 (Fa P 27 t3 0 w fun t36 w =>
 Ld P 3 t36 w fun t37 w =>
 Bn P .neq 3 true t37 (.int .i64 0) w fun t38 w =>
 Gd t38 true (fun k => Fa P 27 t3 0 w k) w fun t40 w =>
 Gd t38 true (fun k => Ld P 3 t40 w k) w fun t41 w =>
 Gd t38 true (fun k => Cl P 48 #[t41, (.int .i64 1), (.int .i64 2)] w (Pk R) k) w fun t42 w =>
 Gd t38 true (fun k => Un P .not t42 w k) w fun t43 w =>
 Gd t38 true (fun k => k t43 w) w fun t44 w =>
 Gd t44 false (fun k => Fa P 27 t3 1 w k) w fun t45 w =>
 Gd t44 false (fun k => Ld P 3 t45 w k) w fun t46 w =>
 Gd t44 false (fun k => Cl P 48 #[t46, (.int .i64 0), (.int .i64 7)] w (Pk R) k) w fun t47 w =>
 Gd t44 false (fun k => Un P .not t47 w k) w fun t48 w =>
 Gd t38 true (fun k => Pick t44 (.bool true) t48 w k) w fun t49 w =>
 Gd t38 true (fun k => k t49 w) w fun t50 w =>
 Gd t50 false (fun k => Fa P 27 t3 2 w k) w fun t51 w =>
 Gd t50 false (fun k => Ld P 3 t51 w k) w fun t52 w =>
 Gd t50 false (fun k => Fa P 30 t1 0 w k) w fun t53 w =>
 Gd t50 false (fun k => Ld P 24 t53 w k) w fun t54 w =>
 Gd t50 false (fun k => Bt P .len #[24] 3 #[t54] w k) w fun t55 w =>
 Gd t50 false (fun k => Bn P .sub 3 true t55 (.int .i64 1) w k) w fun t56 w =>
 Gd t50 false (fun k => Cl P 48 #[t52, (.int .i64 0), t56] w (Pk R) k) w fun t57 w =>
 Gd t50 false (fun k => Un P .not t57 w k) w fun t58 w =>
 Gd t38 true (fun k => Pick t50 (.bool true) t58 w k) w fun t59 w =>
 Gd t38 true (fun k => k t59 w) w fun t60 w =>
 Gd t60 false (fun k => Fa P 27 t3 3 w k) w fun t61 w =>
 Gd t60 false (fun k => Ld P 3 t61 w k) w fun t62 w =>
 Gd t60 false (fun k => Fa P 30 t1 0 w k) w fun t63 w =>
 Gd t60 false (fun k => Ld P 24 t63 w k) w fun t64 w =>
 Gd t60 false (fun k => Bt P .len #[24] 3 #[t64] w k) w fun t65 w =>
 Gd t60 false (fun k => Bn P .sub 3 true t65 (.int .i64 1) w k) w fun t66 w =>
 Gd t60 false (fun k => Cl P 48 #[t62, (.int .i64 0), t66] w (Pk R) k) w fun t67 w =>
 Gd t60 false (fun k => Un P .not t67 w k) w fun t68 w =>
 Gd t38 true (fun k => Pick t60 (.bool true) t68 w k) w fun t69 w =>
 Gd t38 true (fun k => k t69 w) w fun t70 w =>
 Gd t70 false (fun k => Fa P 27 t3 2 w k) w fun t71 w =>
 Gd t70 false (fun k => Ld P 3 t71 w k) w fun t72 w =>
 Gd t70 false (fun k => Fa P 27 t3 3 w k) w fun t73 w =>
 Gd t70 false (fun k => Ld P 3 t73 w k) w fun t74 w =>
 Gd t70 false (fun k => Bn P .eql 3 false t72 t74 w k) w fun t75 w =>
 Gd t38 true (fun k => Pick t70 (.bool true) t75 w k) w fun t76 w =>
 Pick t38 t76 (.bool false) w fun t77 w =>
 If t77
 (R (.returned (.bool false)) w)
 (Lp1 (.int .i64 0) w (fun t4 w k1 =>
 Fa P 30 t1 0 w fun t79 w =>
 Ld P 24 t79 w fun t80 w =>
 Bt P .len #[24] 3 #[t80] w fun t81 w =>
 Bn P .lss 3 false t4 t81 w fun t82 w =>
 If t82
 (Lp1 (.int .i64 0) w (fun t5 w k2 =>
 Bn P .lss 3 true t5 (.int .i64 8) w fun t86 w =>
 If t86
 (Fa P 30 t1 0 w fun t89 w =>
 Ld P 24 t89 w fun t90 w =>
 Ia P 24 t90 t4 w fun t92 w =>
 Ld P 60 t92 w fun t93 w =>
 Cl P 95 #[t93, t5] w (Pk R) fun t95 w =>
 Fa P 27 t3 0 w fun t96 w =>
 Ld P 3 t96 w fun t97 w =>
 Bn P .eql 3 true t97 (.int .i64 1) w fun t98 w =>
 Gd t98 true (fun k => k t4 w) w fun t100 w =>
 Gd t98 true (fun k => Fa P 27 t3 3 w k) w fun t101 w =>
 Gd t98 true (fun k => Ld P 3 t101 w k) w fun t102 w =>
 Gd t98 true (fun k => Bn P .eql 3 false t100 t102 w k) w fun t103 w =>
 Pick t98 t103 (.bool false) w fun t104 w =>
 Gd t104 true (fun k => k t5 w) w fun t106 w =>
 Gd t104 true (fun k => Fa P 27 t3 1 w k) w fun t107 w =>
 Gd t104 true (fun k => Ld P 3 t107 w k) w fun t108 w =>
 Gd t104 true (fun k => Bn P .eql 3 false t106 t108 w k) w fun t109 w =>
 Pick t104 t109 (.bool false) w fun t110 w =>
 Gd t110 false (fun k => Fa P 27 t3 0 w k) w fun t112 w =>
 Gd t110 false (fun k => Ld P 3 t112 w k) w fun t113 w =>
 Gd t110 false (fun k => Bn P .eql 3 true t113 (.int .i64 2) w k) w fun t114 w =>
 Gd t110 false (fun k => k t114 w) w fun t115 w =>
 Gd t115 true (fun k => k t4 w) w fun t116 w =>
 Gd t115 true (fun k => Fa P 27 t3 2 w k) w fun t117 w =>
 Gd t115 true (fun k => Ld P 3 t117 w k) w fun t118 w =>
 Gd t115 true (fun k => Bn P .eql 3 false t116 t118 w k) w fun t119 w =>
 Gd t110 false (fun k => Pick t115 t119 (.bool false) w k) w fun t120 w =>
 Gd t110 false (fun k => k t120 w) w fun t121 w =>
 Gd t121 true (fun k => k t5 w) w fun t122 w =>
 Gd t121 true (fun k => Fa P 27 t3 1 w k) w fun t123 w =>
 Gd t121 true (fun k => Ld P 3 t123 w k) w fun t124 w =>
 Gd t121 true (fun k => Bn P .eql 3 false t122 t124 w k) w fun t125 w =>
 Gd t110 false (fun k => Pick t121 t125 (.bool false) w k) w fun t126 w =>
 Pick t110 (.bool true) t126 w fun t127 w =>
 Fa P 30 t1 1 w fun t128 w =>
 Ld P 25 t128 w fun t129 w =>
 Ia P 25 t129 t5 w fun t131 w =>
 Ld P 3 t131 w fun t132 w =>
 Bn P .neq 3 false t132 t4 w fun t134 w =>
 Gd t134 true (fun k => k t127 w) w fun t136 w =>
 Gd t134 true (fun k => Un P .not t136 w k) w fun t137 w =>
 Pick t134 t137 (.bool false) w fun t138 w =>
 Gd t138 true (fun k => k t95 w) w fun t140 w =>
 Gd t138 true (fun k => Bt P .len #[60] 3 #[t140] w k) w fun t141 w =>
 Gd t138 true (fun k => Bn P .gtr 3 true t141 (.int .i64 0) w k) w fun t142 w =>
 Pick t138 t142 (.bool false) w fun t143 w =>
 If t143
 (R (.returned (.bool false)) w)
 (Bn P .add 3 true t5 (.int .i64 1) w fun t88 w =>
 k2 t88 w))
 (Bn P .add 3 true t4 (.int .i64 1) w fun t84 w =>
 k1 t84 w)))
 (Fa P 27 t3 0 w fun t144 w =>
 Ld P 3 t144 w fun t145 w =>
 Bn P .eql 3 true t145 (.int .i64 1) w fun t146 w =>
 If t146
 (dFl P 30 t1 0 w.drew fun t147 =>
 dL P 24 t147 w.drew fun t148 =>
 dFl P 27 t3 2 w.drew fun t149 =>
 dL P 3 t149 w.drew fun t150 =>
 dIx P 24 t148 t150 w.drew fun t151 =>
 dL P 60 t151 w.drew fun t152 =>
 dFl P 27 t3 1 w.drew fun t153 =>
 dL P 3 t153 w.drew fun t154 =>
 Cl P 95 #[t152, t154] w.drew (Pk R) fun t155 w =>
 dFl P 30 t1 1 w.drew fun t156 =>
 dL P 25 t156 w.drew fun t157 =>
 dFl P 27 t3 1 w.drew fun t158 =>
 dL P 3 t158 w.drew fun t159 =>
 dIx P 25 t157 t159 w.drew fun t160 =>
 dL P 3 t160 w.drew fun t161 =>
 dFl P 27 t3 2 w.drew fun t162 =>
 dL P 3 t162 w.drew fun t163 =>
 Dv P true (bn .eql 3 false t161 t163) w.drew fun t164 =>
 GdP t164 true (fun k => dFl P 27 t3 4 w.drew k) fun t166 =>
 GdP t164 true (fun k => dL P 3 t166 w.drew k) fun t167 =>
 GdP t164 true (fun k => dFl P 30 t1 2 w.drew k) fun t168 =>
 GdP t164 true (fun k => dL P 3 t168 w.drew k) fun t169 =>
 GdP t164 true (fun k => Dv P true (bn .sub 3 true t169 (.int .i64 1)) w.drew k) fun t170 =>
 Gd t164 true (fun k => Cl P 48 #[t167, (.int .i64 (-1)), t170] w.drew (Pk R) k) w.drew fun t171 w =>
 PickP t164 t171 (.bool false) fun t172 =>
 GdP t172 true (fun k => dFl P 30 t1 0 w k) fun t174 =>
 GdP t172 true (fun k => dL P 24 t174 w k) fun t175 =>
 GdP t172 true (fun k => dFl P 27 t3 3 w k) fun t176 =>
 GdP t172 true (fun k => dL P 3 t176 w k) fun t177 =>
 GdP t172 true (fun k => dIx P 24 t175 t177 w k) fun t178 =>
 GdP t172 true (fun k => dL P 60 t178 w k) fun t179 =>
 GdP t172 true (fun k => dFl P 27 t3 1 w k) fun t180 =>
 GdP t172 true (fun k => dL P 3 t180 w k) fun t181 =>
 GdP t172 true (fun k => k t155) fun t183 =>
 GdP t172 true (fun k => dFl P 27 t3 4 w k) fun t184 =>
 GdP t172 true (fun k => dL P 3 t184 w k) fun t185 =>
 Gd t172 true (fun k => Cl P 95 #[t179, t181] w (Pk R) k) w fun t182 w =>
 Kg t172 true P (Instr.loadAt 3 t184) t185 w <|
 Gd t172 true (fun k => Cl P 124 #[t183, t185] w (Pk R) k) w fun t186 w =>
 Gd t172 true (fun k => Cl P 123 #[t182, t186] w (Pk R) k) w fun t187 w =>
 PickP t172 t187 (.bool false) fun t188 =>
 R (.returned t188) w)
 (Fa P 27 t3 0 w fun t189 w =>
 Ld P 3 t189 w fun t190 w =>
 Bn P .eql 3 true t190 (.int .i64 2) w fun t191 w =>
 If t191
 (dFl P 30 t1 0 w.drew fun t192 =>
 dL P 24 t192 w.drew fun t193 =>
 dFl P 27 t3 2 w.drew fun t194 =>
 dL P 3 t194 w.drew fun t195 =>
 dIx P 24 t193 t195 w.drew fun t196 =>
 dL P 60 t196 w.drew fun t197 =>
 dFl P 27 t3 1 w.drew fun t198 =>
 dL P 3 t198 w.drew fun t199 =>
 Cl P 95 #[t197, t199] w.drew (Pk R) fun t200 w =>
 Lp1 (.int .i64 0) w (fun t10 w k3 =>
 Bt P .len #[60] 3 #[t200] w fun t203 w =>
 Bn P .lss 3 false t10 t203 w fun t204 w =>
 If t204
 (dFl P 30 t1 0 w.drew fun t207 =>
 dL P 24 t207 w.drew fun t208 =>
 dFl P 27 t3 3 w.drew fun t209 =>
 dL P 3 t209 w.drew fun t210 =>
 dIx P 24 t208 t210 w.drew fun t211 =>
 dL P 60 t211 w.drew fun t212 =>
 dIx P 60 t200 t10 w.drew fun t215 =>
 dL P 62 t215 w.drew fun t216 =>
 Cl P 125 #[t212, t216] w.drew (Pk R) fun t217 w =>
 Dv P true (Op.unary .not t217) w fun t218 =>
 If t218
 (R (.returned (.bool false)) w)
 (Bn P .add 3 true t10 (.int .i64 1) w fun t206 w =>
 k3 t206 w))
 (dFl P 30 t1 1 w.drew fun t219 =>
 dL P 25 t219 w.drew fun t220 =>
 dFl P 27 t3 1 w.drew fun t221 =>
 dL P 3 t221 w.drew fun t222 =>
 dIx P 25 t220 t222 w.drew fun t223 =>
 dL P 3 t223 w.drew fun t224 =>
 dFl P 27 t3 3 w.drew fun t225 =>
 dL P 3 t225 w.drew fun t226 =>
 Dv P true (bn .eql 3 false t224 t226) w.drew fun t227 =>
 GdP t227 true (fun k => dFl P 27 t3 4 w.drew k) fun t229 =>
 GdP t227 true (fun k => dL P 3 t229 w.drew k) fun t230 =>
 GdP t227 true (fun k => Dv P true (bn .eql 3 true t230 (.int .i64 0)) w.drew k) fun t231 =>
 PickP t227 t231 (.bool false) fun t232 =>
 GdP t232 true (fun k => k t200) fun t234 =>
 GdP t232 true (fun k => Dv P true (bV .len #[60] 3 #[t234]) w.drew k) fun t235 =>
 GdP t232 true (fun k => Dv P true (bn .gtr 3 true t235 (.int .i64 0)) w.drew k) fun t236 =>
 PickP t232 t236 (.bool false) fun t237 =>
 R (.returned t237) w.drew)))
 (R (.returned (.bool true)) w))))))
theorem e_ref37_move (h : s_ref37_move Tryz.prog t0 w R) : Calls Tryz.prog 89 #[t0] w R :=
 en1 (.sq .z (.sq .z (.sq (.sq .z (.cd (.sq .z .z) .z)) (.sq (.sq .z (.cd (.sq .z .z) .z)) (.sq (.sq .z (.bk (.lp [4] [2, 5, 6, 7, 78, 79, 80, 81, 82, 83, 84, 85, 86, 87, 88, 89, 90, 91, 92, 93, 94, 95, 96, 97, 98, 99, 100, 101, 102, 103, 104, 105, 106, 107, 108, 109, 110, 111, 112, 113, 114, 115, 116, 117, 118, 119, 120, 121, 122, 123, 124, 125, 126, 127, 128, 129, 130, 131, 132, 133, 134, 135, 136, 137, 138, 139, 140, 141, 142, 143] (.sq (.sq .z (.cd .z .z)) (.sq (.bk (.sq .z (.bk (.lp [5] [2, 6, 7, 85, 86, 87, 88, 89, 90, 91, 92, 93, 94, 95, 96, 97, 98, 99, 100, 101, 102, 103, 104, 105, 106, 107, 108, 109, 110, 111, 112, 113, 114, 115, 116, 117, 118, 119, 120, 121, 122, 123, 124, 125, 126, 127, 128, 129, 130, 131, 132, 133, 134, 135, 136, 137, 138, 139, 140, 141, 142, 143] (.sq (.sq .z (.cd .z .z)) (.sq (.bk (.sq .z (.sq .z (.sq .z (.cd (.sq .z .z) .z))))) .z)))))) .z))))) (.sq (.sq .z (.cd (.sq (.dr (.pur true 0 (.pur false 1 (.pur true 2 (.pur false 3 (.pur true 4 (.pur false 5 (.pur true 6 (.pur false 7 (.eff 8 [] (.pur true 9 .done))))))))))) (.sq (.dr (.pur true 0 (.pur false 1 (.pur true 2 (.pur false 3 (.pur true 4 (.pur false 5 (.pur true 6 (.pur false 7 (.pur true 8 (.pur true 9 (.pur true 10 (.pur false 11 (.pur true 12 (.pur false 13 (.pur true 14 (.eff 15 [] (.pur true 16 (.pur true 17 (.pur true 18 (.pur false 19 (.pur true 20 (.pur false 21 (.pur true 22 (.pur false 23 (.pur true 24 (.pur false 25 (.pur true 27 (.pur true 28 (.pur false 29 (.eff 26 [29] (.eff 30 [] (.eff 31 [] (.pur true 32 (.pur true 33 .done))))))))))))))))))))))))))))))))))) .z)) .z)) (.sq (.sq .z (.cd (.sq (.dr (.pur true 0 (.pur false 1 (.pur true 2 (.pur false 3 (.pur true 4 (.pur false 5 (.pur true 6 (.pur false 7 (.eff 8 [] (.pur true 9 .done))))))))))) (.sq (.sq .z (.bk (.lp [10] [2, 201, 202, 203, 204, 205, 206, 207, 208, 209, 210, 211, 212, 213, 214, 215, 216, 217, 218] (.sq (.sq .z (.cd .z .z)) (.sq (.bk (.sq (.dr (.pur true 0 (.pur false 1 (.pur true 2 (.pur false 3 (.pur true 4 (.pur false 5 (.pur true 6 (.pur true 7 (.pur true 8 (.pur false 9 (.eff 10 [] (.pur true 11 .done))))))))))))) (.cd (.sq .z .z) .z))) .z))))) (.sq (.dr (.pur true 0 (.pur false 1 (.pur true 2 (.pur false 3 (.pur true 4 (.pur false 5 (.pur true 6 (.pur false 7 (.pur true 8 (.pur true 9 (.pur true 10 (.pur false 11 (.pur true 12 (.pur true 13 (.pur true 14 (.pur true 15 (.pur true 16 (.pur true 17 (.pur true 18 (.pur true 19 .done))))))))))))))))))))) .z))) .z)) (.sq .z .z)))))))) [t0] Tryz.func89 (by kernel_rfl) (by kernel_rfl) h
theorem n_ref37_move : Enters Tryz.prog 89 := enters_of Tryz.func89 (by kernel_rfl) rfl
def s_ref37_reader (P : Program) (t0 t1 : Value) (w : World) (R : Ending → World → Prop) : Prop :=
 Bx P 30 t0 w fun t2 w =>
 Bx P 48 t1 w fun t3 w =>
 Fa P 48 t3 0 w fun t9 w =>
 Ld P 3 t9 w fun t10 w =>
 Cl P 48 #[t10, (.int .i64 0), (.int .i64 99)] w (Pk R) fun t11 w =>
 Un P .not t11 w fun t12 w =>
 Gd t12 false (fun k => Fa P 48 t3 1 w k) w fun t14 w =>
 Gd t12 false (fun k => Ld P 3 t14 w k) w fun t15 w =>
 Gd t12 false (fun k => Fa P 30 t2 2 w k) w fun t16 w =>
 Gd t12 false (fun k => Ld P 3 t16 w k) w fun t17 w =>
 Gd t12 false (fun k => Cl P 48 #[t15, (.int .i64 0), t17] w (Pk R) k) w fun t18 w =>
 Gd t12 false (fun k => Un P .not t18 w k) w fun t19 w =>
 Pick t12 (.bool true) t19 w fun t20 w =>
 Gd t20 false (fun k => Fa P 48 t3 2 w k) w fun t22 w =>
 Gd t20 false (fun k => Ld P 25 t22 w k) w fun t23 w =>
 Gd t20 false (fun k => Fa P 30 t2 0 w k) w fun t24 w =>
 Gd t20 false (fun k => Ld P 24 t24 w k) w fun t25 w =>
 Gd t20 false (fun k => Bt P .len #[24] 3 #[t25] w k) w fun t26 w =>
 Gd t20 false (fun k => Cl P 87 #[t23, t26] w (Pk R) k) w fun t27 w =>
 Gd t20 false (fun k => Un P .not t27 w k) w fun t28 w =>
 Pick t20 (.bool true) t28 w fun t29 w =>
 Gd t29 false (fun k => Fa P 48 t3 3 w k) w fun t31 w =>
 Gd t29 false (fun k => Ld P 3 t31 w k) w fun t32 w =>
 Gd t29 false (fun k => Fa P 30 t2 0 w k) w fun t33 w =>
 Gd t29 false (fun k => Ld P 24 t33 w k) w fun t34 w =>
 Gd t29 false (fun k => Bt P .len #[24] 3 #[t34] w k) w fun t35 w =>
 Gd t29 false (fun k => Bn P .sub 3 true t35 (.int .i64 1) w k) w fun t36 w =>
 Gd t29 false (fun k => Cl P 48 #[t32, (.int .i64 0), t36] w (Pk R) k) w fun t37 w =>
 Gd t29 false (fun k => Un P .not t37 w k) w fun t38 w =>
 Pick t29 (.bool true) t38 w fun t39 w =>
 If t39
 (R (.returned (.bool false)) w)
 (Ld P 30 t2 w fun t40 w =>
 Cl P 122 #[t40] w (Pk R) fun t41 w =>
 Lp2 (.slice none 0 0) (.int .i64 0) w (fun t5 t7 w k1 =>
 Fa P 48 t3 1 w fun t43 w =>
 Ld P 3 t43 w fun t44 w =>
 Bn P .lss 3 false t7 t44 w fun t45 w =>
 If t45
 (dFl P 48 t3 2 w.drew fun t48 =>
 dL P 25 t48 w.drew fun t49 =>
 dIx P 60 t41 t7 w.drew fun t52 =>
 dFl P 62 t52 0 w.drew fun t53 =>
 dL P 42 t53 w.drew fun t54 =>
 Cl P 53 #[t54] w.drew (Pk R) fun t55 w =>
 kLd P 25 t48 t49 w <|
 dIx P 25 t49 t55 w fun t56 =>
 dL P 3 t56 w fun t57 =>
 Fa P 48 t3 3 w fun t59 w =>
 Ld P 3 t59 w fun t60 w =>
 Bn P .lss 3 false t57 t60 w fun t61 w =>
 If t61
 (Ia P 60 t41 t7 w fun t65 w =>
 Fa P 62 t65 0 w fun t66 w =>
 Ld P 42 t66 w fun t67 w =>
 Cl P 94 #[t5, t67] w (Pk R) fun t68 w =>
 Bn P .add 3 true t7 (.int .i64 1) w fun t47 w =>
 k1 t68 t47 w)
 (dFl P 30 t2 0 w.drew fun t69 =>
 dL P 24 t69 w.drew fun t70 =>
 dIx P 24 t70 t57 w.drew fun t72 =>
 dL P 60 t72 w.drew fun t73 =>
 dIx P 60 t41 t7 w.drew fun t76 =>
 dL P 62 t76 w.drew fun t77 =>
 Cl P 125 #[t73, t77] w.drew (Pk R) fun t78 w =>
 Dv P true (Op.unary .not t78) w fun t79 =>
 If t79
 (R (.returned (.bool false)) w)
 (Bn P .add 3 true t7 (.int .i64 1) w fun t47x1 w =>
 k1 t5 t47x1 w)))
 (Fa P 48 t3 4 w fun t81 w =>
 Ld P 35 t81 w fun t82 w =>
 Cl P 18 #[t5, t82] w (Pk R) fun t83 w =>
 R (.returned t83) w)))
theorem e_ref37_reader (h : s_ref37_reader Tryz.prog t0 t1 w R) : Calls Tryz.prog 90 #[t0, t1] w R :=
 en1 (.sq .z (.sq (.sq .z (.cd (.sq .z .z) .z)) (.sq .z (.sq .z (.sq (.sq .z (.bk (.lp [5, 7] [4, 8, 42, 43, 44, 45, 46, 47, 48, 49, 50, 51, 52, 53, 54, 55, 56, 57, 58, 59, 60, 61, 62, 63, 64, 65, 66, 67, 68, 69, 70, 71, 72, 73, 74, 75, 76, 77, 78, 79] (.sq (.sq .z (.cd .z .z)) (.sq (.bk (.sq (.dr (.pur true 0 (.pur false 1 (.pur true 2 (.pur true 3 (.pur true 4 (.pur true 5 (.pur false 6 (.eff 7 [1] (.pur true 8 (.pur false 9 (.pur true 10 .done)))))))))))) (.sq .z (.cd .z (.sq (.dr (.pur true 0 (.pur false 1 (.pur true 2 (.pur true 3 (.pur false 4 (.pur true 5 (.pur true 6 (.pur true 7 (.pur false 8 (.eff 9 [] (.pur true 10 .done)))))))))))) (.cd (.sq .z .z) .z)))))) .z))))) (.sq .z .z)))))) [t0, t1] Tryz.func90 (by kernel_rfl) (by kernel_rfl) h
theorem n_ref37_reader : Enters Tryz.prog 90 := enters_of Tryz.func90 (by kernel_rfl) rfl
def s_ref14_in (P : Program) (t0 t1 t2 : Value) (w : World) (R : Ending → World → Prop) : Prop :=
 Bn P .geq 3 false t0 t1 w fun t9 w =>
 Gd t9 true (fun k => k t0 w) w fun t11 w =>
 Gd t9 true (fun k => k t2 w) w fun t12 w =>
 Gd t9 true (fun k => Bn P .leq 3 false t11 t12 w k) w fun t13 w =>
 Pick t9 t13 (.bool false) w fun t14 w =>
 R (.returned t14) w
theorem e_ref14_in (h : s_ref14_in Tryz.prog t0 t1 t2 w R) : Calls Tryz.prog 91 #[t0, t1, t2] w R :=
 en1 (.sq .z (.sq .z .z)) [t0, t1, t2] Tryz.func91 (by kernel_rfl) (by kernel_rfl) h
theorem n_ref14_in : Enters Tryz.prog 91 := enters_of Tryz.func91 (by kernel_rfl) rfl
def s_ref37_Slot (P : Program) (t0 : Value) (w : World) (R : Ending → World → Prop) : Prop :=
 Cl P 48 #[t0, (.int .i64 0), (.int .i64 999)] w (Pk R) fun t4 w =>
 Un P .not t4 w fun t5 w =>
 If t5
 (R (.returned (.int .i64 (-1))) w)
 (Bn P .rem 3 true t0 (.int .i64 8) w fun t7 w =>
 R (.returned t7) w)
theorem e_ref37_Slot (h : s_ref37_Slot Tryz.prog t0 w R) : Calls Tryz.prog 92 #[t0] w R :=
 en1 (.sq .z (.sq (.sq .z (.cd (.sq .z .z) .z)) (.sq .z .z))) [t0] Tryz.func92 (by kernel_rfl) (by kernel_rfl) h
theorem n_ref37_Slot : Enters Tryz.prog 92 := enters_of Tryz.func92 (by kernel_rfl) rfl
def s_ref37_find (P : Program) (t0 t1 : Value) (w : World) (R : Ending → World → Prop) : Prop :=
 Bx P 30 t0 w fun t2 w =>
 Lp1 (.int .i64 0) w (fun t5 w k1 =>
 Fa P 30 t2 4 w fun t7 w =>
 Ld P 28 t7 w fun t8 w =>
 Bt P .len #[28] 3 #[t8] w fun t9 w =>
 Bn P .lss 3 false t5 t9 w fun t10 w =>
 If t10
 (Fa P 30 t2 4 w fun t13 w =>
 Ld P 28 t13 w fun t14 w =>
 Ia P 28 t14 t5 w fun t16 w =>
 Fa P 48 t16 0 w fun t17 w =>
 Ld P 3 t17 w fun t18 w =>
 Bn P .eql 3 false t18 t1 w fun t20 w =>
 If t20
 (R (.returned t5) w)
 (Bn P .add 3 true t5 (.int .i64 1) w fun t12 w =>
 k1 t12 w))
 (R (.returned (.int .i64 (-1))) w))
theorem e_ref37_find (h : s_ref37_find Tryz.prog t0 t1 w R) : Calls Tryz.prog 93 #[t0, t1] w R :=
 en1 (.sq .z (.sq (.sq .z (.bk (.lp [5] [4, 6, 7, 8, 9, 10, 11, 12, 13, 14, 15, 16, 17, 18, 19, 20, 21] (.sq (.sq .z (.cd .z .z)) (.sq (.bk (.sq .z (.cd (.sq .z .z) .z))) .z))))) (.sq .z .z))) [t0, t1] Tryz.func93 (by kernel_rfl) (by kernel_rfl) h
theorem n_ref37_find : Enters Tryz.prog 93 := enters_of Tryz.func93 (by kernel_rfl) rfl
def s_ref37_ordered (P : Program) (t0 t1 : Value) (w : World) (R : Ending → World → Prop) : Prop :=
 Bx P 42 t1 w fun t3 w =>
 Lp1 (.int .i64 0) w (fun t5 w k1 =>
 Dv P true (bV .len #[35] 3 #[t0]) w.drew fun t9 =>
 Dv P true (bn .lss 3 false t5 t9) w.drew fun t10 =>
 GdP t10 true (fun k => k t0) fun t12 =>
 GdP t10 true (fun k => k t5) fun t13 =>
 GdP t10 true (fun k => dIx P 35 t12 t13 w.drew k) fun t14 =>
 GdP t10 true (fun k => dL P 42 t14 w.drew k) fun t15 =>
 GdP t10 true (fun k => dL P 42 t3 w.drew k) fun t16 =>
 Gd t10 true (fun k => Cl P 126 #[t15, t16] w.drew (Pk R) k) w.drew fun t17 w =>
 PickP t10 t17 (.bool false) fun t18 =>
 If t18
 (Bn P .add 3 true t5 (.int .i64 1) w fun t20 w =>
 k1 t20 w)
 (Bs P 35 0 [] w fun t21 w =>
 Sc P 35 t0 none (some t5) none w fun t24 w =>
 Bt P .append #[35, 35] 35 #[t21, t24] w fun t25 w =>
 Ld P 42 t3 w fun t27 w =>
 Bs P 35 1 [(0, t27)] w fun t28 w =>
 Bt P .append #[35, 35] 35 #[t25, t28] w fun t29 w =>
 Sc P 35 t0 (some t5) none none w fun t33 w =>
 Bt P .append #[35, 35] 35 #[t29, t33] w fun t34 w =>
 R (.returned t34) w))
theorem e_ref37_ordered (h : s_ref37_ordered Tryz.prog t0 t1 w R) : Calls Tryz.prog 94 #[t0, t1] w R :=
 en1 (.sq .z (.sq .z (.sq (.bk (.lp [5] [7, 8, 9, 10, 11, 12, 13, 14, 15, 16, 17, 18, 19, 20] (.sq (.sq (.dr (.pur true 0 (.pur true 1 (.pur true 2 (.pur true 3 (.pur true 4 (.pur true 5 (.pur true 6 (.pur true 7 (.pur false 8 (.pur false 9 (.eff 10 [] (.pur true 11 .done))))))))))))) (.cd .z .z)) (.bk .z)))) (.sq .z (.sq .z (.sq .z .z)))))) [t0, t1] Tryz.func94 (by kernel_rfl) (by kernel_rfl) h
theorem n_ref37_ordered : Enters Tryz.prog 94 := enters_of Tryz.func94 (by kernel_rfl) rfl
def s_ref37_slots (P : Program) (t0 t1 : Value) (w : World) (R : Ending → World → Prop) : Prop :=
 Lp2 (.slice none 0 0) (.int .i64 0) w (fun t5 t6 w k1 =>
 Bt P .len #[60] 3 #[t0] w fun t9 w =>
 Bn P .lss 3 false t6 t9 w fun t10 w =>
 If t10
 (Ia P 60 t0 t6 w fun t15 w =>
 Fa P 62 t15 0 w fun t16 w =>
 Ld P 42 t16 w fun t17 w =>
 Cl P 53 #[t17] w (Pk R) fun t18 w =>
 Bn P .eql 3 false t18 t1 w fun t20 w =>
 If t20
 (Ia P 60 t0 t6 w fun t24 w =>
 Ld P 62 t24 w fun t25 w =>
 Bs P 60 1 [(0, t25)] w fun t26 w =>
 Bt P .append #[60, 60] 60 #[t5, t26] w fun t27 w =>
 Bn P .add 3 true t6 (.int .i64 1) w fun t12 w =>
 k1 t27 t12 w)
 (Bn P .add 3 true t6 (.int .i64 1) w fun t12x1 w =>
 k1 t5 t12x1 w))
 (R (.returned t5) w))
theorem e_ref37_slots (h : s_ref37_slots Tryz.prog t0 t1 w R) : Calls Tryz.prog 95 #[t0, t1] w R :=
 en1 (.sq .z (.sq .z (.sq (.sq .z (.bk (.lp [5, 6] [7, 8, 9, 10, 11, 12, 13, 14, 15, 16, 17, 18, 19, 20, 21, 22, 23, 24, 25, 26, 27] (.sq (.sq .z (.cd .z .z)) (.sq (.bk (.sq .z (.cd .z .z))) .z))))) (.sq .z .z)))) [t0, t1] Tryz.func95 (by kernel_rfl) (by kernel_rfl) h
theorem n_ref37_slots : Enters Tryz.prog 95 := enters_of Tryz.func95 (by kernel_rfl) rfl
def s_ref37_inserted (P : Program) (t0 t1 : Value) (w : World) (R : Ending → World → Prop) : Prop :=
 Bx P 62 t1 w fun t3 w =>
 Lp1 (.int .i64 0) w (fun t5 w k1 =>
 Dv P true (bV .len #[60] 3 #[t0]) w.drew fun t9 =>
 Dv P true (bn .lss 3 false t5 t9) w.drew fun t10 =>
 GdP t10 true (fun k => k t0) fun t12 =>
 GdP t10 true (fun k => k t5) fun t13 =>
 GdP t10 true (fun k => dIx P 60 t12 t13 w.drew k) fun t14 =>
 GdP t10 true (fun k => dFl P 62 t14 1 w.drew k) fun t15 =>
 GdP t10 true (fun k => dL P 3 t15 w.drew k) fun t16 =>
 GdP t10 true (fun k => dFl P 62 t3 1 w.drew k) fun t17 =>
 GdP t10 true (fun k => dL P 3 t17 w.drew k) fun t18 =>
 GdP t10 true (fun k => Dv P true (bn .lss 3 false t16 t18) w.drew k) fun t19 =>
 PickP t10 t19 (.bool false) fun t20 =>
 If t20
 (Bn P .add 3 true t5 (.int .i64 1) w.drew fun t22 w =>
 k1 t22 w)
 (Bs P 60 0 [] w.drew fun t23 w =>
 Sc P 60 t0 none (some t5) none w fun t26 w =>
 Bt P .append #[60, 60] 60 #[t23, t26] w fun t27 w =>
 Ld P 62 t3 w fun t29 w =>
 Bs P 60 1 [(0, t29)] w fun t30 w =>
 Bt P .append #[60, 60] 60 #[t27, t30] w fun t31 w =>
 Sc P 60 t0 (some t5) none none w fun t35 w =>
 Bt P .append #[60, 60] 60 #[t31, t35] w fun t36 w =>
 R (.returned t36) w))
theorem e_ref37_inserted (h : s_ref37_inserted Tryz.prog t0 t1 w R) : Calls Tryz.prog 96 #[t0, t1] w R :=
 en1 (.sq .z (.sq .z (.sq (.bk (.lp [5] [7, 8, 9, 10, 11, 12, 13, 14, 15, 16, 17, 18, 19, 20, 21, 22] (.sq (.sq (.dr (.pur true 0 (.pur true 1 (.pur true 2 (.pur true 3 (.pur true 4 (.pur true 5 (.pur true 6 (.pur true 7 (.pur true 8 (.pur false 9 (.pur true 10 (.pur false 11 (.pur true 12 (.pur true 13 .done))))))))))))))) (.cd .z .z)) (.bk .z)))) (.sq .z (.sq .z (.sq .z .z)))))) [t0, t1] Tryz.func96 (by kernel_rfl) (by kernel_rfl) h
theorem n_ref37_inserted : Enters Tryz.prog 96 := enters_of Tryz.func96 (by kernel_rfl) rfl
def s_ref37_without (P : Program) (t0 t1 t2 : Value) (w : World) (R : Ending → World → Prop) : Prop :=
 Lp3 (.slice none 0 0) (.int .i64 0) (.int .i64 0) w (fun t7 t8 t9 w k1 =>
 Bt P .len #[60] 3 #[t0] w fun t12 w =>
 Bn P .lss 3 false t9 t12 w fun t13 w =>
 If t13
 (Ia P 60 t0 t9 w fun t18 w =>
 Fa P 62 t18 0 w fun t19 w =>
 Ld P 42 t19 w fun t20 w =>
 Cl P 53 #[t20] w (Pk R) fun t21 w =>
 Bn P .eql 3 false t21 t1 w fun t23 w =>
 Gd t23 true (fun k => k t8 w) w fun t25 w =>
 Gd t23 true (fun k => k t2 w) w fun t26 w =>
 Gd t23 true (fun k => Bn P .lss 3 false t25 t26 w k) w fun t27 w =>
 Pick t23 t27 (.bool false) w fun t28 w =>
 If t28
 (Bn P .add 3 true t8 (.int .i64 1) w fun t30 w =>
 Bn P .add 3 true t9 (.int .i64 1) w fun t15 w =>
 k1 t7 t30 t15 w)
 (Ia P 60 t0 t9 w fun t34 w =>
 Ld P 62 t34 w fun t35 w =>
 Bs P 60 1 [(0, t35)] w fun t36 w =>
 Bt P .append #[60, 60] 60 #[t7, t36] w fun t37 w =>
 Bn P .add 3 true t9 (.int .i64 1) w fun t15x1 w =>
 k1 t37 t8 t15x1 w))
 (R (.returned t7) w))
theorem e_ref37_without (h : s_ref37_without Tryz.prog t0 t1 t2 w R) : Calls Tryz.prog 97 #[t0, t1, t2] w R :=
 en1 (.sq .z (.sq .z (.sq .z (.sq (.sq .z (.bk (.lp [7, 8, 9] [10, 11, 12, 13, 14, 15, 16, 17, 18, 19, 20, 21, 22, 23, 24, 25, 26, 27, 28, 29, 30, 31, 32, 33, 34, 35, 36, 37] (.sq (.sq .z (.cd .z .z)) (.sq (.bk (.sq .z (.cd .z .z))) .z))))) (.sq .z .z))))) [t0, t1, t2] Tryz.func97 (by kernel_rfl) (by kernel_rfl) h
theorem n_ref37_without : Enters Tryz.prog 97 := enters_of Tryz.func97 (by kernel_rfl) rfl
def s_trace_within (P : Program) (t0 t1 t2 : Value) (w : World) (R : Ending → World → Prop) : Prop :=
 Bn P .geq 3 false t0 t1 w fun t9 w =>
 Gd t9 true (fun k => k t0 w) w fun t11 w =>
 Gd t9 true (fun k => k t2 w) w fun t12 w =>
 Gd t9 true (fun k => Bn P .leq 3 false t11 t12 w k) w fun t13 w =>
 Pick t9 t13 (.bool false) w fun t14 w =>
 R (.returned t14) w
theorem e_trace_within (h : s_trace_within Tryz.prog t0 t1 t2 w R) : Calls Tryz.prog 98 #[t0, t1, t2] w R :=
 en1 (.sq .z (.sq .z .z)) [t0, t1, t2] Tryz.func98 (by kernel_rfl) (by kernel_rfl) h
theorem n_trace_within : Enters Tryz.prog 98 := enters_of Tryz.func98 (by kernel_rfl) rfl
def s_slices_IndexFunc_api_Held_api_Held (P : Program) (t0 t1 : Value) (w : World) (R : Ending → World → Prop) : Prop :=
 Bt P .len #[60] 3 #[t0] w fun t7 w =>
 Lp1 (.int .i64 0) w (fun t8 w k1 =>
 Bn P .lss 3 false t8 t7 w fun t9 w =>
 If t9
 (Ia P 60 t0 t8 w fun t14 w =>
 Ld P 62 t14 w fun t15 w =>
 Cw P t1 #[t15] w (Pk R) fun t16 w =>
 If t16
 (R (.returned t8) w)
 (Bn P .add 3 true t8 (.int .i64 1) w fun t18 w =>
 k1 t18 w))
 (R (.returned (.int .i64 (-1))) w))
theorem e_slices_IndexFunc_api_Held_api_Held (h : s_slices_IndexFunc_api_Held_api_Held Tryz.prog t0 t1 w R) : Calls Tryz.prog 99 #[t0, t1] w R :=
 en1 (.sq .z (.sq (.sq .z (.bk (.lp [8] [4, 5, 9, 10, 11, 12, 13, 14, 15, 16, 17, 18] (.sq .z (.sq (.cd .z .z) (.sq (.bk (.sq .z (.sq .z (.cd (.sq .z .z) .z)))) .z)))))) (.sq .z .z))) [t0, t1] Tryz.func99 (by kernel_rfl) (by kernel_rfl) h
theorem n_slices_IndexFunc_api_Held_api_Held : Enters Tryz.prog 99 := enters_of Tryz.func99 (by kernel_rfl) rfl
def s_slices_DeleteFunc_api_Held_api_Held (P : Program) (t0 t1 : Value) (w : World) (R : Ending → World → Prop) : Prop :=
 Cl P 99 #[t0, t1] w (Pk R) fun t10 w =>
 Bn P .eql 3 true t10 (.int .i64 (-1)) w fun t12 w =>
 If t12
 (R (.returned t0) w)
 (Bn P .add 3 true t10 (.int .i64 1) w fun t15 w =>
 Lp2 t10 t15 w (fun t5 t6 w k1 =>
 Bt P .len #[60] 3 #[t0] w fun t18 w =>
 Bn P .lss 3 false t6 t18 w fun t19 w =>
 If t19
 (Ia P 60 t0 t6 w fun t24 w =>
 Ld P 62 t24 w fun t25 w =>
 Al P 62 w fun t7 w =>
 Sto P 62 t7 t25 w fun w =>
 Ld P 62 t7 w fun t27 w =>
 Cw P t1 #[t27] w (Pk R) fun t28 w =>
 Un P .not t28 w fun t29 w =>
 If t29
 (Ld P 62 t7 w fun t32 w =>
 Ia P 60 t0 t5 w fun t33 w =>
 Sto P 62 t33 t32 w fun w =>
 Bn P .add 3 true t5 (.int .i64 1) w fun t35 w =>
 Bn P .add 3 true t6 (.int .i64 1) w fun t21 w =>
 k1 t35 t21 w)
 (Bn P .add 3 true t6 (.int .i64 1) w fun t21x1 w =>
 k1 t5 t21x1 w))
 (Sc P 60 t0 (some t5) none none w fun t38 w =>
 Bt P .clear #[60] 0 #[t38] w fun _ w =>
 Sc P 60 t0 none (some t5) none w fun t41 w =>
 R (.returned t41) w)))
theorem e_slices_DeleteFunc_api_Held_api_Held (h : s_slices_DeleteFunc_api_Held_api_Held Tryz.prog t0 t1 w R) : Calls Tryz.prog 100 #[t0, t1] w R :=
 en1 (.sq .z (.sq .z (.sq (.sq .z (.cd (.sq .z .z) .z)) (.sq (.sq .z (.bk (.lp [5, 6] [7, 16, 17, 18, 19, 20, 21, 22, 23, 24, 25, 26, 27, 28, 29, 30, 31, 32, 33, 34, 35] (.sq (.sq .z (.cd .z .z)) (.sq (.bk (.sq .z (.sq .z (.cd (.sq .z .z) .z)))) .z))))) (.sq .z (.sq .z .z)))))) [t0, t1] Tryz.func100 (by kernel_rfl) (by kernel_rfl) h
theorem n_slices_DeleteFunc_api_Held_api_Held : Enters Tryz.prog 100 := enters_of Tryz.func100 (by kernel_rfl) rfl
def s_shard_ofSlot_1 (P : Program) (t0 t1 : Value) (w : World) (R : Ending → World → Prop) : Prop :=
 Bx P 62 t0 w fun t2 w =>
 dFl P 62 t2 0 w.drew fun t4 =>
 dFl P 42 t4 0 w.drew fun t5 =>
 dL P 3 t5 w.drew fun t6 =>
 dL P 3 t1 w.drew fun t8 =>
 Cl P 17 #[t6] w.drew (Pk R) fun t7 w =>
 kLd P 3 t1 t8 w <|
 Dv P true (bn .neq 3 false t7 t8) w fun t9 =>
 R (.returned t9) w
theorem e_shard_ofSlot_1 (h : s_shard_ofSlot_1 Tryz.prog t0 t1 w R) : Calls Tryz.prog 101 #[t0, t1] w R :=
 en1 (.sq .z (.sq (.dr (.pur true 0 (.pur true 1 (.pur false 2 (.pur false 4 (.eff 3 [4] (.pur true 5 (.pur true 6 .done)))))))) .z)) [t0, t1] Tryz.func101 (by kernel_rfl) (by kernel_rfl) h
theorem n_shard_ofSlot_1 : Enters Tryz.prog 101 := enters_of Tryz.func101 (by kernel_rfl) rfl
def s_cmp_isNaN_int (P : Program) (t0 : Value) (w : World) (R : Ending → World → Prop) : Prop :=
 Bn P .neq 3 false t0 t0 w fun t5 w =>
 R (.returned t5) w
theorem e_cmp_isNaN_int (h : s_cmp_isNaN_int Tryz.prog t0 w R) : Calls Tryz.prog 102 #[t0] w R :=
 en1 (.sq .z (.sq .z .z)) [t0] Tryz.func102 (by kernel_rfl) (by kernel_rfl) h
theorem n_cmp_isNaN_int : Enters Tryz.prog 102 := enters_of Tryz.func102 (by kernel_rfl) rfl
def s_shard_change_remove_1 (P : Program) (t0 t1 t2 : Value) (w : World) (R : Ending → World → Prop) : Prop :=
 Bx P 62 t0 w fun t3 w =>
 dFl P 62 t3 0 w.drew fun t5 =>
 dFl P 42 t5 0 w.drew fun t6 =>
 dL P 3 t6 w.drew fun t7 =>
 dL P 70 t1 w.drew fun t9 =>
 NcP t9 fun t10 =>
 dFl P 78 t10 0 w.drew fun t11 =>
 dFl P 76 t11 0 w.drew fun t12 =>
 dFl P 30 t12 3 w.drew fun t13 =>
 dFl P 27 t13 1 w.drew fun t14 =>
 dL P 3 t14 w.drew fun t15 =>
 Cl P 17 #[t7] w.drew (Pk R) fun t8 w =>
 kLd P 70 t1 t9 w <|
 kLd P 3 t14 t15 w <|
 Dv P true (bn .neq 3 false t8 t15) w fun t16 =>
 GdP t16 false (fun k => dL P 3 t2 w k) fun t18 =>
 GdP t16 false (fun k => Dv P true (bn .eql 3 true t18 (.int .i64 0)) w k) fun t19 =>
 PickP t16 (.bool true) t19 fun t20 =>
 If t20
 (R (.returned (.bool false)) w)
 (Ld P 3 t2 w fun t21 w =>
 Bn P .sub 3 true t21 (.int .i64 1) w fun t22 w =>
 Sto P 3 t2 t22 w fun w =>
 R (.returned (.bool true)) w)
theorem e_shard_change_remove_1 (h : s_shard_change_remove_1 Tryz.prog t0 t1 t2 w R) : Calls Tryz.prog 103 #[t0, t1, t2] w R :=
 en1 (.sq .z (.sq (.sq (.dr (.pur true 0 (.pur true 1 (.pur false 2 (.pur false 4 (.pur true 5 (.pur true 6 (.pur true 7 (.pur true 8 (.pur true 9 (.pur false 10 (.eff 3 [4, 10] (.pur true 11 (.pur true 12 (.pur false 13 (.pur true 14 (.pur true 15 .done))))))))))))))))) (.cd (.sq .z .z) .z)) (.sq .z (.sq .z .z)))) [t0, t1, t2] Tryz.func103 (by kernel_rfl) (by kernel_rfl) h
theorem n_shard_change_remove_1 : Enters Tryz.prog 103 := enters_of Tryz.func103 (by kernel_rfl) rfl
def s_slices_Index_bool_bool (P : Program) (t0 t1 : Value) (w : World) (R : Ending → World → Prop) : Prop :=
 Bt P .len #[120] 3 #[t0] w fun t7 w =>
 Lp1 (.int .i64 0) w (fun t8 w k1 =>
 Bn P .lss 3 false t8 t7 w fun t9 w =>
 If t9
 (Ia P 120 t0 t8 w fun t14 w =>
 Ld P 4 t14 w fun t15 w =>
 Bn P .eql 4 false t1 t15 w fun t16 w =>
 If t16
 (R (.returned t8) w)
 (Bn P .add 3 true t8 (.int .i64 1) w fun t18 w =>
 k1 t18 w))
 (R (.returned (.int .i64 (-1))) w))
theorem e_slices_Index_bool_bool (h : s_slices_Index_bool_bool Tryz.prog t0 t1 w R) : Calls Tryz.prog 106 #[t0, t1] w R :=
 en1 (.sq .z (.sq (.sq .z (.bk (.lp [8] [4, 5, 9, 10, 11, 12, 13, 14, 15, 16, 17, 18] (.sq .z (.sq (.cd .z .z) (.sq (.bk (.sq .z (.sq .z (.cd (.sq .z .z) .z)))) .z)))))) (.sq .z .z))) [t0, t1] Tryz.func106 (by kernel_rfl) (by kernel_rfl) h
theorem n_slices_Index_bool_bool : Enters Tryz.prog 106 := enters_of Tryz.func106 (by kernel_rfl) rfl
def s_slices_insertionSortCmpFunc_api_Fact (P : Program) (t0 t1 t2 t3 : Value) (w : World) (R : Ending → World → Prop) : Prop :=
 Bn P .add 3 true t1 (.int .i64 1) w fun t11 w =>
 Lp1 t11 w (fun t8 w k1 =>
 Bn P .lss 3 false t8 t2 w fun t14 w =>
 If t14
 (Lp1 t8 w (fun t9 w k2 =>
 Dv P true (bn .gtr 3 false t9 t1) w.drew fun t20 =>
 GdP t20 true (fun k => k t3) fun t22 =>
 GdP t20 true (fun k => k t0) fun t23 =>
 GdP t20 true (fun k => k t9) fun t24 =>
 GdP t20 true (fun k => dIx P 35 t23 t24 w.drew k) fun t25 =>
 GdP t20 true (fun k => dL P 42 t25 w.drew k) fun t26 =>
 GdP t20 true (fun k => k t0) fun t27 =>
 GdP t20 true (fun k => k t9) fun t28 =>
 GdP t20 true (fun k => Dv P true (bn .sub 3 true t28 (.int .i64 1)) w.drew k) fun t29 =>
 GdP t20 true (fun k => dIx P 35 t27 t29 w.drew k) fun t30 =>
 GdP t20 true (fun k => dL P 42 t30 w.drew k) fun t31 =>
 Gd t20 true (fun k => Cw P t22 #[t26, t31] w.drew (Pk R) k) w.drew fun t32 w =>
 GdP t20 true (fun k => Dv P true (bn .lss 3 true t32 (.int .i64 0)) w k) fun t33 =>
 PickP t20 t33 (.bool false) fun t34 =>
 If t34
 (Dv P true (bn .sub 3 true t9 (.int .i64 1)) w.drew fun t41 =>
 Dv P true (bn .sub 3 true t9 (.int .i64 1)) w.drew fun t44 =>
 dIx P 35 t0 t44 w.drew fun t45 =>
 dL P 42 t45 w.drew fun t46 =>
 dIx P 35 t0 t9 w.drew fun t49 =>
 dL P 42 t49 w.drew fun t50 =>
 dIx P 35 t0 t9 w.drew fun t51 =>
 Sto P 42 t51 t46 w.drew fun w =>
 dIx P 35 t0 t41 w fun t52 =>
 Sto P 42 t52 t50 w fun w =>
 Bn P .sub 3 true t9 (.int .i64 1) w fun t36 w =>
 k2 t36 w)
 (Bn P .add 3 true t8 (.int .i64 1) w fun t16 w =>
 k1 t16 w)))
 (R (.returned (.tuple #[])) w))
theorem e_slices_insertionSortCmpFunc_api_Fact (h : s_slices_insertionSortCmpFunc_api_Fact Tryz.prog t0 t1 t2 t3 w R) : Calls Tryz.prog 107 #[t0, t1, t2, t3] w R :=
 en1 (.sq .z (.bk (.lp [8] [9, 12, 13, 14, 15, 16, 17, 18, 19, 20, 21, 22, 23, 24, 25, 26, 27, 28, 29, 30, 31, 32, 33, 34, 35, 36, 37, 38, 39, 40, 41, 42, 43, 44, 45, 46, 47, 48, 49, 50, 51, 52] (.sq (.sq .z (.cd .z .z)) (.sq (.bk (.sq .z (.bk (.lp [9] [18, 19, 20, 21, 22, 23, 24, 25, 26, 27, 28, 29, 30, 31, 32, 33, 34, 35, 36, 37, 38, 39, 40, 41, 42, 43, 44, 45, 46, 47, 48, 49, 50, 51, 52] (.sq (.sq (.dr (.pur true 0 (.pur true 1 (.pur true 2 (.pur true 3 (.pur true 4 (.pur true 5 (.pur true 6 (.pur true 7 (.pur false 8 (.pur true 9 (.pur true 10 (.pur true 11 (.pur true 12 (.pur false 13 (.eff 14 [] (.pur true 15 (.pur true 16 .done)))))))))))))))))) (.cd .z .z)) (.sq (.bk (.dr (.pur true 0 (.pur true 1 (.pur true 2 (.pur true 3 (.pur true 4 (.pur true 5 (.pur true 6 (.pur true 7 (.pur true 8 (.pur false 9 (.pur true 10 (.pur true 11 (.pur true 12 (.pur false 13 (.pur true 14 (.eff 15 [] (.pur true 16 (.eff 17 [] .done)))))))))))))))))))) .z)))))) .z))))) [t0, t1, t2, t3] Tryz.func107 (by kernel_rfl) (by kernel_rfl) h
theorem n_slices_insertionSortCmpFunc_api_Fact : Enters Tryz.prog 107 := enters_of Tryz.func107 (by kernel_rfl) rfl
def s_slices_ContainsFunc_int_int (P : Program) (t0 t1 : Value) (w : World) (R : Ending → World → Prop) : Prop :=
 Cl P 133 #[t0, t1] w (Pk R) fun t7 w =>
 Bn P .geq 3 true t7 (.int .i64 0) w fun t8 w =>
 R (.returned t8) w
theorem e_slices_ContainsFunc_int_int (h : s_slices_ContainsFunc_int_int Tryz.prog t0 t1 w R) : Calls Tryz.prog 117 #[t0, t1] w R :=
 en1 (.sq .z (.sq .z .z)) [t0, t1] Tryz.func117 (by kernel_rfl) (by kernel_rfl) h
theorem n_slices_ContainsFunc_int_int : Enters Tryz.prog 117 := enters_of Tryz.func117 (by kernel_rfl) rfl
def s_shard_state_route_1 (P : Program) (t0 t1 : Value) (w : World) (R : Ending → World → Prop) : Prop :=
 Ld P 84 t1 w fun t5 w =>
 Nc t5 w fun t6 w =>
 Fa P 76 t6 0 w fun t7 w =>
 Fa P 30 t7 0 w fun t8 w =>
 Ld P 24 t8 w fun t9 w =>
 Bt P .len #[24] 3 #[t9] w fun t10 w =>
 Bn P .sub 3 true t10 (.int .i64 1) w fun t11 w =>
 Cl P 20 #[t0, (.int .i64 0), t11] w (Pk R) fun t12 w =>
 Un P .not t12 w fun t13 w =>
 R (.returned t13) w
theorem e_shard_state_route_1 (h : s_shard_state_route_1 Tryz.prog t0 t1 w R) : Calls Tryz.prog 118 #[t0, t1] w R :=
 en1 (.sq .z (.sq .z .z)) [t0, t1] Tryz.func118 (by kernel_rfl) (by kernel_rfl) h
theorem n_shard_state_route_1 : Enters Tryz.prog 118 := enters_of Tryz.func118 (by kernel_rfl) rfl
def s_shard_state_move_1 (P : Program) (t0 t1 : Value) (w : World) (R : Ending → World → Prop) : Prop :=
 Bx P 62 t0 w fun t2 w =>
 Fa P 62 t2 1 w fun t4 w =>
 Ld P 3 t4 w fun t5 w =>
 Fa P 27 t1 4 w fun t6 w =>
 Ld P 3 t6 w fun t7 w =>
 Bn P .gtr 3 false t5 t7 w fun t8 w =>
 R (.returned t8) w
theorem e_shard_state_move_1 (h : s_shard_state_move_1 Tryz.prog t0 t1 w R) : Calls Tryz.prog 119 #[t0, t1] w R :=
 en1 (.sq .z (.sq .z .z)) [t0, t1] Tryz.func119 (by kernel_rfl) (by kernel_rfl) h
theorem n_shard_state_move_1 : Enters Tryz.prog 119 := enters_of Tryz.func119 (by kernel_rfl) rfl
def s_shard_state_move_2 (P : Program) (t0 t1 t2 : Value) (w : World) (R : Ending → World → Prop) : Prop :=
 Bx P 62 t0 w fun t3 w =>
 dL P 84 t1 w.drew fun t5 =>
 NcP t5 fun t6 =>
 dFl P 76 t6 0 w.drew fun t7 =>
 dFl P 30 t7 0 w.drew fun t8 =>
 dL P 24 t8 w.drew fun t9 =>
 dFl P 27 t2 3 w.drew fun t10 =>
 dL P 3 t10 w.drew fun t11 =>
 dIx P 24 t9 t11 w.drew fun t12 =>
 dL P 60 t12 w.drew fun t13 =>
 dL P 62 t3 w.drew fun t14 =>
 Cl P 121 #[t13, t14] w.drew (Pk R) fun t15 w =>
 Dv P true (Op.unary .not t15) w fun t16 =>
 R (.returned t16) w
theorem e_shard_state_move_2 (h : s_shard_state_move_2 Tryz.prog t0 t1 t2 w R) : Calls Tryz.prog 120 #[t0, t1, t2] w R :=
 en1 (.sq .z (.sq (.dr (.pur false 0 (.pur true 1 (.pur true 2 (.pur true 3 (.pur false 4 (.pur true 5 (.pur false 6 (.pur true 7 (.pur false 8 (.pur false 9 (.eff 10 [] (.pur true 11 (.pur true 12 .done)))))))))))))) .z)) [t0, t1, t2] Tryz.func120 (by kernel_rfl) (by kernel_rfl) h
theorem n_shard_state_move_2 : Enters Tryz.prog 120 := enters_of Tryz.func120 (by kernel_rfl) rfl
def s_slices_Contains_api_Held_api_Held (P : Program) (t0 t1 : Value) (w : World) (R : Ending → World → Prop) : Prop :=
 Bx P 62 t1 w fun t3 w =>
 Ld P 62 t3 w fun t6 w =>
 Cl P 134 #[t0, t6] w (Pk R) fun t7 w =>
 Bn P .geq 3 true t7 (.int .i64 0) w fun t8 w =>
 R (.returned t8) w
theorem e_slices_Contains_api_Held_api_Held (h : s_slices_Contains_api_Held_api_Held Tryz.prog t0 t1 w R) : Calls Tryz.prog 121 #[t0, t1] w R :=
 en1 (.sq .z (.sq .z .z)) [t0, t1] Tryz.func121 (by kernel_rfl) (by kernel_rfl) h
theorem n_slices_Contains_api_Held_api_Held : Enters Tryz.prog 121 := enters_of Tryz.func121 (by kernel_rfl) rfl
def s_ref37_owned (P : Program) (t0 : Value) (w : World) (R : Ending → World → Prop) : Prop :=
 Bx P 30 t0 w fun t1 w =>
 Lp2 (.slice none 0 0) (.int .i64 0) w (fun t3 t4 w k1 =>
 Fa P 30 t1 2 w fun t9 w =>
 Ld P 3 t9 w fun t10 w =>
 Bn P .lss 3 false t4 t10 w fun t11 w =>
 If t11
 (Lp2 t3 (.int .i64 0) w (fun t3x1 t5 w k2 =>
 Fa P 30 t1 0 w fun t15 w =>
 Ld P 24 t15 w fun t16 w =>
 Bt P .len #[24] 3 #[t16] w fun t17 w =>
 Bn P .lss 3 false t5 t17 w fun t18 w =>
 If t18
 (Lp2 t3x1 (.int .i64 0) w (fun t3x2 t6 w k3 =>
 Fa P 30 t1 0 w fun t22 w =>
 Ld P 24 t22 w fun t23 w =>
 Ia P 24 t23 t5 w fun t25 w =>
 Ld P 60 t25 w fun t26 w =>
 Bt P .len #[60] 3 #[t26] w fun t27 w =>
 Bn P .lss 3 false t6 t27 w fun t28 w =>
 If t28
 (Fa P 30 t1 0 w fun t31 w =>
 Ld P 24 t31 w fun t32 w =>
 Ia P 24 t32 t5 w fun t34 w =>
 Ld P 60 t34 w fun t35 w =>
 Ia P 60 t35 t6 w fun t37 w =>
 Ld P 62 t37 w fun t38 w =>
 Al P 62 w fun t7 w =>
 Sto P 62 t7 t38 w fun w =>
 dFl P 62 t7 1 w.drew fun t39 =>
 dL P 3 t39 w.drew fun t40 =>
 Dv P true (bn .eql 3 false t40 t4) w.drew fun t42 =>
 GdP t42 true (fun k => dFl P 30 t1 1 w.drew k) fun t44 =>
 GdP t42 true (fun k => dL P 25 t44 w.drew k) fun t45 =>
 GdP t42 true (fun k => dFl P 62 t7 0 w.drew k) fun t46 =>
 GdP t42 true (fun k => dL P 42 t46 w.drew k) fun t47 =>
 GdP t42 true (fun k => k t5) fun t51 =>
 Gd t42 true (fun k => Cl P 53 #[t47] w.drew (Pk R) k) w.drew fun t48 w =>
 Kg t42 true P (Instr.loadAt 25 t44) t45 w <|
 GdP t42 true (fun k => dIx P 25 t45 t48 w k) fun t49 =>
 GdP t42 true (fun k => dL P 3 t49 w k) fun t50 =>
 GdP t42 true (fun k => Dv P true (bn .eql 3 false t50 t51) w k) fun t52 =>
 PickP t42 t52 (.bool false) fun t53 =>
 If t53
 (Ld P 62 t7 w fun t55 w =>
 Bs P 60 1 [(0, t55)] w fun t56 w =>
 Bt P .append #[60, 60] 60 #[t3x2, t56] w fun t57 w =>
 Bn P .add 3 true t6 (.int .i64 1) w fun t30 w =>
 k3 t57 t30 w)
 (Bn P .add 3 true t6 (.int .i64 1) w fun t30x1 w =>
 k3 t3x2 t30x1 w))
 (Bn P .add 3 true t5 (.int .i64 1) w fun t20 w =>
 k2 t3x2 t20 w)))
 (Bn P .add 3 true t4 (.int .i64 1) w fun t13 w =>
 k1 t3x1 t13 w)))
 (R (.returned t3) w))
theorem e_ref37_owned (h : s_ref37_owned Tryz.prog t0 w R) : Calls Tryz.prog 122 #[t0] w R :=
 en1 (.sq .z (.sq .z (.sq (.sq .z (.bk (.lp [3, 4] [5, 6, 7, 8, 9, 10, 11, 12, 13, 14, 15, 16, 17, 18, 19, 20, 21, 22, 23, 24, 25, 26, 27, 28, 29, 30, 31, 32, 33, 34, 35, 36, 37, 38, 39, 40, 41, 42, 43, 44, 45, 46, 47, 48, 49, 50, 51, 52, 53, 54, 55, 56, 57] (.sq (.sq .z (.cd .z .z)) (.sq (.bk (.sq .z (.bk (.lp [3, 5] [6, 7, 14, 15, 16, 17, 18, 19, 20, 21, 22, 23, 24, 25, 26, 27, 28, 29, 30, 31, 32, 33, 34, 35, 36, 37, 38, 39, 40, 41, 42, 43, 44, 45, 46, 47, 48, 49, 50, 51, 52, 53, 54, 55, 56, 57] (.sq (.sq .z (.cd .z .z)) (.sq (.bk (.sq .z (.bk (.lp [3, 6] [7, 21, 22, 23, 24, 25, 26, 27, 28, 29, 30, 31, 32, 33, 34, 35, 36, 37, 38, 39, 40, 41, 42, 43, 44, 45, 46, 47, 48, 49, 50, 51, 52, 53, 54, 55, 56, 57] (.sq (.sq .z (.cd .z .z)) (.sq (.bk (.sq .z (.sq (.dr (.pur true 0 (.pur false 1 (.pur true 2 (.pur true 3 (.pur true 4 (.pur true 5 (.pur false 6 (.pur true 7 (.pur false 8 (.pur true 12 (.eff 9 [6] (.pur true 10 (.pur false 11 (.pur true 13 (.pur true 14 .done)))))))))))))))) (.cd .z .z)))) .z)))))) .z)))))) .z))))) (.sq .z .z)))) [t0] Tryz.func122 (by kernel_rfl) (by kernel_rfl) h
theorem n_ref37_owned : Enters Tryz.prog 122 := enters_of Tryz.func122 (by kernel_rfl) rfl
def s_ref37_equal (P : Program) (t0 t1 : Value) (w : World) (R : Ending → World → Prop) : Prop :=
 Bt P .len #[60] 3 #[t0] w fun t7 w =>
 Bt P .len #[60] 3 #[t1] w fun t9 w =>
 Bn P .neq 3 false t7 t9 w fun t10 w =>
 If t10
 (R (.returned (.bool false)) w)
 (Lp1 (.int .i64 0) w (fun t5 w k1 =>
 Bt P .len #[60] 3 #[t0] w fun t13 w =>
 Bn P .lss 3 false t5 t13 w fun t14 w =>
 If t14
 (dIx P 60 t0 t5 w.drew fun t19 =>
 dL P 62 t19 w.drew fun t20 =>
 dIx P 60 t1 t5 w.drew fun t23 =>
 dL P 62 t23 w.drew fun t24 =>
 Dv P false (bn .neq 62 false t20 t24) w.drew fun t25 =>
 If t25
 (R (.returned (.bool false)) w.drew)
 (Bn P .add 3 true t5 (.int .i64 1) w.drew fun t16 w =>
 k1 t16 w))
 (R (.returned (.bool true)) w)))
theorem e_ref37_equal (h : s_ref37_equal Tryz.prog t0 t1 w R) : Calls Tryz.prog 123 #[t0, t1] w R :=
 en1 (.sq .z (.sq (.sq .z (.cd (.sq .z .z) .z)) (.sq (.sq .z (.bk (.lp [5] [4, 11, 12, 13, 14, 15, 16, 17, 18, 19, 20, 21, 22, 23, 24, 25] (.sq (.sq .z (.cd .z .z)) (.sq (.bk (.sq (.dr (.pur true 0 (.pur true 1 (.pur true 2 (.pur false 3 (.pur true 4 (.pur true 5 (.pur true 6 (.pur false 7 (.pur false 8 .done)))))))))) (.cd (.sq .z .z) .z))) .z))))) (.sq .z .z)))) [t0, t1] Tryz.func123 (by kernel_rfl) (by kernel_rfl) h
theorem n_ref37_equal : Enters Tryz.prog 123 := enters_of Tryz.func123 (by kernel_rfl) rfl
def s_ref37_upto (P : Program) (t0 t1 : Value) (w : World) (R : Ending → World → Prop) : Prop :=
 Lp2 (.slice none 0 0) (.int .i64 0) w (fun t5 t6 w k1 =>
 Bt P .len #[60] 3 #[t0] w fun t9 w =>
 Bn P .lss 3 false t6 t9 w fun t10 w =>
 If t10
 (Ia P 60 t0 t6 w fun t15 w =>
 Fa P 62 t15 1 w fun t16 w =>
 Ld P 3 t16 w fun t17 w =>
 Bn P .leq 3 false t17 t1 w fun t19 w =>
 If t19
 (Ia P 60 t0 t6 w fun t23 w =>
 Ld P 62 t23 w fun t24 w =>
 Bs P 60 1 [(0, t24)] w fun t25 w =>
 Bt P .append #[60, 60] 60 #[t5, t25] w fun t26 w =>
 Bn P .add 3 true t6 (.int .i64 1) w fun t12 w =>
 k1 t26 t12 w)
 (Bn P .add 3 true t6 (.int .i64 1) w fun t12x1 w =>
 k1 t5 t12x1 w))
 (R (.returned t5) w))
theorem e_ref37_upto (h : s_ref37_upto Tryz.prog t0 t1 w R) : Calls Tryz.prog 124 #[t0, t1] w R :=
 en1 (.sq .z (.sq .z (.sq (.sq .z (.bk (.lp [5, 6] [7, 8, 9, 10, 11, 12, 13, 14, 15, 16, 17, 18, 19, 20, 21, 22, 23, 24, 25, 26] (.sq (.sq .z (.cd .z .z)) (.sq (.bk (.sq .z (.cd .z .z))) .z))))) (.sq .z .z)))) [t0, t1] Tryz.func124 (by kernel_rfl) (by kernel_rfl) h
theorem n_ref37_upto : Enters Tryz.prog 124 := enters_of Tryz.func124 (by kernel_rfl) rfl
def s_ref37_holds (P : Program) (t0 t1 : Value) (w : World) (R : Ending → World → Prop) : Prop :=
 Bx P 62 t1 w fun t3 w =>
 Lp1 (.int .i64 0) w (fun t5 w k1 =>
 Bt P .len #[60] 3 #[t0] w fun t8 w =>
 Bn P .lss 3 false t5 t8 w fun t9 w =>
 If t9
 (dIx P 60 t0 t5 w.drew fun t14 =>
 dL P 62 t14 w.drew fun t15 =>
 dL P 62 t3 w.drew fun t16 =>
 Dv P false (bn .eql 62 false t15 t16) w.drew fun t17 =>
 If t17
 (R (.returned (.bool true)) w.drew)
 (Bn P .add 3 true t5 (.int .i64 1) w.drew fun t11 w =>
 k1 t11 w))
 (R (.returned (.bool false)) w))
theorem e_ref37_holds (h : s_ref37_holds Tryz.prog t0 t1 w R) : Calls Tryz.prog 125 #[t0, t1] w R :=
 en1 (.sq .z (.sq (.sq .z (.bk (.lp [5] [4, 6, 7, 8, 9, 10, 11, 12, 13, 14, 15, 16, 17] (.sq (.sq .z (.cd .z .z)) (.sq (.bk (.sq (.dr (.pur true 0 (.pur true 1 (.pur true 2 (.pur false 3 (.pur false 4 (.pur false 5 .done))))))) (.cd (.sq .z .z) .z))) .z))))) (.sq .z .z))) [t0, t1] Tryz.func125 (by kernel_rfl) (by kernel_rfl) h
theorem n_ref37_holds : Enters Tryz.prog 125 := enters_of Tryz.func125 (by kernel_rfl) rfl
def s_ref37_before (P : Program) (t0 t1 : Value) (w : World) (R : Ending → World → Prop) : Prop :=
 Bx P 42 t0 w fun t2 w =>
 Bx P 42 t1 w fun t3 w =>
 Fa P 42 t2 0 w fun t5 w =>
 Ld P 3 t5 w fun t6 w =>
 Fa P 42 t3 0 w fun t7 w =>
 Ld P 3 t7 w fun t8 w =>
 Bn P .lss 3 false t6 t8 w fun t9 w =>
 Gd t9 false (fun k => Fa P 42 t2 0 w k) w fun t11 w =>
 Gd t9 false (fun k => Ld P 3 t11 w k) w fun t12 w =>
 Gd t9 false (fun k => Fa P 42 t3 0 w k) w fun t13 w =>
 Gd t9 false (fun k => Ld P 3 t13 w k) w fun t14 w =>
 Gd t9 false (fun k => Bn P .eql 3 false t12 t14 w k) w fun t15 w =>
 Gd t9 false (fun k => k t15 w) w fun t16 w =>
 Gd t16 true (fun k => Fa P 42 t2 1 w k) w fun t17 w =>
 Gd t16 true (fun k => Ld P 3 t17 w k) w fun t18 w =>
 Gd t16 true (fun k => Fa P 42 t3 1 w k) w fun t19 w =>
 Gd t16 true (fun k => Ld P 3 t19 w k) w fun t20 w =>
 Gd t16 true (fun k => Bn P .lss 3 false t18 t20 w k) w fun t21 w =>
 Gd t9 false (fun k => Pick t16 t21 (.bool false) w k) w fun t22 w =>
 Pick t9 (.bool true) t22 w fun t23 w =>
 R (.returned t23) w
theorem e_ref37_before (h : s_ref37_before Tryz.prog t0 t1 w R) : Calls Tryz.prog 126 #[t0, t1] w R :=
 en1 (.sq .z (.sq .z .z)) [t0, t1] Tryz.func126 (by kernel_rfl) (by kernel_rfl) h
theorem n_ref37_before : Enters Tryz.prog 126 := enters_of Tryz.func126 (by kernel_rfl) rfl
def s_slices_IndexFunc_int_int (P : Program) (t0 t1 : Value) (w : World) (R : Ending → World → Prop) : Prop :=
 Bt P .len #[25] 3 #[t0] w fun t7 w =>
 Lp1 (.int .i64 0) w (fun t8 w k1 =>
 Bn P .lss 3 false t8 t7 w fun t9 w =>
 If t9
 (Ia P 25 t0 t8 w fun t14 w =>
 Ld P 3 t14 w fun t15 w =>
 Cw P t1 #[t15] w (Pk R) fun t16 w =>
 If t16
 (R (.returned t8) w)
 (Bn P .add 3 true t8 (.int .i64 1) w fun t18 w =>
 k1 t18 w))
 (R (.returned (.int .i64 (-1))) w))
theorem e_slices_IndexFunc_int_int (h : s_slices_IndexFunc_int_int Tryz.prog t0 t1 w R) : Calls Tryz.prog 133 #[t0, t1] w R :=
 en1 (.sq .z (.sq (.sq .z (.bk (.lp [8] [4, 5, 9, 10, 11, 12, 13, 14, 15, 16, 17, 18] (.sq .z (.sq (.cd .z .z) (.sq (.bk (.sq .z (.sq .z (.cd (.sq .z .z) .z)))) .z)))))) (.sq .z .z))) [t0, t1] Tryz.func133 (by kernel_rfl) (by kernel_rfl) h
theorem n_slices_IndexFunc_int_int : Enters Tryz.prog 133 := enters_of Tryz.func133 (by kernel_rfl) rfl
def s_slices_Index_api_Held_api_Held (P : Program) (t0 t1 : Value) (w : World) (R : Ending → World → Prop) : Prop :=
 Bx P 62 t1 w fun t3 w =>
 Bt P .len #[60] 3 #[t0] w fun t7 w =>
 Lp1 (.int .i64 0) w (fun t8 w k1 =>
 Bn P .lss 3 false t8 t7 w fun t9 w =>
 If t9
 (dL P 62 t3 w.drew fun t11 =>
 dIx P 60 t0 t8 w.drew fun t14 =>
 dL P 62 t14 w.drew fun t15 =>
 Dv P false (bn .eql 62 false t11 t15) w.drew fun t16 =>
 If t16
 (R (.returned t8) w.drew)
 (Bn P .add 3 true t8 (.int .i64 1) w.drew fun t18 w =>
 k1 t18 w))
 (R (.returned (.int .i64 (-1))) w))
theorem e_slices_Index_api_Held_api_Held (h : s_slices_Index_api_Held_api_Held Tryz.prog t0 t1 w R) : Calls Tryz.prog 134 #[t0, t1] w R :=
 en1 (.sq .z (.sq (.sq .z (.bk (.lp [8] [4, 5, 9, 10, 11, 12, 13, 14, 15, 16, 17, 18] (.sq .z (.sq (.cd .z .z) (.sq (.bk (.sq .z (.sq (.dr (.pur false 0 (.pur true 1 (.pur true 2 (.pur true 3 (.pur false 4 (.pur false 5 .done))))))) (.cd (.sq .z .z) .z)))) .z)))))) (.sq .z .z))) [t0, t1] Tryz.func134 (by kernel_rfl) (by kernel_rfl) h
theorem n_slices_Index_api_Held_api_Held : Enters Tryz.prog 134 := enters_of Tryz.func134 (by kernel_rfl) rfl
end Go.Proofs.YthdhnhghjecfkaaGreat
