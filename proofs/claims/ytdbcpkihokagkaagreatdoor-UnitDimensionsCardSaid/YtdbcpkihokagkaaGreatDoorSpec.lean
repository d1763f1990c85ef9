/-
  Formulas of functions. By an AI agent.
-/
import Derived.Test.YtdbcpkihokagkaaGreatDoorEng
import Derived.Test.YtdbcpkihokagkaaGreatDoorProg
set_option linter.unusedSimpArgs false
set_option linter.unusedVariables false
set_option linter.unusedSectionVars false
namespace Go.Proofs.YtdbcpkihokagkaaGreatDoor
open Go Go.Eng Go.Shelf
set_option maxRecDepth 100000
variable {t0 t1 t2 t3 : Value} {w : World} {R : Ending → World → Prop}
def s_law05_sane (P : Program) (w : World) (R : Ending → World → Prop) : Prop :=
 Cl P 36 #[(str [49]), (str [49])] w (Pk R) fun t28 w =>
 Cl P 36 #[(str [49]), (str [50])] w (Pk R) fun t29 w =>
 Cl P 17 #[t28, t29] w (Pk R) fun t30 w =>
 Ex t30 0 w fun t31 w =>
 Ex t30 1 w fun t32 w =>
 Al P 27 w fun t1 w =>
 Sto P 27 t1 t31 w fun w =>
 Cl P 36 #[(str [49]), (str [49])] w (Pk R) fun t34 w =>
 Bd P 23 [(0, (str [49])), (1, (str [49]))] w fun t35 w =>
 Bd P 25 [(1, (.int .i64 1))] w fun t36 w =>
 Bd P 27 [(0, t35), (1, t36)] w fun t37 w =>
 Cl P 17 #[t34, t37] w (Pk R) fun t38 w =>
 Ex t38 0 w fun t39 w =>
 Ex t38 1 w fun t40 w =>
 Al P 27 w fun t3 w =>
 Sto P 27 t3 t39 w fun w =>
 Cl P 36 #[(str [50]), (str [49])] w (Pk R) fun t42 w =>
 Cl P 36 #[(str [51]), (str [49])] w (Pk R) fun t43 w =>
 Cl P 21 #[t42, t43] w (Pk R) fun t44 w =>
 Ex t44 0 w fun t45 w =>
 Ex t44 1 w fun t46 w =>
 Al P 27 w fun t5 w =>
 Sto P 27 t5 t45 w fun w =>
 Ld P 27 t5 w fun t48 w =>
 Ld P 27 t5 w fun t49 w =>
 Cl P 21 #[t48, t49] w (Pk R) fun t50 w =>
 Ex t50 0 w fun t51 w =>
 Ex t50 1 w fun t52 w =>
 Al P 27 w fun t7 w =>
 Sto P 27 t7 t51 w fun w =>
 Bd P 23 [(0, (str [54])), (1, (str [49]))] w fun t54 w =>
 Bd P 25 [(2, (.int .i64 1))] w fun t55 w =>
 Bd P 27 [(0, t54), (1, t55)] w fun t56 w =>
 Cl P 36 #[(str [51]), (str [49])] w (Pk R) fun t57 w =>
 Cl P 23 #[t56, t57] w (Pk R) fun t58 w =>
 Ex t58 0 w fun t59 w =>
 Ex t58 1 w fun t60 w =>
 Al P 27 w fun t9 w =>
 Sto P 27 t9 t59 w fun w =>
 Cl P 36 #[(str [49]), (str [49])] w (Pk R) fun t62 w =>
 Cl P 36 #[(str [48]), (str [49])] w (Pk R) fun t63 w =>
 Cl P 23 #[t62, t63] w (Pk R) fun t64 w =>
 Ex t64 0 w fun t65 w =>
 Ex t64 1 w fun t66 w =>
 Al P 27 w fun t11 w =>
 Sto P 27 t11 t65 w fun w =>
 Jn2 (fun k1 =>
 dL P 27 t1 w.drew fun t68 =>
 (Cl P 36 #[(str [51]), (str [50])] w.drew (Pk R) fun t69 w =>
 kLd P 27 t1 t68 w <|
 (Cl P 19 #[t68, t69] w (Pk R) fun t70 w =>
 ExP t70 0 fun t71 =>
 ExP t70 1 fun t72 =>
 Al P 27 w fun t13 w =>
 kLd P 27 t1 t68 w <|
 Sto P 27 t13 t71 w fun w =>
 k1 t13 t72 w) ∧
 (Al P 27 w fun t13x1 w =>
 kLd P 27 t1 t68 w <|
 Cl P 19 #[t68, t69] w (Pk R) fun t70x1 w =>
 ExP t70x1 0 fun t71x1 =>
 ExP t70x1 1 fun t72x1 =>
 Sto P 27 t13x1 t71x1 w fun w =>
 k1 t13x1 t72x1 w)) ∧
 (Al P 27 w.drew fun t13x2 w =>
 kLd P 27 t1 t68 w <|
 Cl P 36 #[(str [51]), (str [50])] w (Pk R) fun t69x1 w =>
 kLd P 27 t1 t68 w <|
 Cl P 19 #[t68, t69x1] w (Pk R) fun t70x2 w =>
 ExP t70x2 0 fun t71x2 =>
 ExP t70x2 1 fun t72x2 =>
 Sto P 27 t13x2 t71x2 w fun w =>
 k1 t13x2 t72x2 w))
 (fun t13x3 t14 w =>
 Cl P 31 #[(str [51, 47, 50, 32, 117, 115, 32, 98, 121, 116, 101, 94, 45, 49])] w (Pk R) fun t74 w =>
 Ex t74 0 w fun t75 w =>
 Ex t74 1 w fun t76 w =>
 Al P 27 w fun t15 w =>
 Sto P 27 t15 t75 w fun w =>
 Cl P 31 #[(str [53, 32, 117, 115, 94, 49])] w (Pk R) fun t78 w =>
 Ex t78 0 w fun t79 w =>
 Ex t78 1 w fun t80 w =>
 Al P 27 w fun t17 w =>
 Sto P 27 t17 t79 w fun w =>
 Cl P 36 #[(str [49]), (str [50])] w (Pk R) fun t82 w =>
 Cl P 36 #[(str [49]), (str [51])] w (Pk R) fun t83 w =>
 Cl P 25 #[t82, t83] w (Pk R) fun t84 w =>
 Ex t84 0 w fun t85 w =>
 Ex t84 1 w fun t86 w =>
 Cl P 36 #[(str [49]), (str [50])] w (Pk R) fun t88 w =>
 Cl P 27 #[t88] w (Pk R) fun t89 w =>
 Ex t89 0 w fun t90 w =>
 Ex t89 1 w fun t91 w =>
 Cl P 33 #[t90, (.int .i64 0)] w (Pk R) fun t94 w =>
 Ex t94 0 w fun t95 w =>
 Ex t94 1 w fun t96 w =>
 Ex t94 2 w fun t97 w =>
 Al P 27 w fun t23 w =>
 Sto P 27 t23 t95 w fun w =>
 Bn P .eql 35 true t32 (.int .i64 0) w fun t99 w =>
 Gd t99 true (fun k => k t40 w) w fun t101 w =>
 Gd t99 true (fun k => Bn P .eql 35 true t101 (.int .i64 50) w k) w fun t102 w =>
 Pick t99 t102 (.bool false) w fun t103 w =>
 Gd t103 true (fun k => k t46 w) w fun t105 w =>
 Gd t103 true (fun k => Bn P .eql 35 true t105 (.int .i64 0) w k) w fun t106 w =>
 Pick t103 t106 (.bool false) w fun t107 w =>
 Gd t107 true (fun k => k t52 w) w fun t109 w =>
 Gd t107 true (fun k => Bn P .eql 35 true t109 (.int .i64 50) w k) w fun t110 w =>
 Pick t107 t110 (.bool false) w fun t111 w =>
 Gd t111 true (fun k => k t60 w) w fun t113 w =>
 Gd t111 true (fun k => Bn P .eql 35 true t113 (.int .i64 0) w k) w fun t114 w =>
 Pick t111 t114 (.bool false) w fun t115 w =>
 Gd t115 true (fun k => k t66 w) w fun t117 w =>
 Gd t115 true (fun k => Bn P .eql 35 true t117 (.int .i64 50) w k) w fun t118 w =>
 Pick t115 t118 (.bool false) w fun t119 w =>
 Gd t119 true (fun k => k t14 w) w fun t121 w =>
 Gd t119 true (fun k => Bn P .eql 35 true t121 (.int .i64 0) w k) w fun t122 w =>
 Pick t119 t122 (.bool false) w fun t123 w =>
 Gd t123 true (fun k => k t76 w) w fun t125 w =>
 Gd t123 true (fun k => Bn P .eql 35 true t125 (.int .i64 0) w k) w fun t126 w =>
 Pick t123 t126 (.bool false) w fun t127 w =>
 Gd t127 true (fun k => k t80 w) w fun t129 w =>
 Gd t127 true (fun k => Bn P .eql 35 true t129 (.int .i64 50) w k) w fun t130 w =>
 Pick t127 t130 (.bool false) w fun t131 w =>
 Gd t131 true (fun k => k t86 w) w fun t133 w =>
 Gd t131 true (fun k => Bn P .eql 35 true t133 (.int .i64 0) w k) w fun t134 w =>
 Pick t131 t134 (.bool false) w fun t135 w =>
 Gd t135 true (fun k => k t91 w) w fun t137 w =>
 Gd t135 true (fun k => Bn P .eql 35 true t137 (.int .i64 0) w k) w fun t138 w =>
 Pick t135 t138 (.bool false) w fun t139 w =>
 Gd t139 true (fun k => k t97 w) w fun t141 w =>
 Gd t139 true (fun k => Bn P .eql 35 true t141 (.int .i64 0) w k) w fun t142 w =>
 Pick t139 t142 (.bool false) w fun t143 w =>
 GdP t143 true (fun k => dL P 27 t1 w.drew k) fun t146 =>
 Gd t143 true (fun k => Cl P 36 #[(str [51]), (str [50])] w.drew (Pk R) k) w.drew fun t147 w =>
 Kg t143 true P (Instr.loadAt 27 t1) t146 w <|
 GdP t143 true (fun k => Dv P false (bn .eql 27 false t146 t147) w k) fun t148 =>
 PickP t143 t148 (.bool false) fun t149 =>
 GdP t149 true (fun k => dL P 27 t5 w k) fun t151 =>
 GdP t149 true (fun k => Dv P true (Instr.build 23 #[(0, (str [54])), (1, (str [49]))]) w k) fun t152 =>
 GdP t149 true (fun k => Dv P true (Instr.build 25 #[(0, (.int .i64 2))]) w k) fun t153 =>
 GdP t149 true (fun k => Dv P true (Instr.build 27 #[(0, t152), (1, t153)]) w k) fun t154 =>
 GdP t149 true (fun k => Dv P false (bn .eql 27 false t151 t154) w k) fun t155 =>
 PickP t149 t155 (.bool false) fun t156 =>
 GdP t156 true (fun k => dL P 27 t9 w k) fun t158 =>
 Gd t156 true (fun k => Cl P 29 #[t158] w (Pk R) k) w fun t159 w =>
 GdP t156 true (fun k => Dv P true (bn .eql 9 true t159 (str [50, 32, 117, 115, 94, 45, 49, 32, 99, 101, 110, 116])) w k) fun t160 =>
 PickP t156 t160 (.bool false) fun t161 =>
 GdP t161 true (fun k => dL P 27 t13x3 w k) fun t163 =>
 Gd t161 true (fun k => Cl P 36 #[(str [48]), (str [49])] w (Pk R) k) w fun t164 w =>
 Kg t161 true P (Instr.loadAt 27 t13x3) t163 w <|
 GdP t161 true (fun k => Dv P false (bn .eql 27 false t163 t164) w k) fun t165 =>
 PickP t161 t165 (.bool false) fun t166 =>
 GdP t166 true (fun k => dL P 27 t15 w k) fun t168 =>
 GdP t166 true (fun k => Dv P true (Instr.build 23 #[(0, (str [51])), (1, (str [50]))]) w k) fun t169 =>
 GdP t166 true (fun k => Dv P true (Instr.build 25 #[(0, (.int .i64 1)), (1, (.int .i64 (-1)))]) w k) fun t170 =>
 GdP t166 true (fun k => Dv P true (Instr.build 27 #[(0, t169), (1, t170)]) w k) fun t171 =>
 GdP t166 true (fun k => Dv P false (bn .eql 27 false t168 t171) w k) fun t172 =>
 PickP t166 t172 (.bool false) fun t173 =>
 GdP t173 true (fun k => k t85) fun t175 =>
 GdP t173 true (fun k => Dv P true (bn .eql 3 true t175 (.int .i64 1)) w k) fun t176 =>
 PickP t173 t176 (.bool false) fun t177 =>
 GdP t177 true (fun k => k t90) fun t179 =>
 GdP t177 true (fun k => Dv P true (bn .eql 9 true t179 (str [2, 49, 2, 50, 2, 0, 0, 0])) w k) fun t180 =>
 PickP t177 t180 (.bool false) fun t181 =>
 GdP t181 true (fun k => k t96) fun t183 =>
 GdP t181 true (fun k => Dv P true (bn .eql 3 true t183 (.int .i64 8)) w k) fun t184 =>
 PickP t181 t184 (.bool false) fun t185 =>
 GdP t185 true (fun k => dL P 27 t1 w k) fun t187 =>
 Gd t185 true (fun k => Cl P 13 #[t187] w (Pk R) k) w fun t188 w =>
 PickP t185 t188 (.bool false) fun t189 =>
 GdP t189 true (fun k => Dv P true (Instr.build 27 #[]) w k) fun t191 =>
 Gd t189 true (fun k => Cl P 13 #[t191] w (Pk R) k) w fun t192 w =>
 GdP t189 true (fun k => Dv P true (Op.unary .not t192) w k) fun t193 =>
 PickP t189 t193 (.bool false) fun t194 =>
 GdP t194 true (fun k => Dv P true (Instr.build 25 #[(3, (.int .i64 (-3)))]) w k) fun t196 =>
 Gd t194 true (fun k => Cl P 15 #[t196] w (Pk R) k) w fun t197 w =>
 PickP t194 t197 (.bool false) fun t198 =>
 GdP t198 true (fun k => Dv P true (Instr.build 25 #[(3, (.int .i64 4))]) w k) fun t200 =>
 Gd t198 true (fun k => Cl P 15 #[t200] w (Pk R) k) w fun t201 w =>
 GdP t198 true (fun k => Dv P true (Op.unary .not t201) w k) fun t202 =>
 PickP t198 t202 (.bool false) fun t203 =>
 R (.returned t203) w)
theorem e_law05_sane (h : s_law05_sane Tryz.prog  w R) : Calls Tryz.prog 10 #[] w R :=
 en1 (.sq .z (.sq .z (.sq .z (.sq .z (.sq .z (.sq .z (.sq .z (.jn [13, 14] [67, 68, 69, 70, 71, 72] (.dr (.pur false 0 (.alt (.eff 1 [0] (.alt (.eff 2 [] (.pur true 3 (.pur true 4 (.pur true 5 (.eff 6 [0] (.eff 7 [] (.pur true 8 .done))))))) (.eff 6 [0] (.eff 2 [] (.pur true 3 (.pur true 4 (.pur true 5 (.eff 7 [] (.pur true 8 .done))))))))) (.eff 6 [0] (.eff 1 [0] (.eff 2 [] (.pur true 3 (.pur true 4 (.pur true 5 (.eff 7 [] (.pur true 8 .done))))))))))) (.sq .z (.sq .z (.sq .z (.sq .z (.sq .z (.sq .z (.sq (.dr (.pur true 0 (.pur true 1 (.pur false 2 (.eff 3 [2] (.pur false 4 (.pur true 5 (.pur true 6 (.pur false 7 (.pur true 8 (.pur true 9 (.pur true 10 (.pur false 11 (.pur true 12 (.pur true 13 (.pur false 14 (.eff 15 [] (.pur true 16 (.pur true 17 (.pur true 18 (.pur false 19 (.eff 20 [19] (.pur false 21 (.pur true 22 (.pur true 23 (.pur false 24 (.pur true 25 (.pur true 26 (.pur true 27 (.pur false 28 (.pur true 29 (.pur true 30 (.pur true 31 (.pur true 32 (.pur true 33 (.pur true 34 (.pur true 35 (.pur true 36 (.pur true 37 (.pur true 38 (.pur true 39 (.pur true 40 (.pur true 41 (.pur true 42 (.pur false 43 (.eff 44 [] (.pur true 45 (.pur true 46 (.pur true 47 (.eff 48 [] (.pur true 49 (.pur true 50 (.pur true 51 (.pur true 52 (.eff 53 [] (.pur true 54 (.pur true 55 (.pur true 56 (.eff 57 [] (.pur true 58 (.pur true 59 (.pur true 60 .done)))))))))))))))))))))))))))))))))))))))))))))))))))))))))))))) .z))))))))))))))) [] Tryz.func10 (by kernel_rfl) (by kernel_rfl) h
theorem n_law05_sane : Enters Tryz.prog 10 := enters_of Tryz.func10 (by kernel_rfl) rfl
def s_ref05_Made (P : Program) (t0 : Value) (w : World) (R : Ending → World → Prop) : Prop :=
 Bx P 28 t0 w fun t1 w =>
 Al P 27 w fun t2 w =>
 Jn2 (fun k1 =>
 Dv P true (Instr.indexAt 28 t1 (.int .i64 0)) w.drew fun t7 =>
 dL P 3 t7 w.drew fun t8 =>
 Dv P true (Instr.indexAt 28 t1 (.int .i64 1)) w.drew fun t11 =>
 dL P 3 t11 w.drew fun t12 =>
 (Cl P 38 #[t8, (.int .i64 41)] w.drew (Pk R) fun t9 w =>
 kLd P 3 t11 t12 w <|
 Dv P true (bn .sub 3 true t9 (.int .i64 20)) w fun t10 =>
 (Cl P 38 #[t12, (.int .i64 9)] w (Pk R) fun t13 w =>
 Dv P true (bn .add 3 true (.int .i64 1) t13) w fun t14 =>
 (Cl P 37 #[t10, t14] w (Pk R) fun t15 w =>
 ExP t15 0 fun t16 =>
 ExP t15 1 fun t17 =>
 Al P 23 w fun t3 w =>
 kLd P 3 t7 t8 w <|
 kLd P 3 t11 t12 w <|
 Sto P 23 t3 t16 w fun w =>
 k1 t3 t17 w) ∧
 (Al P 23 w fun t3x1 w =>
 kLd P 3 t7 t8 w <|
 kLd P 3 t11 t12 w <|
 Cl P 37 #[t10, t14] w (Pk R) fun t15x1 w =>
 ExP t15x1 0 fun t16x1 =>
 ExP t15x1 1 fun t17x1 =>
 Sto P 23 t3x1 t16x1 w fun w =>
 k1 t3x1 t17x1 w)) ∧
 (Al P 23 w fun t3x2 w =>
 kLd P 3 t7 t8 w <|
 kLd P 3 t11 t12 w <|
 Cl P 38 #[t12, (.int .i64 9)] w (Pk R) fun t13x1 w =>
 Dv P true (bn .add 3 true (.int .i64 1) t13x1) w fun t14x1 =>
 Cl P 37 #[t10, t14x1] w (Pk R) fun t15x2 w =>
 ExP t15x2 0 fun t16x2 =>
 ExP t15x2 1 fun t17x2 =>
 Sto P 23 t3x2 t16x2 w fun w =>
 k1 t3x2 t17x2 w)) ∧
 (Al P 23 w.drew fun t3x3 w =>
 kLd P 3 t7 t8 w <|
 kLd P 3 t11 t12 w <|
 Cl P 38 #[t8, (.int .i64 41)] w (Pk R) fun t9x1 w =>
 kLd P 3 t11 t12 w <|
 Dv P true (bn .sub 3 true t9x1 (.int .i64 20)) w fun t10x1 =>
 Cl P 38 #[t12, (.int .i64 9)] w (Pk R) fun t13x2 w =>
 Dv P true (bn .add 3 true (.int .i64 1) t13x2) w fun t14x2 =>
 Cl P 37 #[t10x1, t14x2] w (Pk R) fun t15x3 w =>
 ExP t15x3 0 fun t16x3 =>
 ExP t15x3 1 fun t17x3 =>
 Sto P 23 t3x3 t16x3 w fun w =>
 k1 t3x3 t17x3 w))
 (fun t3x4 t4 w =>
 Jn1 (fun k2 =>
 Ia P 28 t1 (.int .i64 2) w fun t18 w =>
 Ld P 3 t18 w fun t19 w =>
 Cl P 38 #[t19, (.int .i64 7)] w (Pk R) fun t20 w =>
 Bn P .eql 3 true t20 (.int .i64 6) w fun t21 w =>
 If t21
 (Dv P true (Instr.indexAt 28 t1 (.int .i64 0)) w.drew fun t23 =>
 dL P 3 t23 w.drew fun t24 =>
 Dv P true (Instr.indexAt 28 t1 (.int .i64 1)) w.drew fun t26 =>
 dL P 3 t26 w.drew fun t27 =>
 Cl P 38 #[t24, (.int .i64 1152921504606846976)] w.drew (Pk R) fun t25 w =>
 kLd P 3 t26 t27 w <|
 Cl P 38 #[t27, (.int .i64 1099511627776)] w (Pk R) fun t28 w =>
 Dv P true (bn .add 3 true (.int .i64 1) t28) w fun t29 =>
 Cl P 37 #[t25, t29] w (Pk R) fun t30 w =>
 ExP t30 0 fun t31 =>
 ExP t30 1 fun t32 =>
 Sto P 23 t3x4 t31 w fun w =>
 k2 t32 w)
 (k2 t4 w))
 (fun t4x1 w =>
 Bn P .neq 35 true t4x1 (.int .i64 0) w fun t34 w =>
 If t34
 (Bd P 23 [(0, (str [48])), (1, (str [49]))] w fun t35 w =>
 Bd P 27 [(0, t35)] w fun t36 w =>
 Sto P 27 t2 t36 w fun w =>
 Rc P 27 t2 w fun r0 =>
 R (.returned r0) w)
 (Ia P 28 t1 (.int .i64 3) w fun t37 w =>
 Ld P 3 t37 w fun t38 w =>
 Cl P 38 #[t38, (.int .i64 625)] w (Pk R) fun t39 w =>
 Ld P 23 t3x4 w fun t40 w =>
 Bn P .rem 3 true t39 (.int .i64 5) w fun t42 w =>
 Bn P .sub 3 true t42 (.int .i64 2) w fun t43 w =>
 Bn P .quo 3 true t39 (.int .i64 5) w fun t45 w =>
 Bn P .rem 3 true t45 (.int .i64 5) w fun t46 w =>
 Bn P .sub 3 true t46 (.int .i64 2) w fun t47 w =>
 Bn P .quo 3 true t39 (.int .i64 25) w fun t49 w =>
 Bn P .rem 3 true t49 (.int .i64 5) w fun t50 w =>
 Bn P .sub 3 true t50 (.int .i64 2) w fun t51 w =>
 Bn P .quo 3 true t39 (.int .i64 125) w fun t53 w =>
 Bn P .sub 3 true t53 (.int .i64 2) w fun t54 w =>
 Bd P 25 [(0, t43), (1, t47), (2, t51), (3, t54)] w fun t55 w =>
 Bd P 27 [(0, t40), (1, t55)] w fun t56 w =>
 Sto P 27 t2 t56 w fun w =>
 Rc P 27 t2 w fun r0 =>
 R (.returned r0) w)))
theorem e_ref05_Made (h : s_ref05_Made Tryz.prog t0 w R) : Calls Tryz.prog 12 #[t0] w R :=
 en1 (.sq .z (.jn [3, 4] [6, 7, 8, 9, 10, 11, 12, 13, 14, 15, 16, 17] (.dr (.pur true 0 (.pur false 1 (.pur true 4 (.pur false 5 (.alt (.eff 2 [5] (.pur true 3 (.alt (.eff 6 [] (.pur true 7 (.alt (.eff 8 [] (.pur true 9 (.pur true 10 (.pur true 11 (.eff 12 [1, 5] (.eff 13 [] (.pur true 14 .done))))))) (.eff 12 [1, 5] (.eff 8 [] (.pur true 9 (.pur true 10 (.pur true 11 (.eff 13 [] (.pur true 14 .done)))))))))) (.eff 12 [1, 5] (.eff 6 [] (.pur true 7 (.eff 8 [] (.pur true 9 (.pur true 10 (.pur true 11 (.eff 13 [] (.pur true 14 .done)))))))))))) (.eff 12 [1, 5] (.eff 2 [5] (.pur true 3 (.eff 6 [] (.pur true 7 (.eff 8 [] (.pur true 9 (.pur true 10 (.pur true 11 (.eff 13 [] (.pur true 14 .done))))))))))))))))) (.jn [4] [18, 19, 20, 21, 22, 23, 24, 25, 26, 27, 28, 29, 30, 31, 32] (.sq .z (.cd (.dr (.pur true 0 (.pur false 1 (.pur true 3 (.pur false 4 (.eff 2 [4] (.eff 5 [] (.pur true 6 (.eff 7 [] (.pur true 8 (.pur true 9 (.pur true 10 (.eff 11 [] (.pur true 12 .done)))))))))))))) .z)) (.sq (.sq .z (.cd (.sq .z .z) .z)) (.sq .z (.sq .z .z)))))) [t0] Tryz.func12 (by kernel_rfl) (by kernel_rfl) h
theorem n_ref05_Made : Enters Tryz.prog 12 := enters_of Tryz.func12 (by kernel_rfl) rfl
def s_unit_Valid (P : Program) (t0 : Value) (w : World) (R : Ending → World → Prop) : Prop :=
 Bx P 27 t0 w fun t1 w =>
 Fa P 27 t1 1 w fun t3 w =>
 Ld P 25 t3 w fun t4 w =>
 Cl P 15 #[t4] w (Pk R) fun t5 w =>
 Gd t5 true (fun k => Fa P 27 t1 0 w k) w fun t7 w =>
 Gd t5 true (fun k => Fa P 23 t7 0 w k) w fun t8 w =>
 Gd t5 true (fun k => Ld P 9 t8 w k) w fun t9 w =>
 Gd t5 true (fun k => Cl P 39 #[t9, (str [45])] w (Pk R) k) w fun t10 w =>
 Gd t5 true (fun k => Bt P .len #[9] 3 #[t10] w k) w fun t11 w =>
 Gd t5 true (fun k => Bn P .leq 3 true t11 (.int .i64 60) w k) w fun t12 w =>
 Pick t5 t12 (.bool false) w fun t13 w =>
 Gd t13 true (fun k => Fa P 27 t1 0 w k) w fun t15 w =>
 Gd t13 true (fun k => Fa P 23 t15 1 w k) w fun t16 w =>
 Gd t13 true (fun k => Ld P 9 t16 w k) w fun t17 w =>
 Gd t13 true (fun k => Bt P .len #[9] 3 #[t17] w k) w fun t18 w =>
 Gd t13 true (fun k => Bn P .leq 3 true t18 (.int .i64 60) w k) w fun t19 w =>
 Pick t13 t19 (.bool false) w fun t20 w =>
 Gd t20 true (fun k => Fa P 27 t1 0 w k) w fun t22 w =>
 Gd t20 true (fun k => Ld P 23 t22 w k) w fun t23 w =>
 Gd t20 true (fun k => Cl P 40 #[t23] w (Pk R) k) w fun t24 w =>
 Pick t20 t24 (.bool false) w fun t25 w =>
 R (.returned t25) w
theorem e_unit_Valid (h : s_unit_Valid Tryz.prog t0 w R) : Calls Tryz.prog 13 #[t0] w R :=
 en1 (.sq .z (.sq .z .z)) [t0] Tryz.func13 (by kernel_rfl) (by kernel_rfl) h
theorem n_unit_Valid : Enters Tryz.prog 13 := enters_of Tryz.func13 (by kernel_rfl) rfl
def s_unit_ValidUnit (P : Program) (t0 : Value) (w : World) (R : Ending → World → Prop) : Prop :=
 Bx P 25 t0 w fun t1 w =>
 Ld P 25 t1 w fun t5 w =>
 Cl P 42 #[t5] w (Pk R) fun t6 w =>
 Lp1 (.int .i64 0) w (fun t7 w k1 =>
 Bn P .lss 3 true t7 (.int .i64 4) w fun t8 w =>
 If t8
 (Ix P 28 t6 t7 w fun t9 w =>
 Bn P .lss 3 true t9 (.int .i64 (-3)) w fun t11 w =>
 Gd t11 false (fun k => k t9 w) w fun t13 w =>
 Gd t11 false (fun k => Bn P .gtr 3 true t13 (.int .i64 3) w k) w fun t14 w =>
 Pick t11 (.bool true) t14 w fun t15 w =>
 If t15
 (R (.returned (.bool false)) w)
 (Bn P .add 3 true t7 (.int .i64 1) w fun t16 w =>
 k1 t16 w))
 (R (.returned (.bool true)) w))
theorem e_unit_ValidUnit (h : s_unit_ValidUnit Tryz.prog t0 w R) : Calls Tryz.prog 15 #[t0] w R :=
 en1 (.sq .z (.sq (.sq .z (.bk (.lp [7] [2, 4, 8, 9, 10, 11, 12, 13, 14, 15, 16] (.sq .z (.sq (.cd .z .z) (.sq (.bk (.sq .z (.sq .z (.cd (.sq .z .z) .z)))) .z)))))) (.sq .z .z))) [t0] Tryz.func15 (by kernel_rfl) (by kernel_rfl) h
theorem n_unit_ValidUnit : Enters Tryz.prog 15 := enters_of Tryz.func15 (by kernel_rfl) rfl
def s_unit_Add (P : Program) (t0 t1 : Value) (w : World) (R : Ending → World → Prop) : Prop :=
 Bx P 27 t0 w fun t2 w =>
 Bx P 27 t1 w fun t3 w =>
 Al P 27 w fun t4 w =>
 Bd P 68 [(0, (.func (.func 45) #[] #[])), (1, (.func (.func 46) #[] #[])), (2, (.bool true))] w fun t6 w =>
 Ld P 27 t2 w fun t7 w =>
 Ld P 27 t3 w fun t8 w =>
 Cl P 44 #[t6, t7, t8] w (Pk R) fun t9 w =>
 Ex t9 0 w fun t10 w =>
 Ex t9 1 w fun t11 w =>
 Sto P 27 t4 t10 w fun w =>
 Rc P 27 t4 w fun r0 =>
 R (.returned (.tuple #[r0, t11])) w
theorem e_unit_Add (h : s_unit_Add Tryz.prog t0 t1 w R) : Calls Tryz.prog 17 #[t0, t1] w R :=
 en1 (.sq .z (.sq .z .z)) [t0, t1] Tryz.func17 (by kernel_rfl) (by kernel_rfl) h
theorem n_unit_Add : Enters Tryz.prog 17 := enters_of Tryz.func17 (by kernel_rfl) rfl
def s_unit_Sub (P : Program) (t0 t1 : Value) (w : World) (R : Ending → World → Prop) : Prop :=
 Bx P 27 t0 w fun t2 w =>
 Bx P 27 t1 w fun t3 w =>
 Al P 27 w fun t4 w =>
 Bd P 68 [(0, (.func (.func 49) #[] #[])), (1, (.func (.func 46) #[] #[])), (2, (.bool true))] w fun t6 w =>
 Ld P 27 t2 w fun t7 w =>
 Ld P 27 t3 w fun t8 w =>
 Cl P 44 #[t6, t7, t8] w (Pk R) fun t9 w =>
 Ex t9 0 w fun t10 w =>
 Ex t9 1 w fun t11 w =>
 Sto P 27 t4 t10 w fun w =>
 Rc P 27 t4 w fun r0 =>
 R (.returned (.tuple #[r0, t11])) w
theorem e_unit_Sub (h : s_unit_Sub Tryz.prog t0 t1 w R) : Calls Tryz.prog 19 #[t0, t1] w R :=
 en1 (.sq .z (.sq .z .z)) [t0, t1] Tryz.func19 (by kernel_rfl) (by kernel_rfl) h
theorem n_unit_Sub : Enters Tryz.prog 19 := enters_of Tryz.func19 (by kernel_rfl) rfl
def s_unit_Mul (P : Program) (t0 t1 : Value) (w : World) (R : Ending → World → Prop) : Prop :=
 Bx P 27 t0 w fun t2 w =>
 Bx P 27 t1 w fun t3 w =>
 Al P 27 w fun t4 w =>
 Bd P 68 [(0, (.func (.func 51) #[] #[])), (1, (.func (.func 52) #[] #[])), (2, (.bool false))] w fun t6 w =>
 Ld P 27 t2 w fun t7 w =>
 Ld P 27 t3 w fun t8 w =>
 Cl P 44 #[t6, t7, t8] w (Pk R) fun t9 w =>
 Ex t9 0 w fun t10 w =>
 Ex t9 1 w fun t11 w =>
 Sto P 27 t4 t10 w fun w =>
 Rc P 27 t4 w fun r0 =>
 R (.returned (.tuple #[r0, t11])) w
theorem e_unit_Mul (h : s_unit_Mul Tryz.prog t0 t1 w R) : Calls Tryz.prog 21 #[t0, t1] w R :=
 en1 (.sq .z (.sq .z .z)) [t0, t1] Tryz.func21 (by kernel_rfl) (by kernel_rfl) h
theorem n_unit_Mul : Enters Tryz.prog 21 := enters_of Tryz.func21 (by kernel_rfl) rfl
def s_unit_Div (P : Program) (t0 t1 : Value) (w : World) (R : Ending → World → Prop) : Prop :=
 Bx P 27 t0 w fun t2 w =>
 Bx P 27 t1 w fun t3 w =>
 Al P 27 w fun t4 w =>
 Bd P 68 [(0, (.func (.func 55) #[] #[])), (1, (.func (.func 56) #[] #[])), (2, (.bool false))] w fun t6 w =>
 Ld P 27 t2 w fun t7 w =>
 Ld P 27 t3 w fun t8 w =>
 Cl P 44 #[t6, t7, t8] w (Pk R) fun t9 w =>
 Ex t9 0 w fun t10 w =>
 Ex t9 1 w fun t11 w =>
 Sto P 27 t4 t10 w fun w =>
 Rc P 27 t4 w fun r0 =>
 R (.returned (.tuple #[r0, t11])) w
theorem e_unit_Div (h : s_unit_Div Tryz.prog t0 t1 w R) : Calls Tryz.prog 23 #[t0, t1] w R :=
 en1 (.sq .z (.sq .z .z)) [t0, t1] Tryz.func23 (by kernel_rfl) (by kernel_rfl) h
theorem n_unit_Div : Enters Tryz.prog 23 := enters_of Tryz.func23 (by kernel_rfl) rfl
def s_unit_Compare (P : Program) (t0 t1 : Value) (w : World) (R : Ending → World → Prop) : Prop :=
 Bx P 27 t0 w fun t2 w =>
 Bx P 27 t1 w fun t3 w =>
 Ld P 27 t2 w fun t6 w =>
 Cl P 13 #[t6] w (Pk R) fun t7 w =>
 Un P .not t7 w fun t8 w =>
 Gd t8 false (fun k => Ld P 27 t3 w k) w fun t10 w =>
 Gd t8 false (fun k => Cl P 13 #[t10] w (Pk R) k) w fun t11 w =>
 Gd t8 false (fun k => Un P .not t11 w k) w fun t12 w =>
 Pick t8 (.bool true) t12 w fun t13 w =>
 Gd t13 false (fun k => Fa P 27 t2 1 w k) w fun t15 w =>
 Gd t13 false (fun k => Ld P 25 t15 w k) w fun t16 w =>
 Gd t13 false (fun k => Fa P 27 t3 1 w k) w fun t17 w =>
 Gd t13 false (fun k => Ld P 25 t17 w k) w fun t18 w =>
 Gd t13 false (fun k => Bn P .neq 25 false t16 t18 w k) w fun t19 w =>
 Pick t13 (.bool true) t19 w fun t20 w =>
 If t20
 (R (.returned (.tuple #[(.int .i64 0), (.int .i64 50)])) w)
 (Fa P 27 t2 0 w fun t21 w =>
 Ld P 23 t21 w fun t22 w =>
 Fa P 27 t3 0 w fun t23 w =>
 Ld P 23 t23 w fun t24 w =>
 Cl P 35 #[t22, t24] w (Pk R) fun t25 w =>
 R (.returned (.tuple #[t25, (.int .i64 0)])) w)
theorem e_unit_Compare (h : s_unit_Compare Tryz.prog t0 t1 w R) : Calls Tryz.prog 25 #[t0, t1] w R :=
 en1 (.sq .z (.sq (.sq .z (.cd (.sq .z .z) .z)) (.sq .z .z))) [t0, t1] Tryz.func25 (by kernel_rfl) (by kernel_rfl) h
theorem n_unit_Compare : Enters Tryz.prog 25 := enters_of Tryz.func25 (by kernel_rfl) rfl
def s_unit_Encode (P : Program) (t0 : Value) (w : World) (R : Ending → World → Prop) : Prop :=
 Bx P 27 t0 w fun t1 w =>
 Ld P 27 t1 w fun t13 w =>
 Cl P 13 #[t13] w (Pk R) fun t14 w =>
 Un P .not t14 w fun t15 w =>
 If t15
 (R (.returned (.tuple #[(str []), (.int .i64 50)])) w)
 (Fa P 27 t1 0 w fun t17 w =>
 Fa P 23 t17 0 w fun t18 w =>
 Ld P 9 t18 w fun t19 w =>
 Cl P 59 #[t19] w (Pk R) fun t20 w =>
 Ex t20 0 w fun t21 w =>
 Ex t20 1 w fun t22 w =>
 Fa P 27 t1 0 w fun t24 w =>
 Fa P 23 t24 1 w fun t25 w =>
 Ld P 9 t25 w fun t26 w =>
 Cl P 59 #[t26] w (Pk R) fun t27 w =>
 Ex t27 0 w fun t28 w =>
 Ex t27 1 w fun t29 w =>
 Bn P .add 9 false t21 t28 w fun t32 w =>
 Fa P 27 t1 1 w fun t33 w =>
 Ld P 25 t33 w fun t34 w =>
 Cl P 42 #[t34] w (Pk R) fun t35 w =>
 Lp2 t32 (.int .i64 0) w (fun t8 t36 w k1 =>
 Bn P .lss 3 true t36 (.int .i64 4) w fun t37 w =>
 If t37
 (Ix P 28 t35 t36 w fun t38 w =>
 Cl P 60 #[t38] w (Pk R) fun t41 w =>
 Ex t41 0 w fun t42 w =>
 Ex t41 1 w fun t43 w =>
 Bn P .add 9 false t8 t42 w fun t46 w =>
 Bn P .add 3 true t36 (.int .i64 1) w fun t47 w =>
 k1 t46 t47 w)
 (R (.returned (.tuple #[t8, (.int .i64 0)])) w)))
theorem e_unit_Encode (h : s_unit_Encode Tryz.prog t0 w R) : Calls Tryz.prog 27 #[t0] w R :=
 en1 (.sq .z (.sq (.sq .z (.cd (.sq .z .z) .z)) (.sq .z (.sq .z (.sq .z (.sq (.sq .z (.bk (.lp [8, 36] [10, 11, 12, 37, 38, 39, 40, 41, 42, 43, 44, 45, 46, 47] (.sq .z (.sq (.cd .z .z) (.sq (.bk (.sq .z (.sq .z .z))) .z)))))) (.sq .z .z))))))) [t0] Tryz.func27 (by kernel_rfl) (by kernel_rfl) h
theorem n_unit_Encode : Enters Tryz.prog 27 := enters_of Tryz.func27 (by kernel_rfl) rfl
def s_unit_Print (P : Program) (t0 : Value) (w : World) (R : Ending → World → Prop) : Prop :=
 Bx P 27 t0 w fun t1 w =>
 Ld P 27 t1 w fun t6 w =>
 Cl P 13 #[t6] w (Pk R) fun t7 w =>
 Un P .not t7 w fun t8 w =>
 If t8
 (R (.returned (str [])) w)
 (Fa P 27 t1 0 w fun t9 w =>
 Ld P 23 t9 w fun t10 w =>
 Cl P 63 #[t10] w (Pk R) fun t11 w =>
 Fa P 27 t1 1 w fun t12 w =>
 Ld P 25 t12 w fun t13 w =>
 Cl P 42 #[t13] w (Pk R) fun t14 w =>
 Lp2 t11 (.int .i64 0) w (fun t3 t15 w k1 =>
 Bn P .lss 3 true t15 (.int .i64 4) w fun t16 w =>
 If t16
 (Ix P 28 t14 t15 w fun t18 w =>
 Bn P .eql 3 true t18 (.int .i64 0) w fun t31 w =>
 If t31
 (Bn P .add 3 true t15 (.int .i64 1) w fun t40 w =>
 k1 t3 t40 w)
 (Bn P .eql 3 true t18 (.int .i64 1) w fun t33 w =>
 If t33
 (Ia P 74 (.pointer (some ⟨0, 0, none⟩)) t15 w fun t36 w =>
 Ld P 9 t36 w fun t37 w =>
 Bn P .add 9 true (str [32]) t37 w fun t38 w =>
 Bn P .add 9 false t3 t38 w fun t39 w =>
 Bn P .add 3 true t15 (.int .i64 1) w fun t40x1 w =>
 k1 t39 t40x1 w)
 (Dv P true (Instr.indexAt 74 (.pointer (some ⟨0, 0, none⟩)) t15) w.drew fun t22 =>
 dL P 9 t22 w.drew fun t23 =>
 Dv P true (bn .add 9 true (str [32]) t23) w.drew fun t24 =>
 Dv P true (bn .add 9 true t24 (str [94])) w.drew fun t25 =>
 Cl P 64 #[t18] w.drew (Pk R) fun t27 w =>
 kLd P 9 t22 t23 w <|
 Dv P true (bn .add 9 false t25 t27) w fun t28 =>
 Dv P true (bn .add 9 false t3 t28) w fun t29 =>
 Bn P .add 3 true t15 (.int .i64 1) w fun t40x2 w =>
 k1 t29 t40x2 w)))
 (R (.returned t3) w)))
theorem e_unit_Print (h : s_unit_Print Tryz.prog t0 w R) : Calls Tryz.prog 29 #[t0] w R :=
 en1 (.sq .z (.sq (.sq .z (.cd (.sq .z .z) .z)) (.sq .z (.sq (.sq .z (.bk (.lp [3, 15] [4, 5, 16, 17, 18, 19, 20, 21, 22, 23, 24, 25, 26, 27, 28, 29, 30, 31, 32, 33, 34, 35, 36, 37, 38, 39, 40] (.sq .z (.sq (.cd .z .z) (.sq (.bk (.sq .z (.sq .z (.bk (.sq .z (.cd .z (.sq .z (.cd .z (.dr (.pur true 0 (.pur true 1 (.pur true 2 (.pur false 3 (.pur true 4 (.pur true 5 (.pur true 6 (.eff 7 [3] (.pur true 8 (.pur true 9 (.pur true 10 .done)))))))))))))))))))) .z)))))) (.sq .z .z))))) [t0] Tryz.func29 (by kernel_rfl) (by kernel_rfl) h
theorem n_unit_Print : Enters Tryz.prog 29 := enters_of Tryz.func29 (by kernel_rfl) rfl
def s_unit_Parse (P : Program) (t0 : Value) (w : World) (R : Ending → World → Prop) : Prop :=
 Al P 27 w fun t2 w =>
 Cl P 67 #[t0, (str [32])] w (Pk R) fun t13 w =>
 Ia P 45 t13 (.int .i64 0) w fun t16 w =>
 Ld P 9 t16 w fun t17 w =>
 Cl P 68 #[t17] w (Pk R) fun t18 w =>
 Ex t18 0 w fun t19 w =>
 Ex t18 1 w fun t20 w =>
 Al P 23 w fun t5 w =>
 Sto P 23 t5 t19 w fun w =>
 Al P 28 w fun t7 w =>
 Sc P 45 t13 (some (.int .i64 1)) none none w fun t23 w =>
 Bt P .len #[45] 3 #[t23] w fun t24 w =>
 Lp1 (.int .i64 0) w (fun t25 w k1 =>
 Bn P .lss 3 false t25 t24 w fun t26 w =>
 If t26
 (Ia P 45 t23 t25 w fun t27 w =>
 Ld P 9 t27 w fun t28 w =>
 Cw P (.func (.func 69) #[] #[t7]) #[t28] w (Pk R) fun t31 w =>
 Un P .not t31 w fun t32 w =>
 If t32
 (Bd P 27 [] w fun t33 w =>
 Sto P 27 t2 t33 w fun w =>
 Rc P 27 t2 w fun r0 =>
 R (.returned (.tuple #[r0, (.int .i64 50)])) w)
 (Bn P .add 3 true t25 (.int .i64 1) w fun t34 w =>
 k1 t34 w))
 (Jn1 (fun k2 =>
 dL P 23 t5 w.drew fun t35 =>
 dL P 28 t7 w.drew fun t36 =>
 (Cl P 72 #[t36] w.drew (Pk R) fun t37 w =>
 kLd P 23 t5 t35 w <|
 Dv P true (Instr.build 27 #[(0, t35), (1, t37)]) w fun t38 =>
 Al P 27 w fun t11 w =>
 kLd P 23 t5 t35 w <|
 kLd P 28 t7 t36 w <|
 Sto P 27 t11 t38 w fun w =>
 k2 t11 w) ∧
 (Al P 27 w.drew fun t11x1 w =>
 kLd P 23 t5 t35 w <|
 kLd P 28 t7 t36 w <|
 Cl P 72 #[t36] w (Pk R) fun t37x1 w =>
 kLd P 23 t5 t35 w <|
 Dv P true (Instr.build 27 #[(0, t35), (1, t37x1)]) w fun t38x1 =>
 Sto P 27 t11x1 t38x1 w fun w =>
 k2 t11x1 w))
 (fun t11x2 w =>
 Bn P .neq 35 true t20 (.int .i64 0) w fun t40 w =>
 Gd t40 false (fun k => Ld P 27 t11x2 w k) w fun t42 w =>
 Gd t40 false (fun k => Cl P 29 #[t42] w (Pk R) k) w fun t43 w =>
 Gd t40 false (fun k => k t0 w) w fun t44 w =>
 Gd t40 false (fun k => Bn P .neq 9 false t43 t44 w k) w fun t45 w =>
 Pick t40 (.bool true) t45 w fun t46 w =>
 Gd t46 false (fun k => k t0 w) w fun t48 w =>
 Gd t46 false (fun k => Bn P .eql 9 true t48 (str []) w k) w fun t49 w =>
 Pick t46 (.bool true) t49 w fun t50 w =>
 If t50
 (Bd P 27 [] w fun t51 w =>
 Sto P 27 t2 t51 w fun w =>
 Rc P 27 t2 w fun r0 =>
 R (.returned (.tuple #[r0, (.int .i64 50)])) w)
 (Ld P 27 t11x2 w fun t52 w =>
 Sto P 27 t2 t52 w fun w =>
 Rc P 27 t2 w fun r0 =>
 R (.returned (.tuple #[r0, (.int .i64 0)])) w))))
theorem e_unit_Parse (h : s_unit_Parse Tryz.prog t0 w R) : Calls Tryz.prog 31 #[t0] w R :=
 en1 (.sq .z (.sq .z (.sq .z (.sq .z (.sq .z (.sq (.sq .z (.bk (.lp [25] [3, 10, 26, 27, 28, 29, 30, 31, 32, 33, 34] (.sq .z (.sq (.cd .z .z) (.sq (.bk (.sq .z (.sq .z (.cd (.sq .z .z) .z)))) .z)))))) (.jn [11] [35, 36, 37, 38] (.dr (.pur false 0 (.pur false 1 (.alt (.eff 2 [0] (.pur true 3 (.eff 4 [0, 1] (.eff 5 [] .done)))) (.eff 4 [0, 1] (.eff 2 [0] (.pur true 3 (.eff 5 [] .done)))))))) (.sq (.sq .z (.cd (.sq .z .z) .z)) (.sq .z .z))))))))) [t0] Tryz.func31 (by kernel_rfl) (by kernel_rfl) h
theorem n_unit_Parse : Enters Tryz.prog 31 := enters_of Tryz.func31 (by kernel_rfl) rfl
def s_unit_Decode (P : Program) (t0 t1 : Value) (w : World) (R : Ending → World → Prop) : Prop :=
 Al P 27 w fun t4 w =>
 Bn P .lss 3 true t1 (.int .i64 0) w fun t15 w =>
 Gd t15 false (fun k => k t1 w) w fun t17 w =>
 Gd t15 false (fun k => k t0 w) w fun t18 w =>
 Gd t15 false (fun k => Bt P .len #[9] 3 #[t18] w k) w fun t19 w =>
 Gd t15 false (fun k => Bn P .gtr 3 false t17 t19 w k) w fun t20 w =>
 Pick t15 (.bool true) t20 w fun t21 w =>
 If t21
 (Bd P 27 [] w fun t22 w =>
 Sto P 27 t4 t22 w fun w =>
 Rc P 27 t4 w fun r0 =>
 R (.returned (.tuple #[r0, (.int .i64 0), (.int .i64 2)])) w)
 (Cl P 75 #[t0, t1] w (Pk R) fun t26 w =>
 Ex t26 0 w fun t27 w =>
 Ex t26 1 w fun t28 w =>
 Ex t26 2 w fun t29 w =>
 Bn P .neq 35 true t29 (.int .i64 0) w fun t31 w =>
 If t31
 (Bd P 27 [] w fun t32 w =>
 Sto P 27 t4 t32 w fun w =>
 Rc P 27 t4 w fun r0 =>
 R (.returned (.tuple #[r0, (.int .i64 0), (.int .i64 50)])) w)
 (Cl P 75 #[t0, t28] w (Pk R) fun t36 w =>
 Ex t36 0 w fun t37 w =>
 Ex t36 1 w fun t38 w =>
 Ex t36 2 w fun t39 w =>
 Al P 28 w fun t11 w =>
 Lp3 t38 t39 (.int .i64 0) w (fun t8 t9 t12 w k1 =>
 Bn P .lss 3 true t12 (.int .i64 4) w fun t41 w =>
 Gd t41 true (fun k => k t9 w) w fun t43 w =>
 Gd t41 true (fun k => Bn P .eql 35 true t43 (.int .i64 0) w k) w fun t44 w =>
 Pick t41 t44 (.bool false) w fun t45 w =>
 If t45
 (Cl P 76 #[t0, t8] w (Pk R) fun t52 w =>
 Ex t52 0 w fun t53 w =>
 Ex t52 1 w fun t54 w =>
 Ex t52 2 w fun t55 w =>
 Ia P 28 t11 t12 w fun t56 w =>
 Sto P 3 t56 t53 w fun w =>
 Bn P .add 3 true t12 (.int .i64 1) w fun t47 w =>
 k1 t54 t55 t47 w)
 (Bd P 23 [(0, t27), (1, t37)] w fun t59 w =>
 Ld P 28 t11 w fun t60 w =>
 Cl P 72 #[t60] w (Pk R) fun t61 w =>
 Bd P 27 [(0, t59), (1, t61)] w fun t62 w =>
 Al P 27 w fun t13 w =>
 Sto P 27 t13 t62 w fun w =>
 Bn P .neq 35 true t9 (.int .i64 0) w fun t64 w =>
 Gd t64 false (fun k => Ld P 27 t13 w k) w fun t66 w =>
 Gd t64 false (fun k => Cl P 13 #[t66] w (Pk R) k) w fun t67 w =>
 Gd t64 false (fun k => Un P .not t67 w k) w fun t68 w =>
 Pick t64 (.bool true) t68 w fun t69 w =>
 If t69
 (Bd P 27 [] w fun t70 w =>
 Sto P 27 t4 t70 w fun w =>
 Rc P 27 t4 w fun r0 =>
 R (.returned (.tuple #[r0, (.int .i64 0), (.int .i64 50)])) w)
 (Ld P 27 t13 w fun t71 w =>
 Sto P 27 t4 t71 w fun w =>
 Rc P 27 t4 w fun r0 =>
 R (.returned (.tuple #[r0, t8, (.int .i64 0)])) w)))))
theorem e_unit_Decode (h : s_unit_Decode Tryz.prog t0 t1 w R) : Calls Tryz.prog 33 #[t0, t1] w R :=
 en1 (.sq .z (.sq (.sq .z (.cd (.sq .z .z) .z)) (.sq .z (.sq (.sq .z (.cd (.sq .z .z) .z)) (.sq .z (.sq .z (.sq (.sq .z (.bk (.lp [8, 9, 12] [40, 41, 42, 43, 44, 45, 46, 47, 48, 49, 50, 51, 52, 53, 54, 55, 56] (.sq (.sq .z (.cd .z .z)) (.sq (.bk .z) .z))))) (.sq .z (.sq (.sq .z (.cd (.sq .z .z) .z)) (.sq .z .z)))))))))) [t0, t1] Tryz.func33 (by kernel_rfl) (by kernel_rfl) h
theorem n_unit_Decode : Enters Tryz.prog 33 := enters_of Tryz.func33 (by kernel_rfl) rfl
def s_rational_Compare (P : Program) (t0 t1 : Value) (w : World) (R : Ending → World → Prop) : Prop :=
 Bx P 23 t0 w fun t2 w =>
 Bx P 23 t1 w fun t3 w =>
 Ld P 23 t2 w fun t13 w =>
 Cl P 40 #[t13] w (Pk R) fun t14 w =>
 Un P .not t14 w fun t15 w =>
 Gd t15 false (fun k => Ld P 23 t3 w k) w fun t17 w =>
 Gd t15 false (fun k => Cl P 40 #[t17] w (Pk R) k) w fun t18 w =>
 Gd t15 false (fun k => Un P .not t18 w k) w fun t19 w =>
 Pick t15 (.bool true) t19 w fun t20 w =>
 If t20
 (R (.returned (.int .i64 0)) w)
 (Lp1 (.int .i64 1) w (fun t5 w k1 =>
 Fa P 23 t2 0 w fun t22 w =>
 Ld P 9 t22 w fun t23 w =>
 Fa P 23 t2 1 w fun t24 w =>
 Ld P 9 t24 w fun t25 w =>
 Cl P 79 #[t23, t25] w (Pk R) fun t26 w =>
 Ex t26 0 w fun t27 w =>
 Ex t26 1 w fun t28 w =>
 Ex t26 2 w fun t29 w =>
 Fa P 23 t3 0 w fun t31 w =>
 Ld P 9 t31 w fun t32 w =>
 Fa P 23 t3 1 w fun t33 w =>
 Ld P 9 t33 w fun t34 w =>
 Cl P 79 #[t32, t34] w (Pk R) fun t35 w =>
 Ex t35 0 w fun t36 w =>
 Ex t35 1 w fun t37 w =>
 Ex t35 2 w fun t38 w =>
 Cl P 80 #[t27, t36] w (Pk R) fun t41 w =>
 Bn P .neq 3 true t41 (.int .i64 0) w fun t44 w =>
 If t44
 (Bn P .mul 3 false t5 t41 w fun t47 w =>
 R (.returned t47) w)
 (Bn P .eql 9 true t28 (str [48]) w fun t50 w =>
 Gd t50 true (fun k => k t37 w) w fun t52 w =>
 Gd t50 true (fun k => Bn P .eql 9 true t52 (str [48]) w k) w fun t53 w =>
 Pick t50 t53 (.bool false) w fun t54 w =>
 If t54
 (R (.returned (.int .i64 0)) w)
 (Bn P .eql 9 true t28 (str [48]) w fun t57 w =>
 If t57
 (Un P .neg t5 w fun t59 w =>
 R (.returned t59) w)
 (Bn P .eql 9 true t37 (str [48]) w fun t62 w =>
 If t62
 (R (.returned t5) w)
 (dFl P 23 t2 1 w.drew fun t64 =>
 dL P 9 t64 w.drew fun t65 =>
 Dv P true (Instr.build 23 #[(0, t65), (1, t28)]) w.drew fun t67 =>
 dFl P 23 t3 1 w.drew fun t68 =>
 dL P 9 t68 w.drew fun t69 =>
 Dv P true (Instr.build 23 #[(0, t69), (1, t37)]) w.drew fun t71 =>
 Dv P true (Op.unary .neg t5) w.drew fun t73 =>
 Sto P 23 t2 t67 w.drew fun w =>
 kLd P 9 t68 t69 w <|
 Sto P 23 t3 t71 w fun w =>
 k1 t73 w))))))
theorem e_rational_Compare (h : s_rational_Compare Tryz.prog t0 t1 w R) : Calls Tryz.prog 35 #[t0, t1] w R :=
 en1 (.sq .z (.sc [5] [4, 6, 7, 8, 9, 10, 11, 12, 21, 22, 23, 24, 25, 26, 27, 28, 29, 30, 31, 32, 33, 34, 35, 36, 37, 38, 39, 40, 41, 42, 43, 44, 45, 46, 47, 48, 49, 50, 51, 52, 53, 54, 55, 56, 57, 58, 59, 60, 61, 62, 63, 64, 65, 66, 67, 68, 69, 70, 71, 72, 73] (.sq .z (.cd (.sq .z .z) .z)) .z (.sq .z (.sq .z (.sq (.sq .z (.bk (.sq .z (.cd (.sq .z .z) (.sq .z (.cd (.sq .z .z) (.sq .z (.cd (.sq .z .z) (.sq .z (.cd (.sq .z .z) .z)))))))))) (.sq (.dr (.pur true 0 (.pur false 1 (.pur true 2 (.pur true 3 (.pur true 4 (.pur false 5 (.pur true 6 (.pur true 7 (.pur true 8 (.pur true 9 (.eff 10 [5] (.eff 11 [] (.pur true 12 .done)))))))))))))) .z)))))) [t0, t1] Tryz.func35 (by kernel_rfl) (by kernel_rfl) h
theorem n_rational_Compare : Enters Tryz.prog 35 := enters_of Tryz.func35 (by kernel_rfl) rfl
def s_law05_us (P : Program) (t0 t1 : Value) (w : World) (R : Ending → World → Prop) : Prop :=
 Al P 27 w fun t4 w =>
 Bd P 23 [(0, t0), (1, t1)] w fun t7 w =>
 Bd P 25 [(0, (.int .i64 1))] w fun t8 w =>
 Bd P 27 [(0, t7), (1, t8)] w fun t9 w =>
 Sto P 27 t4 t9 w fun w =>
 Rc P 27 t4 w fun r0 =>
 R (.returned r0) w
theorem e_law05_us (h : s_law05_us Tryz.prog t0 t1 w R) : Calls Tryz.prog 36 #[t0, t1] w R :=
 en1 (.sq .z (.sq .z .z)) [t0, t1] Tryz.func36 (by kernel_rfl) (by kernel_rfl) h
theorem n_law05_us : Enters Tryz.prog 36 := enters_of Tryz.func36 (by kernel_rfl) rfl
def s_ref04_Of (P : Program) (t0 t1 : Value) (w : World) (R : Ending → World → Prop) : Prop :=
 Al P 23 w fun t4 w =>
 Cl P 82 #[t0] w (Pk R) fun t7 w =>
 Cl P 82 #[t1] w (Pk R) fun t9 w =>
 Cl P 81 #[t7, t9] w (Pk R) fun t10 w =>
 Ex t10 0 w fun t11 w =>
 Ex t10 1 w fun t12 w =>
 Sto P 23 t4 t11 w fun w =>
 Rc P 23 t4 w fun r0 =>
 R (.returned (.tuple #[r0, t12])) w
theorem e_ref04_Of (h : s_ref04_Of Tryz.prog t0 t1 w R) : Calls Tryz.prog 37 #[t0, t1] w R :=
 en1 (.sq .z (.sq .z .z)) [t0, t1] Tryz.func37 (by kernel_rfl) (by kernel_rfl) h
theorem n_ref04_Of : Enters Tryz.prog 37 := enters_of Tryz.func37 (by kernel_rfl) rfl
def s_ref05_pick (P : Program) (t0 t1 : Value) (w : World) (R : Ending → World → Prop) : Prop :=
 Bn P .lss 3 true t0 (.int .i64 0) w fun t6 w =>
 If t6
 (Bn P .add 3 true t0 (.int .i64 1) w fun t8 w =>
 Un P .neg t8 w fun t9 w =>
 Bn P .rem 3 false t9 t1 w fun t12 w =>
 R (.returned t12) w)
 (Bn P .rem 3 false t0 t1 w fun t12x1 w =>
 R (.returned t12x1) w)
theorem e_ref05_pick (h : s_ref05_pick Tryz.prog t0 t1 w R) : Calls Tryz.prog 38 #[t0, t1] w R :=
 en1 (.sq .z (.sq (.sq .z (.cd .z .z)) (.sq .z .z))) [t0, t1] Tryz.func38 (by kernel_rfl) (by kernel_rfl) h
theorem n_ref05_pick : Enters Tryz.prog 38 := enters_of Tryz.func38 (by kernel_rfl) rfl
theorem n_strings_TrimPrefix : Enters Tryz.prog 39 := enters_of Tryz.func39 (by kernel_rfl) rfl
def s_rational_Valid (P : Program) (t0 : Value) (w : World) (R : Ending → World → Prop) : Prop :=
 Bx P 23 t0 w fun t1 w =>
 Fa P 23 t1 0 w fun t5 w =>
 Ld P 9 t5 w fun t6 w =>
 Cl P 84 #[t6] w (Pk R) fun t7 w =>
 Un P .not t7 w fun t8 w =>
 Gd t8 false (fun k => Fa P 23 t1 1 w k) w fun t10 w =>
 Gd t8 false (fun k => Ld P 9 t10 w k) w fun t11 w =>
 Gd t8 false (fun k => Cl P 84 #[t11] w (Pk R) k) w fun t12 w =>
 Gd t8 false (fun k => Un P .not t12 w k) w fun t13 w =>
 Pick t8 (.bool true) t13 w fun t14 w =>
 Gd t14 false (fun k => Fa P 23 t1 1 w k) w fun t16 w =>
 Gd t14 false (fun k => Ld P 9 t16 w k) w fun t17 w =>
 Gd t14 false (fun k => Cl P 80 #[t17, (str [48])] w (Pk R) k) w fun t18 w =>
 Gd t14 false (fun k => Bn P .leq 3 true t18 (.int .i64 0) w k) w fun t19 w =>
 Pick t14 (.bool true) t19 w fun t20 w =>
 If t20
 (R (.returned (.bool false)) w)
 (Fa P 23 t1 0 w fun t22 w =>
 Ld P 9 t22 w fun t23 w =>
 Fa P 23 t1 1 w fun t24 w =>
 Ld P 9 t24 w fun t25 w =>
 Cl P 85 #[t23, t25] w (Pk R) fun t26 w =>
 Ex t26 0 w fun t27 w =>
 Ex t26 1 w fun t28 w =>
 Bn P .eql 35 true t28 (.int .i64 0) w fun t30 w =>
 Gd t30 true (fun k => k t27 w) w fun t32 w =>
 Gd t30 true (fun k => Bn P .eql 9 true t32 (str [49]) w k) w fun t33 w =>
 Pick t30 t33 (.bool false) w fun t34 w =>
 R (.returned t34) w)
theorem e_rational_Valid (h : s_rational_Valid Tryz.prog t0 w R) : Calls Tryz.prog 40 #[t0] w R :=
 en1 (.sq .z (.sq (.sq .z (.cd (.sq .z .z) .z)) (.sq .z (.sq .z .z)))) [t0] Tryz.func40 (by kernel_rfl) (by kernel_rfl) h
theorem n_rational_Valid : Enters Tryz.prog 40 := enters_of Tryz.func40 (by kernel_rfl) rfl
def s_unit_exponents (P : Program) (t0 : Value) (w : World) (R : Ending → World → Prop) : Prop :=
 Bx P 25 t0 w fun t1 w =>
 Al P 28 w fun t2 w =>
 Fa P 25 t1 0 w fun t3 w =>
 Ld P 3 t3 w fun t4 w =>
 Fa P 25 t1 1 w fun t5 w =>
 Ld P 3 t5 w fun t6 w =>
 Fa P 25 t1 2 w fun t7 w =>
 Ld P 3 t7 w fun t8 w =>
 Fa P 25 t1 3 w fun t9 w =>
 Ld P 3 t9 w fun t10 w =>
 Bd P 28 [(0, t4), (1, t6), (2, t8), (3, t10)] w fun t11 w =>
 Sto P 28 t2 t11 w fun w =>
 Rc P 28 t2 w fun r0 =>
 R (.returned r0) w
theorem e_unit_exponents (h : s_unit_exponents Tryz.prog t0 w R) : Calls Tryz.prog 42 #[t0] w R :=
 en1 (.sq .z (.sq .z .z)) [t0] Tryz.func42 (by kernel_rfl) (by kernel_rfl) h
theorem n_unit_exponents : Enters Tryz.prog 42 := enters_of Tryz.func42 (by kernel_rfl) rfl
def s_unit_apply (P : Program) (t0 t1 t2 : Value) (w : World) (R : Ending → World → Prop) : Prop :=
 Bx P 68 t0 w fun t3 w =>
 Bx P 27 t1 w fun t4 w =>
 Bx P 27 t2 w fun t5 w =>
 Al P 27 w fun t6 w =>
 Ld P 27 t4 w fun t14 w =>
 Cl P 13 #[t14] w (Pk R) fun t15 w =>
 Un P .not t15 w fun t16 w =>
 Gd t16 false (fun k => Ld P 27 t5 w k) w fun t18 w =>
 Gd t16 false (fun k => Cl P 13 #[t18] w (Pk R) k) w fun t19 w =>
 Gd t16 false (fun k => Un P .not t19 w k) w fun t20 w =>
 Pick t16 (.bool true) t20 w fun t21 w =>
 Gd t21 false (fun k => Fa P 68 t3 2 w k) w fun t23 w =>
 Gd t21 false (fun k => Ld P 4 t23 w k) w fun t24 w =>
 Gd t21 false (fun k => k t24 w) w fun t25 w =>
 Gd t25 true (fun k => Fa P 27 t4 1 w k) w fun t26 w =>
 Gd t25 true (fun k => Ld P 25 t26 w k) w fun t27 w =>
 Gd t25 true (fun k => Fa P 27 t5 1 w k) w fun t28 w =>
 Gd t25 true (fun k => Ld P 25 t28 w k) w fun t29 w =>
 Gd t25 true (fun k => Bn P .neq 25 false t27 t29 w k) w fun t30 w =>
 Gd t21 false (fun k => Pick t25 t30 (.bool false) w k) w fun t31 w =>
 Pick t21 (.bool true) t31 w fun t32 w =>
 If t32
 (Bd P 27 [] w fun t33 w =>
 Sto P 27 t6 t33 w fun w =>
 Rc P 27 t6 w fun r0 =>
 R (.returned (.tuple #[r0, (.int .i64 50)])) w)
 (Fa P 68 t3 0 w fun t35 w =>
 Ld P 66 t35 w fun t36 w =>
 Fa P 27 t4 0 w fun t37 w =>
 Ld P 23 t37 w fun t38 w =>
 Fa P 27 t5 0 w fun t39 w =>
 Ld P 23 t39 w fun t40 w =>
 Cw P t36 #[t38, t40] w (Pk R) fun t41 w =>
 Ex t41 0 w fun t42 w =>
 Ex t41 1 w fun t43 w =>
 Al P 23 w fun t8 w =>
 Sto P 23 t8 t42 w fun w =>
 Jn2 (fun k1 =>
 dFl P 27 t4 1 w.drew fun t44 =>
 dL P 25 t44 w.drew fun t45 =>
 dFl P 27 t5 1 w.drew fun t47 =>
 dL P 25 t47 w.drew fun t48 =>
 (Cl P 42 #[t45] w.drew (Pk R) fun t46 w =>
 kLd P 25 t47 t48 w <|
 (Cl P 42 #[t48] w (Pk R) fun t49 w =>
 (Al P 28 w fun t10 w =>
 kLd P 25 t44 t45 w <|
 kLd P 25 t47 t48 w <|
 Al P 28 w fun t11 w =>
 kLd P 25 t44 t45 w <|
 kLd P 25 t47 t48 w <|
 Sto P 28 t10 t46 w fun w =>
 Sto P 28 t11 t49 w fun w =>
 k1 t10 t11 w) ∧
 (Al P 28 w fun t11x1 w =>
 kLd P 25 t44 t45 w <|
 kLd P 25 t47 t48 w <|
 Al P 28 w fun t10x1 w =>
 kLd P 25 t44 t45 w <|
 kLd P 25 t47 t48 w <|
 Sto P 28 t10x1 t46 w fun w =>
 Sto P 28 t11x1 t49 w fun w =>
 k1 t10x1 t11x1 w)) ∧
 ((Al P 28 w fun t10x2 w =>
 kLd P 25 t44 t45 w <|
 kLd P 25 t47 t48 w <|
 (Cl P 42 #[t48] w (Pk R) fun t49x1 w =>
 Al P 28 w fun t11x2 w =>
 kLd P 25 t44 t45 w <|
 kLd P 25 t47 t48 w <|
 Sto P 28 t10x2 t46 w fun w =>
 Sto P 28 t11x2 t49x1 w fun w =>
 k1 t10x2 t11x2 w) ∧
 (Al P 28 w fun t11x3 w =>
 kLd P 25 t44 t45 w <|
 kLd P 25 t47 t48 w <|
 Cl P 42 #[t48] w (Pk R) fun t49x2 w =>
 Sto P 28 t10x2 t46 w fun w =>
 Sto P 28 t11x3 t49x2 w fun w =>
 k1 t10x2 t11x3 w)) ∧
 (Al P 28 w fun t11x4 w =>
 kLd P 25 t44 t45 w <|
 kLd P 25 t47 t48 w <|
 (Cl P 42 #[t48] w (Pk R) fun t49x3 w =>
 Al P 28 w fun t10x3 w =>
 kLd P 25 t44 t45 w <|
 kLd P 25 t47 t48 w <|
 Sto P 28 t10x3 t46 w fun w =>
 Sto P 28 t11x4 t49x3 w fun w =>
 k1 t10x3 t11x4 w) ∧
 (Al P 28 w fun t10x4 w =>
 kLd P 25 t44 t45 w <|
 kLd P 25 t47 t48 w <|
 Cl P 42 #[t48] w (Pk R) fun t49x4 w =>
 Sto P 28 t10x4 t46 w fun w =>
 Sto P 28 t11x4 t49x4 w fun w =>
 k1 t10x4 t11x4 w)))) ∧
 ((Al P 28 w.drew fun t10x5 w =>
 kLd P 25 t44 t45 w <|
 kLd P 25 t47 t48 w <|
 (Cl P 42 #[t45] w (Pk R) fun t46x1 w =>
 kLd P 25 t47 t48 w <|
 (Cl P 42 #[t48] w (Pk R) fun t49x5 w =>
 Al P 28 w fun t11x5 w =>
 kLd P 25 t44 t45 w <|
 kLd P 25 t47 t48 w <|
 Sto P 28 t10x5 t46x1 w fun w =>
 Sto P 28 t11x5 t49x5 w fun w =>
 k1 t10x5 t11x5 w) ∧
 (Al P 28 w fun t11x6 w =>
 kLd P 25 t44 t45 w <|
 kLd P 25 t47 t48 w <|
 Cl P 42 #[t48] w (Pk R) fun t49x6 w =>
 Sto P 28 t10x5 t46x1 w fun w =>
 Sto P 28 t11x6 t49x6 w fun w =>
 k1 t10x5 t11x6 w)) ∧
 (Al P 28 w fun t11x7 w =>
 kLd P 25 t44 t45 w <|
 kLd P 25 t47 t48 w <|
 Cl P 42 #[t45] w (Pk R) fun t46x2 w =>
 kLd P 25 t47 t48 w <|
 Cl P 42 #[t48] w (Pk R) fun t49x7 w =>
 Sto P 28 t10x5 t46x2 w fun w =>
 Sto P 28 t11x7 t49x7 w fun w =>
 k1 t10x5 t11x7 w)) ∧
 (Al P 28 w.drew fun t11x8 w =>
 kLd P 25 t44 t45 w <|
 kLd P 25 t47 t48 w <|
 (Cl P 42 #[t45] w (Pk R) fun t46x3 w =>
 kLd P 25 t47 t48 w <|
 (Cl P 42 #[t48] w (Pk R) fun t49x8 w =>
 Al P 28 w fun t10x6 w =>
 kLd P 25 t44 t45 w <|
 kLd P 25 t47 t48 w <|
 Sto P 28 t10x6 t46x3 w fun w =>
 Sto P 28 t11x8 t49x8 w fun w =>
 k1 t10x6 t11x8 w) ∧
 (Al P 28 w fun t10x7 w =>
 kLd P 25 t44 t45 w <|
 kLd P 25 t47 t48 w <|
 Cl P 42 #[t48] w (Pk R) fun t49x9 w =>
 Sto P 28 t10x7 t46x3 w fun w =>
 Sto P 28 t11x8 t49x9 w fun w =>
 k1 t10x7 t11x8 w)) ∧
 (Al P 28 w fun t10x8 w =>
 kLd P 25 t44 t45 w <|
 kLd P 25 t47 t48 w <|
 Cl P 42 #[t45] w (Pk R) fun t46x4 w =>
 kLd P 25 t47 t48 w <|
 Cl P 42 #[t48] w (Pk R) fun t49x10 w =>
 Sto P 28 t10x8 t46x4 w fun w =>
 Sto P 28 t11x8 t49x10 w fun w =>
 k1 t10x8 t11x8 w))))
 (fun t10x9 t11x9 w =>
 Lp1 (.int .i64 0) w (fun t50 w k2 =>
 Bn P .lss 3 true t50 (.int .i64 4) w fun t51 w =>
 If t51
 (dFl P 68 t3 1 w.drew fun t54 =>
 dL P 60 t54 w.drew fun t55 =>
 dIx P 28 t10x9 t50 w.drew fun t57 =>
 dL P 3 t57 w.drew fun t58 =>
 dIx P 28 t11x9 t50 w.drew fun t60 =>
 dL P 3 t60 w.drew fun t61 =>
 Cw P t55 #[t58, t61] w.drew (Pk R) fun t62 w =>
 dIx P 28 t10x9 t50 w fun t63 =>
 Sto P 3 t63 t62 w fun w =>
 Bn P .add 3 true t50 (.int .i64 1) w fun t64 w =>
 k2 t64 w)
 (Jn1 (fun k3 =>
 dL P 23 t8 w.drew fun t65 =>
 dL P 28 t10x9 w.drew fun t66 =>
 (Cl P 72 #[t66] w.drew (Pk R) fun t67 w =>
 kLd P 23 t8 t65 w <|
 Dv P true (Instr.build 27 #[(0, t65), (1, t67)]) w fun t68 =>
 Al P 27 w fun t13 w =>
 kLd P 23 t8 t65 w <|
 kLd P 28 t10x9 t66 w <|
 Sto P 27 t13 t68 w fun w =>
 k3 t13 w) ∧
 (Al P 27 w.drew fun t13x1 w =>
 kLd P 23 t8 t65 w <|
 kLd P 28 t10x9 t66 w <|
 Cl P 72 #[t66] w (Pk R) fun t67x1 w =>
 kLd P 23 t8 t65 w <|
 Dv P true (Instr.build 27 #[(0, t65), (1, t67x1)]) w fun t68x1 =>
 Sto P 27 t13x1 t68x1 w fun w =>
 k3 t13x1 w))
 (fun t13x2 w =>
 Bn P .neq 35 true t43 (.int .i64 0) w fun t70 w =>
 Gd t70 false (fun k => Ld P 27 t13x2 w k) w fun t72 w =>
 Gd t70 false (fun k => Cl P 13 #[t72] w (Pk R) k) w fun t73 w =>
 Gd t70 false (fun k => Un P .not t73 w k) w fun t74 w =>
 Pick t70 (.bool true) t74 w fun t75 w =>
 If t75
 (Bd P 27 [] w fun t76 w =>
 Sto P 27 t6 t76 w fun w =>
 Rc P 27 t6 w fun r0 =>
 R (.returned (.tuple #[r0, (.int .i64 50)])) w)
 (Ld P 27 t13x2 w fun t77 w =>
 Sto P 27 t6 t77 w fun w =>
 Rc P 27 t6 w fun r0 =>
 R (.returned (.tuple #[r0, (.int .i64 0)])) w))))))
theorem e_unit_apply (h : s_unit_apply Tryz.prog t0 t1 t2 w R) : Calls Tryz.prog 44 #[t0, t1, t2] w R :=
 en1 (.sq .z (.sq (.sq .z (.cd (.sq .z .z) .z)) (.sq .z (.jn [10, 11] [44, 45, 46, 47, 48, 49] (.dr (.pur true 0 (.pur false 1 (.pur true 3 (.pur false 4 (.alt (.eff 2 [4] (.alt (.eff 5 [] (.alt (.eff 6 [1, 4] (.eff 7 [1, 4] (.eff 8 [] (.eff 9 [] .done)))) (.eff 7 [1, 4] (.eff 6 [1, 4] (.eff 8 [] (.eff 9 [] .done)))))) (.alt (.eff 6 [1, 4] (.alt (.eff 5 [] (.eff 7 [1, 4] (.eff 8 [] (.eff 9 [] .done)))) (.eff 7 [1, 4] (.eff 5 [] (.eff 8 [] (.eff 9 [] .done)))))) (.eff 7 [1, 4] (.alt (.eff 5 [] (.eff 6 [1, 4] (.eff 8 [] (.eff 9 [] .done)))) (.eff 6 [1, 4] (.eff 5 [] (.eff 8 [] (.eff 9 [] .done))))))))) (.alt (.eff 6 [1, 4] (.alt (.eff 2 [4] (.alt (.eff 5 [] (.eff 7 [1, 4] (.eff 8 [] (.eff 9 [] .done)))) (.eff 7 [1, 4] (.eff 5 [] (.eff 8 [] (.eff 9 [] .done)))))) (.eff 7 [1, 4] (.eff 2 [4] (.eff 5 [] (.eff 8 [] (.eff 9 [] .done))))))) (.eff 7 [1, 4] (.alt (.eff 2 [4] (.alt (.eff 5 [] (.eff 6 [1, 4] (.eff 8 [] (.eff 9 [] .done)))) (.eff 6 [1, 4] (.eff 5 [] (.eff 8 [] (.eff 9 [] .done)))))) (.eff 6 [1, 4] (.eff 2 [4] (.eff 5 [] (.eff 8 [] (.eff 9 [] .done)))))))))))))) (.sq (.sq .z (.bk (.lp [50] [12, 51, 52, 53, 54, 55, 56, 57, 58, 59, 60, 61, 62, 63, 64] (.sq .z (.sq (.cd .z .z) (.sq (.bk (.sq .z (.dr (.pur true 0 (.pur true 1 (.pur false 2 (.pur true 3 (.pur true 4 (.pur false 5 (.pur true 6 (.pur true 7 (.pur false 8 (.eff 9 [] (.pur true 10 (.eff 11 [] .done))))))))))))))) .z)))))) (.jn [13] [65, 66, 67, 68] (.dr (.pur false 0 (.pur false 1 (.alt (.eff 2 [0] (.pur true 3 (.eff 4 [0, 1] (.eff 5 [] .done)))) (.eff 4 [0, 1] (.eff 2 [0] (.pur true 3 (.eff 5 [] .done)))))))) (.sq (.sq .z (.cd (.sq .z .z) .z)) (.sq .z .z)))))))) [t0, t1, t2] Tryz.func44 (by kernel_rfl) (by kernel_rfl) h
theorem n_unit_apply : Enters Tryz.prog 44 := enters_of Tryz.func44 (by kernel_rfl) rfl
def s_rational_Add (P : Program) (t0 t1 : Value) (w : World) (R : Ending → World → Prop) : Prop :=
 Bx P 23 t0 w fun t2 w =>
 Bx P 23 t1 w fun t3 w =>
 Al P 23 w fun t4 w =>
 Ld P 23 t2 w fun t6 w =>
 Ld P 23 t3 w fun t7 w =>
 Cl P 87 #[(.func (.func 88) #[] #[]), t6, t7] w (Pk R) fun t8 w =>
 Ex t8 0 w fun t9 w =>
 Ex t8 1 w fun t10 w =>
 Sto P 23 t4 t9 w fun w =>
 Rc P 23 t4 w fun r0 =>
 R (.returned (.tuple #[r0, t10])) w
theorem e_rational_Add (h : s_rational_Add Tryz.prog t0 t1 w R) : Calls Tryz.prog 45 #[t0, t1] w R :=
 en1 (.sq .z (.sq .z .z)) [t0, t1] Tryz.func45 (by kernel_rfl) (by kernel_rfl) h
theorem n_rational_Add : Enters Tryz.prog 45 := enters_of Tryz.func45 (by kernel_rfl) rfl
def s_unit_first_int (P : Program) (t0 t1 : Value) (w : World) (R : Ending → World → Prop) : Prop :=
 R (.returned t0) w
theorem e_unit_first_int (h : s_unit_first_int Tryz.prog t0 t1 w R) : Calls Tryz.prog 46 #[t0, t1] w R :=
 en1 (.sq .z (.sq .z .z)) [t0, t1] Tryz.func46 (by kernel_rfl) (by kernel_rfl) h
theorem n_unit_first_int : Enters Tryz.prog 46 := enters_of Tryz.func46 (by kernel_rfl) rfl
def s_rational_Sub (P : Program) (t0 t1 : Value) (w : World) (R : Ending → World → Prop) : Prop :=
 Bx P 23 t0 w fun t2 w =>
 Bx P 23 t1 w fun t3 w =>
 Al P 23 w fun t4 w =>
 Ld P 23 t2 w fun t6 w =>
 Ld P 23 t3 w fun t7 w =>
 Cl P 87 #[(.func (.func 91) #[] #[]), t6, t7] w (Pk R) fun t8 w =>
 Ex t8 0 w fun t9 w =>
 Ex t8 1 w fun t10 w =>
 Sto P 23 t4 t9 w fun w =>
 Rc P 23 t4 w fun r0 =>
 R (.returned (.tuple #[r0, t10])) w
theorem e_rational_Sub (h : s_rational_Sub Tryz.prog t0 t1 w R) : Calls Tryz.prog 49 #[t0, t1] w R :=
 en1 (.sq .z (.sq .z .z)) [t0, t1] Tryz.func49 (by kernel_rfl) (by kernel_rfl) h
theorem n_rational_Sub : Enters Tryz.prog 49 := enters_of Tryz.func49 (by kernel_rfl) rfl
def s_rational_Mul (P : Program) (t0 t1 : Value) (w : World) (R : Ending → World → Prop) : Prop :=
 Bx P 23 t0 w fun t2 w =>
 Bx P 23 t1 w fun t3 w =>
 Al P 23 w fun t4 w =>
 Bd P 103 [] w fun t8 w =>
 Bx P 103 t8 w fun t9 w =>
 Ld P 23 t2 w fun t11 w =>
 Ld P 23 t3 w fun t12 w =>
 Bs P 134 2 [(0, t11), (1, t12)] w fun t13 w =>
 Cl P 93 #[t9, t13] w (Pk R) fun t14 w =>
 Fa P 23 t2 0 w fun t16 w =>
 Ld P 9 t16 w fun t17 w =>
 Fa P 23 t3 0 w fun t18 w =>
 Ld P 9 t18 w fun t19 w =>
 Cl P 94 #[t9, t17, t19] w (Pk R) fun t20 w =>
 Fa P 23 t2 1 w fun t24 w =>
 Ld P 9 t24 w fun t25 w =>
 Fa P 23 t3 1 w fun t26 w =>
 Ld P 9 t26 w fun t27 w =>
 Cl P 94 #[t9, t25, t27] w (Pk R) fun t28 w =>
 Cl P 95 #[t9, t20, t28] w (Pk R) fun t29 w =>
 Ex t29 0 w fun t30 w =>
 Ex t29 1 w fun t31 w =>
 Sto P 23 t4 t30 w fun w =>
 Rc P 23 t4 w fun r0 =>
 R (.returned (.tuple #[r0, t31])) w
theorem e_rational_Mul (h : s_rational_Mul Tryz.prog t0 t1 w R) : Calls Tryz.prog 51 #[t0, t1] w R :=
 en1 (.sq .z (.sq .z (.sq .z (.sq .z (.sq .z .z))))) [t0, t1] Tryz.func51 (by kernel_rfl) (by kernel_rfl) h
theorem n_rational_Mul : Enters Tryz.prog 51 := enters_of Tryz.func51 (by kernel_rfl) rfl
def s_unit_Mul_1 (P : Program) (t0 t1 : Value) (w : World) (R : Ending → World → Prop) : Prop :=
 Bn P .add 3 false t0 t1 w fun t7 w =>
 R (.returned t7) w
theorem e_unit_Mul_1 (h : s_unit_Mul_1 Tryz.prog t0 t1 w R) : Calls Tryz.prog 52 #[t0, t1] w R :=
 en1 (.sq .z (.sq .z .z)) [t0, t1] Tryz.func52 (by kernel_rfl) (by kernel_rfl) h
theorem n_unit_Mul_1 : Enters Tryz.prog 52 := enters_of Tryz.func52 (by kernel_rfl) rfl
def s_rational_Div (P : Program) (t0 t1 : Value) (w : World) (R : Ending → World → Prop) : Prop :=
 Bx P 23 t0 w fun t2 w =>
 Bx P 23 t1 w fun t3 w =>
 Al P 23 w fun t4 w =>
 Bd P 103 [] w fun t8 w =>
 Bx P 103 t8 w fun t9 w =>
 Ld P 23 t2 w fun t11 w =>
 Ld P 23 t3 w fun t12 w =>
 Bs P 134 2 [(0, t11), (1, t12)] w fun t13 w =>
 Cl P 93 #[t9, t13] w (Pk R) fun t14 w =>
 Fa P 23 t2 0 w fun t16 w =>
 Ld P 9 t16 w fun t17 w =>
 Fa P 23 t3 1 w fun t18 w =>
 Ld P 9 t18 w fun t19 w =>
 Cl P 94 #[t9, t17, t19] w (Pk R) fun t20 w =>
 Fa P 23 t2 1 w fun t24 w =>
 Ld P 9 t24 w fun t25 w =>
 Fa P 23 t3 0 w fun t26 w =>
 Ld P 9 t26 w fun t27 w =>
 Cl P 94 #[t9, t25, t27] w (Pk R) fun t28 w =>
 Cl P 95 #[t9, t20, t28] w (Pk R) fun t29 w =>
 Ex t29 0 w fun t30 w =>
 Ex t29 1 w fun t31 w =>
 Sto P 23 t4 t30 w fun w =>
 Rc P 23 t4 w fun r0 =>
 R (.returned (.tuple #[r0, t31])) w
theorem e_rational_Div (h : s_rational_Div Tryz.prog t0 t1 w R) : Calls Tryz.prog 55 #[t0, t1] w R :=
 en1 (.sq .z (.sq .z (.sq .z (.sq .z (.sq .z .z))))) [t0, t1] Tryz.func55 (by kernel_rfl) (by kernel_rfl) h
theorem n_rational_Div : Enters Tryz.prog 55 := enters_of Tryz.func55 (by kernel_rfl) rfl
def s_unit_Div_1 (P : Program) (t0 t1 : Value) (w : World) (R : Ending → World → Prop) : Prop :=
 Bn P .sub 3 false t0 t1 w fun t7 w =>
 R (.returned t7) w
theorem e_unit_Div_1 (h : s_unit_Div_1 Tryz.prog t0 t1 w R) : Calls Tryz.prog 56 #[t0, t1] w R :=
 en1 (.sq .z (.sq .z .z)) [t0, t1] Tryz.func56 (by kernel_rfl) (by kernel_rfl) h
theorem n_unit_Div_1 : Enters Tryz.prog 56 := enters_of Tryz.func56 (by kernel_rfl) rfl
def s_wire_PutString (P : Program) (t0 : Value) (w : World) (R : Ending → World → Prop) : Prop :=
 Bt P .len #[9] 3 #[t0] w fun t7 w =>
 Bn P .gtr 3 true t7 (.int .i64 65536) w fun t8 w =>
 If t8
 (R (.returned (.tuple #[(str []), (.int .i64 10)])) w)
 (Bt P .len #[9] 3 #[t0] w fun t11 w =>
 Cl P 60 #[t11] w (Pk R) fun t12 w =>
 Ex t12 0 w fun t13 w =>
 Ex t12 1 w fun t14 w =>
 Bn P .add 9 false t13 t0 w fun t17 w =>
 R (.returned (.tuple #[t17, (.int .i64 0)])) w)
theorem e_wire_PutString (h : s_wire_PutString Tryz.prog t0 w R) : Calls Tryz.prog 59 #[t0] w R :=
 en1 (.sq .z (.sq (.sq .z (.cd (.sq .z .z) .z)) (.sq .z (.sq .z .z)))) [t0] Tryz.func59 (by kernel_rfl) (by kernel_rfl) h
theorem n_wire_PutString : Enters Tryz.prog 59 := enters_of Tryz.func59 (by kernel_rfl) rfl
def s_wire_PutInt (P : Program) (t0 : Value) (w : World) (R : Ending → World → Prop) : Prop :=
 Bn P .lss 3 true t0 (.int .i64 (-4611686018427387903)) w fun t8 w =>
 Gd t8 false (fun k => k t0 w) w fun t10 w =>
 Gd t8 false (fun k => Bn P .gtr 3 true t10 (.int .i64 4611686018427387903) w k) w fun t11 w =>
 Pick t8 (.bool true) t11 w fun t12 w =>
 If t12
 (R (.returned (.tuple #[(str []), (.int .i64 10)])) w)
 (Al P 44 w fun t4 w =>
 Cv P 3 109 t0 w fun t14 w =>
 Bn P .shl 109 true t14 (.int .u64 1) w fun t15 w =>
 Bn P .shr 3 true t0 (.int .u64 63) w fun t17 w =>
 Cv P 3 109 t17 w fun t18 w =>
 Bn P .xor 109 false t15 t18 w fun t19 w =>
 Cl P 100 #[t19] w (Pk R) fun t20 w =>
 Rf2 P t20 w (fun t21 t22 w next lv =>
 Jn1 (fun k1 =>
 Un P .not t22 w fun t24 w =>
 If t24
 (Bn P .or 5 true t21 (.int .u8 128) w fun t26 w =>
 k1 t26 w)
 (k1 t21 w))
 (fun t5 w =>
 Ld P 44 t4 w fun t27 w =>
 Bs P 44 1 [(0, t5)] w fun t29 w =>
 Bt P .append #[44, 44] 44 #[t27, t29] w fun t30 w =>
 Sto P 44 t4 t30 w fun w =>
 next w))
 (fun D1 w =>
 Ld P 44 t4 w fun t31 w =>
 Cv P 44 9 t31 w fun t32 w =>
 Tk P D1 w fun w =>
 R (.returned (.tuple #[t32, (.int .i64 0)])) w)
 (fun D1 w =>
 Tk P D1 w fun w =>
 R (.returned (.tuple #[(str []), (.int .i64 0)])) w) [])
theorem e_wire_PutInt (h : s_wire_PutInt Tryz.prog t0 w R) : Calls Tryz.prog 60 #[t0] w R :=
 en1 (.sq .z (.sq (.sq .z (.cd (.sq .z .z) .z)) (.sq .z (.sq (.sq .z (.bk (.rf (.bk (.jn [5] [23, 24, 25, 26] (.sq .z (.cd .z .z)) .z)) []))) (.sq .z .z))))) [t0] Tryz.func60 (by kernel_rfl) (by kernel_rfl) h
theorem n_wire_PutInt : Enters Tryz.prog 60 := enters_of Tryz.func60 (by kernel_rfl) rfl
def s_rational_Print (P : Program) (t0 : Value) (w : World) (R : Ending → World → Prop) : Prop :=
 Bx P 23 t0 w fun t1 w =>
 Ld P 23 t1 w fun t4 w =>
 Cl P 40 #[t4] w (Pk R) fun t5 w =>
 Un P .not t5 w fun t6 w =>
 If t6
 (R (.returned (str [])) w)
 (Fa P 23 t1 1 w fun t8 w =>
 Ld P 9 t8 w fun t9 w =>
 Bn P .eql 9 true t9 (str [49]) w fun t10 w =>
 If t10
 (Fa P 23 t1 0 w fun t11 w =>
 Ld P 9 t11 w fun t12 w =>
 R (.returned t12) w)
 (Fa P 23 t1 0 w fun t13 w =>
 Ld P 9 t13 w fun t14 w =>
 Fa P 23 t1 1 w fun t15 w =>
 Ld P 9 t15 w fun t16 w =>
 Bs P 45 2 [(0, t14), (1, t16)] w fun t17 w =>
 Cl P 102 #[t17, (str [47])] w (Pk R) fun t18 w =>
 R (.returned t18) w))
theorem e_rational_Print (h : s_rational_Print Tryz.prog t0 w R) : Calls Tryz.prog 63 #[t0] w R :=
 en1 (.sq .z (.sq (.bk (.sq .z (.cd (.sq .z .z) (.sq .z (.cd (.sq .z .z) .z))))) (.sq .z .z))) [t0] Tryz.func63 (by kernel_rfl) (by kernel_rfl) h
theorem n_rational_Print : Enters Tryz.prog 63 := enters_of Tryz.func63 (by kernel_rfl) rfl
theorem n_strconv_Itoa : Enters Tryz.prog 64 := enters_of Tryz.func64 (by kernel_rfl) rfl
theorem n_strings_Split : Enters Tryz.prog 67 := enters_of Tryz.func67 (by kernel_rfl) rfl
def s_rational_Parse (P : Program) (t0 : Value) (w : World) (R : Ending → World → Prop) : Prop :=
 Al P 23 w fun t2 w =>
 Bd P 23 [(1, (str [49]))] w fun t8 w =>
 Al P 23 w fun t4 w =>
 Sto P 23 t4 t8 w fun w =>
 Cl P 70 #[t0, (str [47])] w (Pk R) fun t11 w =>
 Ex t11 0 w fun t12 w =>
 Ex t11 1 w fun t13 w =>
 Ex t11 2 w fun t14 w =>
 Jn0 (fun k1 =>
 Fa P 23 t4 0 w fun t16 w =>
 Sto P 9 t16 t12 w fun w =>
 If t14
 (Fa P 23 t4 1 w fun t19 w =>
 Sto P 9 t19 t13 w fun w =>
 k1 w)
 (k1 w))
 (fun w =>
 Ld P 23 t4 w fun t20 w =>
 Cl P 63 #[t20] w (Pk R) fun t21 w =>
 Bn P .neq 9 false t21 t0 w fun t23 w =>
 Gd t23 false (fun k => k t0 w) w fun t25 w =>
 Gd t23 false (fun k => Bn P .eql 9 true t25 (str []) w k) w fun t26 w =>
 Pick t23 (.bool true) t26 w fun t27 w =>
 If t27
 (Bd P 23 [] w fun t28 w =>
 Sto P 23 t2 t28 w fun w =>
 Rc P 23 t2 w fun r0 =>
 R (.returned (.tuple #[r0, (.int .i64 40)])) w)
 (Ld P 23 t4 w fun t29 w =>
 Sto P 23 t2 t29 w fun w =>
 Rc P 23 t2 w fun r0 =>
 R (.returned (.tuple #[r0, (.int .i64 0)])) w))
theorem e_rational_Parse (h : s_rational_Parse Tryz.prog t0 w R) : Calls Tryz.prog 68 #[t0] w R :=
 en1 (.sq .z (.sq .z (.sq .z (.jn [] [15, 16, 17, 18, 19] (.sq .z (.sq .z (.cd .z .z))) (.sq (.sq .z (.cd (.sq .z .z) .z)) (.sq .z .z)))))) [t0] Tryz.func68 (by kernel_rfl) (by kernel_rfl) h
theorem n_rational_Parse : Enters Tryz.prog 68 := enters_of Tryz.func68 (by kernel_rfl) rfl
def s_unit_Parse_1 (P : Program) (t0 t1 : Value) (w : World) (R : Ending → World → Prop) : Prop :=
 Cl P 70 #[t0, (str [94])] w (Pk R) fun t13 w =>
 Ex t13 0 w fun t14 w =>
 Ex t13 1 w fun t15 w =>
 Ex t13 2 w fun t16 w =>
 Jn1 (fun k1 =>
 If t16
 (Cl P 71 #[t15] w (Pk R) fun t20 w =>
 Ex t20 0 w fun t21 w =>
 Ex t20 1 w fun t22 w =>
 Bn P .neq 82 true t22 .nilIface w fun t24 w =>
 If t24
 (R (.returned (.bool false)) w)
 (k1 t21 w))
 (k1 (.int .i64 1) w))
 (fun t7 w =>
 Lp1 (.int .i64 0) w (fun t26 w k2 =>
 Bn P .lss 3 true t26 (.int .i64 4) w fun t27 w =>
 If t27
 (Ia P 74 (.pointer (some ⟨0, 0, none⟩)) t26 w fun t30 w =>
 Ld P 9 t30 w fun t31 w =>
 Bn P .eql 9 false t31 t14 w fun t33 w =>
 If t33
 (Ia P 28 t1 t26 w fun t36 w =>
 Sto P 3 t36 t7 w fun w =>
 R (.returned (.bool true)) w)
 (Bn P .add 3 true t26 (.int .i64 1) w fun t37 w =>
 k2 t37 w))
 (R (.returned (.bool false)) w)))
theorem e_unit_Parse_1 (h : s_unit_Parse_1 Tryz.prog t0 t1 w R) : Calls Tryz.prog 69 #[t0, t1] w R :=
 en1 (.sq .z (.sq .z (.sq .z (.jn [7] [3, 8, 9, 17, 18, 19, 20, 21, 22, 23, 24, 25] (.sq .z (.cd (.sq .z (.sq (.sq .z (.cd (.sq .z .z) .z)) .z)) .z)) (.sq (.sq .z (.bk (.lp [26] [3, 10, 27, 28, 29, 30, 31, 32, 33, 34, 35, 36, 37] (.sq .z (.sq (.cd .z .z) (.sq (.bk (.sq .z (.sq .z (.cd (.sq .z (.sq .z .z)) .z)))) .z)))))) (.sq .z .z)))))) [t0, t1] Tryz.func69 (by kernel_rfl) (by kernel_rfl) h
theorem n_unit_Parse_1 : Enters Tryz.prog 69 := enters_of Tryz.func69 (by kernel_rfl) rfl
theorem n_strings_Cut : Enters Tryz.prog 70 := enters_of Tryz.func70 (by kernel_rfl) rfl
theorem n_strconv_Atoi : Enters Tryz.prog 71 := enters_of Tryz.func71 (by kernel_rfl) rfl
def s_unit_unit (P : Program) (t0 : Value) (w : World) (R : Ending → World → Prop) : Prop :=
 Bx P 28 t0 w fun t1 w =>
 Al P 25 w fun t2 w =>
 Ia P 28 t1 (.int .i64 0) w fun t3 w =>
 Ld P 3 t3 w fun t4 w =>
 Ia P 28 t1 (.int .i64 1) w fun t5 w =>
 Ld P 3 t5 w fun t6 w =>
 Ia P 28 t1 (.int .i64 2) w fun t7 w =>
 Ld P 3 t7 w fun t8 w =>
 Ia P 28 t1 (.int .i64 3) w fun t9 w =>
 Ld P 3 t9 w fun t10 w =>
 Bd P 25 [(0, t4), (1, t6), (2, t8), (3, t10)] w fun t11 w =>
 Sto P 25 t2 t11 w fun w =>
 Rc P 25 t2 w fun r0 =>
 R (.returned r0) w
theorem e_unit_unit (h : s_unit_unit Tryz.prog t0 w R) : Calls Tryz.prog 72 #[t0] w R :=
 en1 (.sq .z (.sq .z .z)) [t0] Tryz.func72 (by kernel_rfl) (by kernel_rfl) h
theorem n_unit_unit : Enters Tryz.prog 72 := enters_of Tryz.func72 (by kernel_rfl) rfl
def s_wire_String (P : Program) (t0 t1 : Value) (w : World) (R : Ending → World → Prop) : Prop :=
 Cl P 76 #[t0, t1] w (Pk R) fun t13 w =>
 Ex t13 0 w fun t14 w =>
 Ex t13 1 w fun t15 w =>
 Ex t13 2 w fun t16 w =>
 Bn P .neq 35 true t16 (.int .i64 0) w fun t18 w =>
 If t18
 (R (.returned (.tuple #[(str []), (.int .i64 0), t16])) w)
 (Bn P .lss 3 true t14 (.int .i64 0) w fun t21 w =>
 Gd t21 false (fun k => k t14 w) w fun t23 w =>
 Gd t21 false (fun k => Bn P .gtr 3 true t23 (.int .i64 65536) w k) w fun t24 w =>
 Pick t21 (.bool true) t24 w fun t25 w =>
 Gd t25 false (fun k => k t14 w) w fun t27 w =>
 Gd t25 false (fun k => k t0 w) w fun t28 w =>
 Gd t25 false (fun k => Bt P .len #[9] 3 #[t28] w k) w fun t29 w =>
 Gd t25 false (fun k => k t15 w) w fun t30 w =>
 Gd t25 false (fun k => Bn P .sub 3 false t29 t30 w k) w fun t31 w =>
 Gd t25 false (fun k => Bn P .gtr 3 false t27 t31 w k) w fun t32 w =>
 Pick t25 (.bool true) t32 w fun t33 w =>
 If t33
 (R (.returned (.tuple #[(str []), (.int .i64 0), (.int .i64 10)])) w)
 (Bn P .add 3 false t15 t14 w fun t38 w =>
 Sc P 9 t0 (some t15) (some t38) none w fun t39 w =>
 Bn P .add 3 false t15 t14 w fun t42 w =>
 R (.returned (.tuple #[t39, t42, (.int .i64 0)])) w))
theorem e_wire_String (h : s_wire_String Tryz.prog t0 t1 w R) : Calls Tryz.prog 75 #[t0, t1] w R :=
 en1 (.sq .z (.sq .z (.sq (.sq .z (.cd (.sq .z .z) .z)) (.sq (.sq .z (.cd (.sq .z .z) .z)) (.sq .z .z))))) [t0, t1] Tryz.func75 (by kernel_rfl) (by kernel_rfl) h
theorem n_wire_String : Enters Tryz.prog 75 := enters_of Tryz.func75 (by kernel_rfl) rfl
def s_wire_Int (P : Program) (t0 t1 : Value) (w : World) (R : Ending → World → Prop) : Prop :=
 Bn P .lss 3 true t1 (.int .i64 0) w fun t12 w =>
 Gd t12 false (fun k => k t1 w) w fun t14 w =>
 Gd t12 false (fun k => k t0 w) w fun t15 w =>
 Gd t12 false (fun k => Bt P .len #[9] 3 #[t15] w k) w fun t16 w =>
 Gd t12 false (fun k => Bn P .gtr 3 false t14 t16 w k) w fun t17 w =>
 Pick t12 (.bool true) t17 w fun t18 w =>
 If t18
 (R (.returned (.tuple #[(.int .i64 0), (.int .i64 0), (.int .i64 2)])) w)
 (Lp2 (.int .u64 0) (.int .i64 0) w (fun t7 t19 w k1 =>
 Bn P .lss 3 true t19 (.int .i64 9) w fun t20 w =>
 If t20
 (Bn P .add 3 false t1 t19 w fun t24 w =>
 Bt P .len #[9] 3 #[t0] w fun t26 w =>
 Bn P .geq 3 false t24 t26 w fun t27 w =>
 If t27
 (R (.returned (.tuple #[(.int .i64 0), (.int .i64 0), (.int .i64 10)])) w)
 (Bn P .add 3 false t1 t19 w fun t31 w =>
 Ix P 9 t0 t31 w fun t32 w =>
 Bn P .and 5 true t32 (.int .u8 127) w fun t35 w =>
 Cv P 5 109 t35 w fun t36 w =>
 Bn P .mul 3 true (.int .i64 7) t19 w fun t38 w =>
 Bn P .shl 109 false t36 t38 w fun t39 w =>
 Bn P .or 109 false t7 t39 w fun t40 w =>
 Bn P .geq 5 true t32 (.int .u8 128) w fun t42 w =>
 If t42
 (Bn P .add 3 true t19 (.int .i64 1) w fun t66 w =>
 k1 t40 t66 w)
 (Bn P .shr 109 true t40 (.int .u64 1) w fun t44 w =>
 Cv P 109 3 t44 w fun t45 w =>
 Bn P .and 109 true t40 (.int .u64 1) w fun t47 w =>
 Cv P 109 3 t47 w fun t48 w =>
 Un P .neg t48 w fun t49 w =>
 Bn P .xor 3 false t45 t49 w fun t50 w =>
 Bn P .eql 5 true t32 (.int .u8 0) w fun t52 w =>
 Gd t52 true (fun k => k t19 w) w fun t54 w =>
 Gd t52 true (fun k => Bn P .gtr 3 true t54 (.int .i64 0) w k) w fun t55 w =>
 Pick t52 t55 (.bool false) w fun t56 w =>
 Gd t56 false (fun k => k t50 w) w fun t58 w =>
 Gd t56 false (fun k => Bn P .lss 3 true t58 (.int .i64 (-4611686018427387903)) w k) w fun t59 w =>
 Pick t56 (.bool true) t59 w fun t60 w =>
 If t60
 (R (.returned (.tuple #[(.int .i64 0), (.int .i64 0), (.int .i64 10)])) w)
 (Bn P .add 3 false t1 t19 w fun t64 w =>
 Bn P .add 3 true t64 (.int .i64 1) w fun t65 w =>
 R (.returned (.tuple #[t50, t65, (.int .i64 0)])) w))))
 (R (.returned (.tuple #[(.int .i64 0), (.int .i64 0), (.int .i64 10)])) w)))
theorem e_wire_Int (h : s_wire_Int Tryz.prog t0 t1 w R) : Calls Tryz.prog 76 #[t0, t1] w R :=
 en1 (.sq .z (.sq (.sq .z (.cd (.sq .z .z) .z)) (.sq .z (.sq (.sq .z (.bk (.lp [7, 19] [4, 5, 6, 8, 9, 10, 20, 21, 22, 23, 24, 25, 26, 27, 28, 29, 30, 31, 32, 33, 34, 35, 36, 37, 38, 39, 40, 41, 42, 43, 44, 45, 46, 47, 48, 49, 50, 51, 52, 53, 54, 55, 56, 57, 58, 59, 60, 61, 62, 63, 64, 65, 66] (.sq .z (.sq (.cd .z .z) (.sq (.bk (.sq .z (.sq (.sq .z (.cd .z .z)) (.sq .z (.sq .z (.sq (.sq .z (.cd .z .z)) (.sq .z (.sq (.sq .z (.cd .z .z)) (.sq .z .z))))))))) .z)))))) (.sq .z .z))))) [t0, t1] Tryz.func76 (by kernel_rfl) (by kernel_rfl) h
theorem n_wire_Int : Enters Tryz.prog 76 := enters_of Tryz.func76 (by kernel_rfl) rfl
def s_integer_Div (P : Program) (t0 t1 : Value) (w : World) (R : Ending → World → Prop) : Prop :=
 Cl P 108 #[t0, t1] w (Pk R) fun t19 w =>
 Ex t19 0 w fun t20 w =>
 Ex t19 1 w fun t21 w =>
 Ex t19 2 w fun t22 w =>
 Al P 117 w fun t7 w =>
 Al P 117 w fun t8 w =>
 Sto P 117 t7 t20 w fun w =>
 Sto P 117 t8 t21 w fun w =>
 Un P .not t22 w fun t24 w =>
 Gd t24 false (fun k => Fa P 117 t8 1 w k) w fun t26 w =>
 Gd t24 false (fun k => Ld P 115 t26 w k) w fun t27 w =>
 Gd t24 false (fun k => Bt P .len #[115] 3 #[t27] w k) w fun t28 w =>
 Gd t24 false (fun k => Bn P .eql 3 true t28 (.int .i64 0) w k) w fun t29 w =>
 Pick t24 (.bool true) t29 w fun t30 w =>
 If t30
 (R (.returned (.tuple #[(str []), (str []), (.int .i64 30)])) w)
 (Fa P 117 t7 1 w fun t32 w =>
 Ld P 115 t32 w fun t33 w =>
 Fa P 117 t8 1 w fun t34 w =>
 Ld P 115 t34 w fun t35 w =>
 Cl P 109 #[t33, t35] w (Pk R) fun t36 w =>
 Ex t36 0 w fun t37 w =>
 Ex t36 1 w fun t38 w =>
 Jn2 (fun k1 =>
 Fa P 117 t7 0 w fun t39 w =>
 Ld P 4 t39 w fun t40 w =>
 Gd t40 true (fun k => k t38 w) w fun t42 w =>
 Gd t40 true (fun k => Bt P .len #[115] 3 #[t42] w k) w fun t43 w =>
 Gd t40 true (fun k => Bn P .gtr 3 true t43 (.int .i64 0) w k) w fun t44 w =>
 Pick t40 t44 (.bool false) w fun t45 w =>
 If t45
 (dFl P 117 t8 1 w.drew fun t49 =>
 dL P 115 t49 w.drew fun t50 =>
 Cl P 111 #[] w.drew (Pk R) fun t47 w =>
 kLd P 115 t49 t50 w <|
 Cl P 110 #[t37, t47] w (Pk R) fun t48 w =>
 kLd P 115 t49 t50 w <|
 Cl P 112 #[t50, t38] w (Pk R) fun t52 w =>
 k1 t48 t52 w)
 (k1 t37 t38 w))
 (fun t10 t11 w =>
 Fa P 117 t7 0 w fun t54 w =>
 Ld P 4 t54 w fun t55 w =>
 Fa P 117 t8 0 w fun t56 w =>
 Ld P 4 t56 w fun t57 w =>
 Bn P .neq 4 false t55 t57 w fun t58 w =>
 Bd P 117 [(0, t58), (1, t10)] w fun t60 w =>
 Cl P 113 #[t60] w (Pk R) fun t61 w =>
 Ex t61 0 w fun t62 w =>
 Ex t61 1 w fun t63 w =>
 Bn P .neq 35 true t63 (.int .i64 0) w fun t65 w =>
 If t65
 (R (.returned (.tuple #[(str []), (str []), t63])) w)
 (Bd P 117 [(1, t11)] w fun t69 w =>
 Cl P 113 #[t69] w (Pk R) fun t70 w =>
 Ex t70 0 w fun t71 w =>
 Ex t70 1 w fun t72 w =>
 R (.returned (.tuple #[t62, t71, (.int .i64 0)])) w)))
theorem e_integer_Div (h : s_integer_Div Tryz.prog t0 t1 w R) : Calls Tryz.prog 79 #[t0, t1] w R :=
 en1 (.sq .z (.sq .z (.sq (.sq .z (.cd (.sq .z .z) .z)) (.sq .z (.jn [10, 11] [39, 40, 41, 42, 43, 44, 45, 46, 47, 48, 49, 50, 51, 52] (.sq .z (.cd (.dr (.pur true 0 (.pur true 3 (.pur false 4 (.pur true 5 (.eff 1 [4] (.eff 2 [4] (.eff 6 [] (.pur true 7 (.pur true 8 .done)))))))))) .z)) (.sq .z (.sq (.sq .z (.cd (.sq .z .z) .z)) (.sq .z (.sq .z .z))))))))) [t0, t1] Tryz.func79 (by kernel_rfl) (by kernel_rfl) h
theorem n_integer_Div : Enters Tryz.prog 79 := enters_of Tryz.func79 (by kernel_rfl) rfl
def s_integer_Compare (P : Program) (t0 t1 : Value) (w : World) (R : Ending → World → Prop) : Prop :=
 Cl P 108 #[t0, t1] w (Pk R) fun t11 w =>
 Ex t11 0 w fun t12 w =>
 Ex t11 1 w fun t13 w =>
 Ex t11 2 w fun t14 w =>
 Al P 117 w fun t5 w =>
 Al P 117 w fun t6 w =>
 Sto P 117 t5 t12 w fun w =>
 Sto P 117 t6 t13 w fun w =>
 Un P .not t14 w fun t17 w =>
 If t17
 (R (.returned (.int .i64 0)) w)
 (Fa P 117 t5 0 w fun t19 w =>
 Ld P 4 t19 w fun t20 w =>
 Gd t20 true (fun k => Fa P 117 t6 0 w k) w fun t22 w =>
 Gd t20 true (fun k => Ld P 4 t22 w k) w fun t23 w =>
 Pick t20 t23 (.bool false) w fun t24 w =>
 If t24
 (Fa P 117 t6 1 w fun t25 w =>
 Ld P 115 t25 w fun t26 w =>
 Fa P 117 t5 1 w fun t27 w =>
 Ld P 115 t27 w fun t28 w =>
 Cl P 114 #[t26, t28] w (Pk R) fun t29 w =>
 R (.returned t29) w)
 (Fa P 117 t5 0 w fun t31 w =>
 Ld P 4 t31 w fun t32 w =>
 If t32
 (R (.returned (.int .i64 (-1))) w)
 (Fa P 117 t6 0 w fun t34 w =>
 Ld P 4 t34 w fun t35 w =>
 If t35
 (R (.returned (.int .i64 1)) w)
 (Fa P 117 t5 1 w fun t36 w =>
 Ld P 115 t36 w fun t37 w =>
 Fa P 117 t6 1 w fun t38 w =>
 Ld P 115 t38 w fun t39 w =>
 Cl P 114 #[t37, t39] w (Pk R) fun t40 w =>
 R (.returned t40) w))))
theorem e_integer_Compare (h : s_integer_Compare Tryz.prog t0 t1 w R) : Calls Tryz.prog 80 #[t0, t1] w R :=
 en1 (.sq .z (.sq .z (.sq (.bk (.sq .z (.cd (.sq .z .z) (.sq .z (.cd (.sq .z .z) (.sq .z (.cd (.sq .z .z) (.sq .z (.cd (.sq .z .z) .z))))))))) (.sq .z .z)))) [t0, t1] Tryz.func80 (by kernel_rfl) (by kernel_rfl) h
theorem n_integer_Compare : Enters Tryz.prog 80 := enters_of Tryz.func80 (by kernel_rfl) rfl
def s_ref04_Make (P : Program) (t0 t1 : Value) (w : World) (R : Ending → World → Prop) : Prop :=
 Al P 23 w fun t4 w =>
 Cl P 115 #[t0] w (Pk R) fun t17 w =>
 Cl P 115 #[t1] w (Pk R) fun t19 w =>
 Un P .not t17 w fun t21 w =>
 Gd t21 false (fun k => k t19 w) w fun t23 w =>
 Gd t21 false (fun k => Un P .not t23 w k) w fun t24 w =>
 Pick t21 (.bool true) t24 w fun t25 w =>
 Gd t25 false (fun k => k t1 w) w fun t27 w =>
 Gd t25 false (fun k => Bn P .eql 9 true t27 (str [48]) w k) w fun t28 w =>
 Pick t25 (.bool true) t28 w fun t29 w =>
 If t29
 (Bd P 23 [] w fun t30 w =>
 Sto P 23 t4 t30 w fun w =>
 Rc P 23 t4 w fun r0 =>
 R (.returned (.tuple #[r0, (.int .i64 40)])) w)
 (Jn2 (fun k1 =>
 Cl P 98 #[t1, (str [48])] w (Pk R) fun t32 w =>
 Bn P .lss 3 true t32 (.int .i64 0) w fun t33 w =>
 If t33
 (Cl P 92 #[(str [48]), t0] w (Pk R) fun t36 w =>
 Ex t36 0 w fun t37 w =>
 Ex t36 1 w fun t38 w =>
 Cl P 92 #[(str [48]), t1] w (Pk R) fun t41 w =>
 Ex t41 0 w fun t42 w =>
 Ex t41 1 w fun t43 w =>
 k1 t37 t42 w)
 (k1 t0 t1 w))
 (fun t0x1 t1x1 w =>
 Cl P 116 #[t0x1, t1x1] w (Pk R) fun t47 w =>
 Ex t47 0 w fun t48 w =>
 Ex t47 1 w fun t49 w =>
 Cl P 97 #[t0x1, t48] w (Pk R) fun t53 w =>
 Ex t53 0 w fun t54 w =>
 Ex t53 1 w fun t55 w =>
 Ex t53 2 w fun t56 w =>
 Cl P 97 #[t1x1, t48] w (Pk R) fun t60 w =>
 Ex t60 0 w fun t61 w =>
 Ex t60 1 w fun t62 w =>
 Ex t60 2 w fun t63 w =>
 Bn P .neq 35 true t56 (.int .i64 0) w fun t65 w =>
 Gd t65 false (fun k => k t63 w) w fun t67 w =>
 Gd t65 false (fun k => Bn P .neq 35 true t67 (.int .i64 0) w k) w fun t68 w =>
 Pick t65 (.bool true) t68 w fun t69 w =>
 If t69
 (Bd P 23 [] w fun t70 w =>
 Sto P 23 t4 t70 w fun w =>
 Rc P 23 t4 w fun r0 =>
 R (.returned (.tuple #[r0, (.int .i64 40)])) w)
 (Bd P 23 [(0, t54), (1, t61)] w fun t73 w =>
 Sto P 23 t4 t73 w fun w =>
 Rc P 23 t4 w fun r0 =>
 R (.returned (.tuple #[r0, (.int .i64 0)])) w)))
theorem e_ref04_Make (h : s_ref04_Make Tryz.prog t0 t1 w R) : Calls Tryz.prog 81 #[t0, t1] w R :=
 en1 (.sq .z (.sq .z (.sq .z (.sq (.sq .z (.cd (.sq .z .z) .z)) (.jn [0, 1] [31, 32, 33, 34, 35, 36, 37, 38, 39, 40, 41, 42, 43] (.sq .z (.cd (.sq .z .z) .z)) (.sq .z (.sq .z (.sq .z (.sq (.sq .z (.cd (.sq .z .z) .z)) (.sq .z .z)))))))))) [t0, t1] Tryz.func81 (by kernel_rfl) (by kernel_rfl) h
theorem n_ref04_Make : Enters Tryz.prog 81 := enters_of Tryz.func81 (by kernel_rfl) rfl
def s_ref03_FromInt (P : Program) (t0 : Value) (w : World) (R : Ending → World → Prop) : Prop :=
 Lp2 (.slice none 0 0) t0 w (fun t3 t4 w k1 =>
 Bn P .neq 3 true t4 (.int .i64 0) w fun t10 w =>
 If t10
 (Bn P .rem 3 true t4 (.int .i64 10) w fun t14 w =>
 Bn P .lss 3 true t14 (.int .i64 0) w fun t16 w =>
 If t16
 (Un P .neg t14 w fun t18 w =>
 Bs P 47 1 [(0, t18)] w fun t21 w =>
 Bt P .append #[47, 47] 47 #[t3, t21] w fun t22 w =>
 Bn P .quo 3 true t4 (.int .i64 10) w fun t12 w =>
 k1 t22 t12 w)
 (Bs P 47 1 [(0, t14)] w fun t21x1 w =>
 Bt P .append #[47, 47] 47 #[t3, t21x1] w fun t22x1 w =>
 Bn P .quo 3 true t4 (.int .i64 10) w fun t12x1 w =>
 k1 t22x1 t12x1 w))
 (Bn P .lss 3 true t0 (.int .i64 0) w fun t25 w =>
 Cl P 117 #[t25, t3] w (Pk R) fun t27 w =>
 Ex t27 0 w fun t28 w =>
 Ex t27 1 w fun t29 w =>
 R (.returned t28) w))
theorem e_ref03_FromInt (h : s_ref03_FromInt Tryz.prog t0 w R) : Calls Tryz.prog 82 #[t0] w R :=
 en1 (.sq .z (.sq .z (.sq (.sq .z (.bk (.lp [3, 4] [5, 9, 10, 11, 12, 13, 14, 15, 16, 17, 18, 19, 20, 21, 22] (.sq (.sq .z (.cd .z .z)) (.sq (.bk (.sq .z (.sq (.sq .z (.cd .z .z)) .z))) .z))))) (.sq .z (.sq .z .z))))) [t0] Tryz.func82 (by kernel_rfl) (by kernel_rfl) h
theorem n_ref03_FromInt : Enters Tryz.prog 82 := enters_of Tryz.func82 (by kernel_rfl) rfl
def s_integer_Valid (P : Program) (t0 : Value) (w : World) (R : Ending → World → Prop) : Prop :=
 Cl P 119 #[t0] w (Pk R) fun t4 w =>
 R (.returned t4) w
theorem e_integer_Valid (h : s_integer_Valid Tryz.prog t0 w R) : Calls Tryz.prog 84 #[t0] w R :=
 en1 (.sq .z (.sq .z .z)) [t0] Tryz.func84 (by kernel_rfl) (by kernel_rfl) h
theorem n_integer_Valid : Enters Tryz.prog 84 := enters_of Tryz.func84 (by kernel_rfl) rfl
def s_integer_Gcd (P : Program) (t0 t1 : Value) (w : World) (R : Ending → World → Prop) : Prop :=
 Cl P 108 #[t0, t1] w (Pk R) fun t16 w =>
 Ex t16 0 w fun t17 w =>
 Ex t16 1 w fun t18 w =>
 Ex t16 2 w fun t19 w =>
 Al P 117 w fun t6 w =>
 Al P 117 w fun t7 w =>
 Sto P 117 t6 t17 w fun w =>
 Sto P 117 t7 t18 w fun w =>
 Un P .not t19 w fun t21 w =>
 If t21
 (R (.returned (.tuple #[(str []), (.int .i64 30)])) w)
 (dFl P 117 t6 1 w.drew fun t22 =>
 dL P 115 t22 w.drew fun t23 =>
 dFl P 117 t7 1 w.drew fun t24 =>
 dL P 115 t24 w.drew fun t25 =>
 Lp2 t23 t25 w.drew (fun t9 t10 w k1 =>
 Bt P .len #[115] 3 #[t10] w fun t27 w =>
 Bn P .gtr 3 true t27 (.int .i64 0) w fun t28 w =>
 If t28
 (Cl P 109 #[t9, t10] w (Pk R) fun t32 w =>
 Ex t32 0 w fun t33 w =>
 Ex t32 1 w fun t34 w =>
 k1 t10 t34 w)
 (Bd P 117 [(1, t9)] w fun t38 w =>
 Cl P 113 #[t38] w (Pk R) fun t39 w =>
 Ex t39 0 w fun t40 w =>
 Ex t39 1 w fun t41 w =>
 R (.returned (.tuple #[t40, t41])) w)))
theorem e_integer_Gcd (h : s_integer_Gcd Tryz.prog t0 t1 w R) : Calls Tryz.prog 85 #[t0, t1] w R :=
 en1 (.sq .z (.sq .z (.sq (.sq .z (.cd (.sq .z .z) .z)) (.sq (.dr (.pur true 0 (.pur false 1 (.pur true 2 (.pur false 3 (.pur true 4 (.pur true 5 .done))))))) (.sq (.bk (.lp [9, 10] [11, 12, 26, 27, 28, 29, 30, 31, 32, 33, 34, 35, 36] (.sq (.sq .z (.cd .z .z)) (.bk (.sq .z .z))))) (.sq .z .z)))))) [t0, t1] Tryz.func85 (by kernel_rfl) (by kernel_rfl) h
theorem n_integer_Gcd : Enters Tryz.prog 85 := enters_of Tryz.func85 (by kernel_rfl) rfl
def s_rational_sum (P : Program) (t0 t1 t2 : Value) (w : World) (R : Ending → World → Prop) : Prop :=
 Bx P 23 t1 w fun t4 w =>
 Bx P 23 t2 w fun t5 w =>
 Al P 23 w fun t6 w =>
 Bd P 103 [] w fun t10 w =>
 Bx P 103 t10 w fun t11 w =>
 Ld P 23 t4 w fun t13 w =>
 Ld P 23 t5 w fun t14 w =>
 Bs P 134 2 [(0, t13), (1, t14)] w fun t15 w =>
 Cl P 93 #[t11, t15] w (Pk R) fun t16 w =>
 dFl P 23 t4 0 w.drew fun t20 =>
 dL P 9 t20 w.drew fun t21 =>
 dFl P 23 t5 1 w.drew fun t22 =>
 dL P 9 t22 w.drew fun t23 =>
 dFl P 23 t5 0 w.drew fun t26 =>
 dL P 9 t26 w.drew fun t27 =>
 dFl P 23 t4 1 w.drew fun t28 =>
 dL P 9 t28 w.drew fun t29 =>
 Cl P 94 #[t11, t21, t23] w.drew (Pk R) fun t24 w =>
 kLd P 9 t26 t27 w <|
 kLd P 9 t28 t29 w <|
 Cl P 94 #[t11, t27, t29] w (Pk R) fun t30 w =>
 Cl P 120 #[t11, t0, t24, t30] w (Pk R) fun t31 w =>
 Fa P 23 t4 1 w fun t35 w =>
 Ld P 9 t35 w fun t36 w =>
 Fa P 23 t5 1 w fun t37 w =>
 Ld P 9 t37 w fun t38 w =>
 Cl P 94 #[t11, t36, t38] w (Pk R) fun t39 w =>
 Cl P 95 #[t11, t31, t39] w (Pk R) fun t40 w =>
 Ex t40 0 w fun t41 w =>
 Ex t40 1 w fun t42 w =>
 Sto P 23 t6 t41 w fun w =>
 Rc P 23 t6 w fun r0 =>
 R (.returned (.tuple #[r0, t42])) w
theorem e_rational_sum (h : s_rational_sum Tryz.prog t0 t1 t2 w R) : Calls Tryz.prog 87 #[t0, t1, t2] w R :=
 en1 (.sq .z (.sq .z (.sq .z (.sq (.dr (.pur true 0 (.pur true 1 (.pur true 2 (.pur true 3 (.pur false 4 (.pur true 5 (.pur false 6 (.pur true 8 (.pur true 9 (.pur false 10 (.pur true 11 (.pur false 12 (.eff 7 [10, 12] (.eff 13 [] (.eff 14 [] (.pur true 15 .done))))))))))))))))) (.sq .z .z))))) [t0, t1, t2] Tryz.func87 (by kernel_rfl) (by kernel_rfl) h
theorem n_rational_sum : Enters Tryz.prog 87 := enters_of Tryz.func87 (by kernel_rfl) rfl
def s_integer_Add (P : Program) (t0 t1 : Value) (w : World) (R : Ending → World → Prop) : Prop :=
 Cl P 108 #[t0, t1] w (Pk R) fun t12 w =>
 Ex t12 0 w fun t13 w =>
 Ex t12 1 w fun t14 w =>
 Ex t12 2 w fun t15 w =>
 Al P 117 w fun t6 w =>
 Al P 117 w fun t7 w =>
 Sto P 117 t6 t13 w fun w =>
 Sto P 117 t7 t14 w fun w =>
 Un P .not t15 w fun t17 w =>
 If t17
 (R (.returned (.tuple #[(str []), (.int .i64 30)])) w)
 (Ld P 117 t6 w fun t18 w =>
 Ld P 117 t7 w fun t19 w =>
 Cl P 121 #[t18, t19] w (Pk R) fun t20 w =>
 Cl P 113 #[t20] w (Pk R) fun t21 w =>
 Ex t21 0 w fun t22 w =>
 Ex t21 1 w fun t23 w =>
 R (.returned (.tuple #[t22, t23])) w)
theorem e_integer_Add (h : s_integer_Add Tryz.prog t0 t1 w R) : Calls Tryz.prog 88 #[t0, t1] w R :=
 en1 (.sq .z (.sq .z (.sq (.sq .z (.cd (.sq .z .z) .z)) (.sq .z .z)))) [t0, t1] Tryz.func88 (by kernel_rfl) (by kernel_rfl) h
theorem n_integer_Add : Enters Tryz.prog 88 := enters_of Tryz.func88 (by kernel_rfl) rfl
def s_integer_Sub (P : Program) (t0 t1 : Value) (w : World) (R : Ending → World → Prop) : Prop :=
 Cl P 108 #[t0, t1] w (Pk R) fun t12 w =>
 Ex t12 0 w fun t13 w =>
 Ex t12 1 w fun t14 w =>
 Ex t12 2 w fun t15 w =>
 Al P 117 w fun t6 w =>
 Al P 117 w fun t7 w =>
 Sto P 117 t6 t13 w fun w =>
 Sto P 117 t7 t14 w fun w =>
 Un P .not t15 w fun t17 w =>
 If t17
 (R (.returned (.tuple #[(str []), (.int .i64 30)])) w)
 (Fa P 117 t7 0 w fun t18 w =>
 Ld P 4 t18 w fun t19 w =>
 Un P .not t19 w fun t20 w =>
 Fa P 117 t7 0 w fun t21 w =>
 Sto P 4 t21 t20 w fun w =>
 Ld P 117 t6 w fun t22 w =>
 Ld P 117 t7 w fun t23 w =>
 Cl P 121 #[t22, t23] w (Pk R) fun t24 w =>
 Cl P 113 #[t24] w (Pk R) fun t25 w =>
 Ex t25 0 w fun t26 w =>
 Ex t25 1 w fun t27 w =>
 R (.returned (.tuple #[t26, t27])) w)
theorem e_integer_Sub (h : s_integer_Sub Tryz.prog t0 t1 w R) : Calls Tryz.prog 91 #[t0, t1] w R :=
 en1 (.sq .z (.sq .z (.sq (.sq .z (.cd (.sq .z .z) .z)) (.sq .z (.sq .z .z))))) [t0, t1] Tryz.func91 (by kernel_rfl) (by kernel_rfl) h
theorem n_integer_Sub : Enters Tryz.prog 91 := enters_of Tryz.func91 (by kernel_rfl) rfl
def s_ref03_Sub (P : Program) (t0 t1 : Value) (w : World) (R : Ending → World → Prop) : Prop :=
 Cl P 115 #[t0] w (Pk R) fun t11 w =>
 Un P .not t11 w fun t12 w =>
 Gd t12 false (fun k => k t1 w) w fun t14 w =>
 Gd t12 false (fun k => Cl P 115 #[t14] w (Pk R) k) w fun t15 w =>
 Gd t12 false (fun k => Un P .not t15 w k) w fun t16 w =>
 Pick t12 (.bool true) t16 w fun t17 w =>
 If t17
 (R (.returned (.tuple #[(str []), (.int .i64 30)])) w)
 (Cl P 122 #[t0] w (Pk R) fun t20 w =>
 Ex t20 0 w fun t21 w =>
 Ex t20 1 w fun t22 w =>
 Cl P 122 #[t1] w (Pk R) fun t25 w =>
 Ex t25 0 w fun t26 w =>
 Ex t25 1 w fun t27 w =>
 Un P .not t26 w fun t31 w =>
 Cl P 123 #[t21, t22, t31, t27] w (Pk R) fun t33 w =>
 Ex t33 0 w fun t34 w =>
 Ex t33 1 w fun t35 w =>
 R (.returned (.tuple #[t34, t35])) w)
theorem e_ref03_Sub (h : s_ref03_Sub Tryz.prog t0 t1 w R) : Calls Tryz.prog 92 #[t0, t1] w R :=
 en1 (.sq .z (.sq (.sq .z (.cd (.sq .z .z) .z)) (.sq .z (.sq .z (.sq .z .z))))) [t0, t1] Tryz.func92 (by kernel_rfl) (by kernel_rfl) h
theorem n_ref03_Sub : Enters Tryz.prog 92 := enters_of Tryz.func92 (by kernel_rfl) rfl
def s_rational_work_check (P : Program) (t0 t1 : Value) (w : World) (R : Ending → World → Prop) : Prop :=
 Bt P .len #[134] 3 #[t1] w fun t7 w =>
 Lp1 (.int .i64 0) w (fun t8 w k1 =>
 Bn P .lss 3 false t8 t7 w fun t9 w =>
 If t9
 (Ia P 134 t1 t8 w fun t10 w =>
 Ld P 23 t10 w fun t11 w =>
 Al P 23 w fun t5 w =>
 Sto P 23 t5 t11 w fun w =>
 Nc t0 w fun t14 w =>
 Fa P 103 t14 0 w fun t15 w =>
 Ld P 4 t15 w fun t16 w =>
 Gd t16 false (fun k => Ld P 23 t5 w k) w fun t18 w =>
 Gd t16 false (fun k => Cl P 40 #[t18] w (Pk R) k) w fun t19 w =>
 Gd t16 false (fun k => Un P .not t19 w k) w fun t20 w =>
 Pick t16 (.bool true) t20 w fun t21 w =>
 Nc t0 w fun t22 w =>
 Fa P 103 t22 0 w fun t23 w =>
 Sto P 4 t23 t21 w fun w =>
 Bn P .add 3 true t8 (.int .i64 1) w fun t24 w =>
 k1 t24 w)
 (R (.returned (.tuple #[])) w))
theorem e_rational_work_check (h : s_rational_work_check Tryz.prog t0 t1 w R) : Calls Tryz.prog 93 #[t0, t1] w R :=
 en1 (.sq .z (.bk (.lp [8] [5, 9, 10, 11, 12, 13, 14, 15, 16, 17, 18, 19, 20, 21, 22, 23, 24] (.sq .z (.sq (.cd .z .z) (.sq (.bk (.sq .z .z)) .z)))))) [t0, t1] Tryz.func93 (by kernel_rfl) (by kernel_rfl) h
theorem n_rational_work_check : Enters Tryz.prog 93 := enters_of Tryz.func93 (by kernel_rfl) rfl
def s_rational_work_mul (P : Program) (t0 t1 t2 : Value) (w : World) (R : Ending → World → Prop) : Prop :=
 Cl P 120 #[t0, (.func (.func 124) #[] #[]), t1, t2] w (Pk R) fun t10 w =>
 R (.returned t10) w
theorem e_rational_work_mul (h : s_rational_work_mul Tryz.prog t0 t1 t2 w R) : Calls Tryz.prog 94 #[t0, t1, t2] w R :=
 en1 (.sq .z (.sq .z .z)) [t0, t1, t2] Tryz.func94 (by kernel_rfl) (by kernel_rfl) h
theorem n_rational_work_mul : Enters Tryz.prog 94 := enters_of Tryz.func94 (by kernel_rfl) rfl
def s_rational_work_reduced (P : Program) (t0 t1 t2 : Value) (w : World) (R : Ending → World → Prop) : Prop :=
 Al P 23 w fun t6 w =>
 Nc t0 w fun t11 w =>
 Fa P 103 t11 0 w fun t12 w =>
 Ld P 4 t12 w fun t13 w =>
 Gd t13 false (fun k => k t2 w) w fun t15 w =>
 Gd t13 false (fun k => Bn P .eql 9 true t15 (str [48]) w k) w fun t16 w =>
 Pick t13 (.bool true) t16 w fun t17 w =>
 If t17
 (Bd P 23 [] w fun t18 w =>
 Sto P 23 t6 t18 w fun w =>
 Rc P 23 t6 w fun r0 =>
 R (.returned (.tuple #[r0, (.int .i64 40)])) w)
 (Jn2 (fun k1 =>
 Cl P 80 #[t2, (str [48])] w (Pk R) fun t20 w =>
 Bn P .lss 3 true t20 (.int .i64 0) w fun t21 w =>
 If t21
 (Cl P 120 #[t0, (.func (.func 91) #[] #[]), (str [48]), t1] w (Pk R) fun t24 w =>
 Cl P 120 #[t0, (.func (.func 91) #[] #[]), (str [48]), t2] w (Pk R) fun t27 w =>
 k1 t24 t27 w)
 (k1 t1 t2 w))
 (fun t1x1 t2x1 w =>
 Cl P 120 #[t0, (.func (.func 85) #[] #[]), t1x1, t2x1] w (Pk R) fun t31 w =>
 Cl P 125 #[t0, t1x1, t31] w (Pk R) fun t35 w =>
 Cl P 125 #[t0, t2x1, t31] w (Pk R) fun t39 w =>
 Bd P 23 [(0, t35), (1, t39)] w fun t40 w =>
 Al P 23 w fun t9 w =>
 Sto P 23 t9 t40 w fun w =>
 Nc t0 w fun t42 w =>
 Fa P 103 t42 0 w fun t43 w =>
 Ld P 4 t43 w fun t44 w =>
 If t44
 (Bd P 23 [] w fun t45 w =>
 Sto P 23 t6 t45 w fun w =>
 Rc P 23 t6 w fun r0 =>
 R (.returned (.tuple #[r0, (.int .i64 40)])) w)
 (Ld P 23 t9 w fun t46 w =>
 Sto P 23 t6 t46 w fun w =>
 Rc P 23 t6 w fun r0 =>
 R (.returned (.tuple #[r0, (.int .i64 0)])) w)))
theorem e_rational_work_reduced (h : s_rational_work_reduced Tryz.prog t0 t1 t2 w R) : Calls Tryz.prog 95 #[t0, t1, t2] w R :=
 en1 (.sq .z (.sq (.sq .z (.cd (.sq .z .z) .z)) (.jn [1, 2] [19, 20, 21, 22, 23, 24, 25, 26, 27] (.sq .z (.cd .z .z)) (.sq .z (.sq .z (.sq (.sq .z (.cd (.sq .z .z) .z)) (.sq .z .z))))))) [t0, t1, t2] Tryz.func95 (by kernel_rfl) (by kernel_rfl) h
theorem n_rational_work_reduced : Enters Tryz.prog 95 := enters_of Tryz.func95 (by kernel_rfl) rfl
def s_ref03_Div (P : Program) (t0 t1 : Value) (w : World) (R : Ending → World → Prop) : Prop :=
 Cl P 115 #[t0] w (Pk R) fun t18 w =>
 Un P .not t18 w fun t19 w =>
 Gd t19 false (fun k => k t1 w) w fun t21 w =>
 Gd t19 false (fun k => Cl P 115 #[t21] w (Pk R) k) w fun t22 w =>
 Gd t19 false (fun k => Un P .not t22 w k) w fun t23 w =>
 Pick t19 (.bool true) t23 w fun t24 w =>
 Gd t24 false (fun k => k t1 w) w fun t26 w =>
 Gd t24 false (fun k => Bn P .eql 9 true t26 (str [48]) w k) w fun t27 w =>
 Pick t24 (.bool true) t27 w fun t28 w =>
 If t28
 (R (.returned (.tuple #[(str []), (str []), (.int .i64 30)])) w)
 (Cl P 122 #[t0] w (Pk R) fun t31 w =>
 Ex t31 0 w fun t32 w =>
 Ex t31 1 w fun t33 w =>
 Cl P 122 #[t1] w (Pk R) fun t36 w =>
 Ex t36 0 w fun t37 w =>
 Ex t36 1 w fun t38 w =>
 Cl P 128 #[t33, t38] w (Pk R) fun t42 w =>
 Ex t42 0 w fun t43 w =>
 Ex t42 1 w fun t44 w =>
 Jn2 (fun k1 =>
 Gd t32 true (fun k => k t44 w) w fun t47 w =>
 Gd t32 true (fun k => Bt P .len #[47] 3 #[t47] w k) w fun t48 w =>
 Gd t32 true (fun k => Bn P .gtr 3 true t48 (.int .i64 0) w k) w fun t49 w =>
 Pick t32 t49 (.bool false) w fun t50 w =>
 If t50
 (Bs P 47 1 [(0, (.int .i64 1))] w fun t52 w =>
 Cl P 129 #[t43, t52] w (Pk R) fun t53 w =>
 Cl P 130 #[t38, t44] w (Pk R) fun t56 w =>
 k1 t53 t56 w)
 (k1 t43 t44 w))
 (fun t11 t12 w =>
 Bn P .neq 4 false t32 t37 w fun t60 w =>
 Cl P 126 #[t60, t11] w (Pk R) fun t62 w =>
 Ex t62 0 w fun t63 w =>
 Ex t62 1 w fun t64 w =>
 Cl P 117 #[(.bool false), t12] w (Pk R) fun t67 w =>
 Ex t67 0 w fun t68 w =>
 Ex t67 1 w fun t69 w =>
 Bn P .neq 35 true t64 (.int .i64 0) w fun t71 w =>
 If t71
 (R (.returned (.tuple #[(str []), (str []), t64])) w)
 (R (.returned (.tuple #[t63, t68, (.int .i64 0)])) w)))
theorem e_ref03_Div (h : s_ref03_Div Tryz.prog t0 t1 w R) : Calls Tryz.prog 97 #[t0, t1] w R :=
 en1 (.sq .z (.sq (.sq .z (.cd (.sq .z .z) .z)) (.sq .z (.sq .z (.sq .z (.jn [11, 12] [45, 46, 47, 48, 49, 50, 51, 52, 53, 54, 55, 56] (.sq .z (.cd (.sq .z .z) .z)) (.sq .z (.sq .z (.sq (.sq .z (.cd (.sq .z .z) .z)) (.sq .z .z)))))))))) [t0, t1] Tryz.func97 (by kernel_rfl) (by kernel_rfl) h
theorem n_ref03_Div : Enters Tryz.prog 97 := enters_of Tryz.func97 (by kernel_rfl) rfl
def s_ref03_Compare (P : Program) (t0 t1 : Value) (w : World) (R : Ending → World → Prop) : Prop :=
 Cl P 115 #[t0] w (Pk R) fun t10 w =>
 Un P .not t10 w fun t11 w =>
 Gd t11 false (fun k => k t1 w) w fun t13 w =>
 Gd t11 false (fun k => Cl P 115 #[t13] w (Pk R) k) w fun t14 w =>
 Gd t11 false (fun k => Un P .not t14 w k) w fun t15 w =>
 Pick t11 (.bool true) t15 w fun t16 w =>
 If t16
 (R (.returned (.int .i64 0)) w)
 (Cl P 122 #[t0] w (Pk R) fun t19 w =>
 Ex t19 0 w fun t20 w =>
 Ex t19 1 w fun t21 w =>
 Cl P 122 #[t1] w (Pk R) fun t24 w =>
 Ex t24 0 w fun t25 w =>
 Ex t24 1 w fun t26 w =>
 Bn P .neq 4 false t20 t25 w fun t29 w =>
 If t29
 (If t20
 (R (.returned (.int .i64 (-1))) w)
 (R (.returned (.int .i64 1)) w))
 (If t20
 (Cl P 131 #[t26, t21] w (Pk R) fun t34 w =>
 R (.returned t34) w)
 (Cl P 131 #[t21, t26] w (Pk R) fun t37 w =>
 R (.returned t37) w)))
theorem e_ref03_Compare (h : s_ref03_Compare Tryz.prog t0 t1 w R) : Calls Tryz.prog 98 #[t0, t1] w R :=
 en1 (.sq .z (.sq (.sq .z (.cd (.sq .z .z) .z)) (.sq .z (.sq .z (.sq (.sq .z (.cd (.sq (.sq .z (.cd (.sq .z .z) .z)) (.sq .z .z)) .z)) (.sq (.sq .z (.cd (.sq .z .z) .z)) (.sq .z .z))))))) [t0, t1] Tryz.func98 (by kernel_rfl) (by kernel_rfl) h
theorem n_ref03_Compare : Enters Tryz.prog 98 := enters_of Tryz.func98 (by kernel_rfl) rfl
def s_wire_groups (P : Program) (t0 : Value) (w : World) (R : Ending → World → Prop) : Prop :=
 Bx P 109 t0 w fun t1 w =>
 R (.returned (.func (.func 132) #[] #[t1])) w
theorem e_wire_groups (h : s_wire_groups Tryz.prog t0 w R) : Calls Tryz.prog 100 #[t0] w R :=
 en1 (.sq .z (.sq .z .z)) [t0] Tryz.func100 (by kernel_rfl) (by kernel_rfl) h
theorem n_wire_groups : Enters Tryz.prog 100 := enters_of Tryz.func100 (by kernel_rfl) rfl
theorem n_strings_Join : Enters Tryz.prog 102 := enters_of Tryz.func102 (by kernel_rfl) rfl
def s_integer_both (P : Program) (t0 t1 : Value) (w : World) (R : Ending → World → Prop) : Prop :=
 Al P 117 w fun t4 w =>
 Al P 117 w fun t5 w =>
 Cl P 119 #[t0] w (Pk R) fun t8 w =>
 Un P .not t8 w fun t9 w =>
 Gd t9 false (fun k => k t1 w) w fun t11 w =>
 Gd t9 false (fun k => Cl P 119 #[t11] w (Pk R) k) w fun t12 w =>
 Gd t9 false (fun k => Un P .not t12 w k) w fun t13 w =>
 Pick t9 (.bool true) t13 w fun t14 w =>
 If t14
 (Bd P 117 [] w fun t15 w =>
 Bd P 117 [] w fun t16 w =>
 Sto P 117 t4 t15 w fun w =>
 Sto P 117 t5 t16 w fun w =>
 Rc P 117 t4 w fun r0 =>
 Rc P 117 t5 w fun r1 =>
 R (.returned (.tuple #[r0, r1, (.bool false)])) w)
 (Cl P 146 #[t0] w (Pk R) fun t18 w =>
 Cl P 146 #[t1] w (Pk R) fun t20 w =>
 Sto P 117 t4 t18 w fun w =>
 Sto P 117 t5 t20 w fun w =>
 Rc P 117 t4 w fun r0 =>
 Rc P 117 t5 w fun r1 =>
 R (.returned (.tuple #[r0, r1, (.bool true)])) w)
theorem e_integer_both (h : s_integer_both Tryz.prog t0 t1 w R) : Calls Tryz.prog 108 #[t0, t1] w R :=
 en1 (.sq .z (.sq (.sq .z (.cd (.sq .z .z) .z)) (.sq .z .z))) [t0, t1] Tryz.func108 (by kernel_rfl) (by kernel_rfl) h
theorem n_integer_both : Enters Tryz.prog 108 := enters_of Tryz.func108 (by kernel_rfl) rfl
def s_integer_number_over (P : Program) (t0 t1 : Value) (w : World) (R : Ending → World → Prop) : Prop :=
 Bx P 115 t1 w fun t3 w =>
 Al P 115 w fun t4 w =>
 Al P 115 w fun t5 w =>
 Bt P .len #[115] 3 #[t0] w fun t11 w =>
 Ms P 115 t11 t11 w fun t12 w =>
 Sto P 115 t4 t12 w fun w =>
 Cl P 147 #[t0] w (Pk R) fun t14 w =>
 Rf2 P t14 w (fun t15 t16 w next lv =>
 Bs P 115 1 [(0, t16)] w fun t18 w =>
 Ld P 115 t5 w fun t19 w =>
 Bt P .append #[115, 115] 115 #[t18, t19] w fun t20 w =>
 Cl P 148 #[t20] w (fun _ _ => False) fun t21 w =>
 Sto P 115 t5 t21 w fun w =>
 Ld P 115 t3 w fun t22 w =>
 Al P 158 w fun t8 w =>
 Sto P 158 t8 (.func (.func 149) #[t22] #[]) w fun w =>
 dL P 115 t4 w.drew fun t25 =>
 Cl P 151 #[(.int .i64 9999), (.func (.func 150) #[] #[t8, t5])] w.drew (fun _ _ => False) fun t28 w =>
 kLd P 115 t4 t25 w <|
 dIx P 115 t25 t15 w fun t29 =>
 Sto P 3 t29 t28 w fun w =>
 dL P 115 t5 w.drew fun t30 =>
 dL P 158 t8 w.drew fun t31 =>
 dL P 115 t4 w.drew fun t32 =>
 dIx P 115 t32 t15 w.drew fun t34 =>
 dL P 3 t34 w.drew fun t35 =>
 Cw P t31 #[t35] w.drew (fun _ _ => False) fun t36 w =>
 kLd P 115 t5 t30 w <|
 Cl P 112 #[t30, t36] w (fun _ _ => False) fun t37 w =>
 Sto P 115 t5 t37 w fun w =>
 next w)
 (fun D1 w =>
 dL P 115 t4 w.drew fun t38 =>
 dL P 115 t5 w.drew fun t40 =>
 Cl P 148 #[t38] w.drew (fun c w => Tk P D1 w fun w => R (.panicked c) w) fun t39 w =>
 kLd P 115 t5 t40 w <|
 Sto P 115 t4 t39 w fun w =>
 kLd P 115 t5 t40 w <|
 Sto P 115 t5 t40 w fun w =>
 Tk P D1 w fun w =>
 Rc P 115 t4 w fun r0 =>
 Rc P 115 t5 w fun r1 =>
 R (.returned (.tuple #[r0, r1])) w)
 (fun D1 w =>
 Tk P D1 w fun w =>
 Rc P 115 t4 w fun r0 =>
 Rc P 115 t5 w fun r1 =>
 R (.returned (.tuple #[r0, r1])) w) []
theorem e_integer_number_over (h : s_integer_number_over Tryz.prog t0 t1 w R) : Calls Tryz.prog 109 #[t0, t1] w R :=
 en1 (.sq .z (.sq .z (.sq (.sq .z (.bk (.rf (.bk (.sq .z (.sq .z (.sq .z (.sq (.dr (.pur false 0 (.pur true 1 (.pur true 2 (.eff 3 [0] (.pur true 4 (.eff 5 [] .done))))))) (.dr (.pur false 0 (.pur false 1 (.pur false 2 (.pur true 3 (.pur true 4 (.pur false 5 (.eff 6 [0] (.eff 7 [] (.eff 8 [] .done))))))))))))))) []))) (.sq (.dr (.pur false 0 (.pur false 2 (.eff 1 [2] (.eff 3 [2] (.eff 4 [] .done)))))) .z)))) [t0, t1] Tryz.func109 (by kernel_rfl) (by kernel_rfl) h
theorem n_integer_number_over : Enters Tryz.prog 109 := enters_of Tryz.func109 (by kernel_rfl) rfl
def s_integer_number_plus (P : Program) (t0 t1 : Value) (w : World) (R : Ending → World → Prop) : Prop :=
 Bx P 115 t0 w fun t2 w =>
 Bx P 115 t1 w fun t3 w =>
 Ld P 115 t2 w fun t5 w =>
 Bt P .len #[115] 3 #[t5] w fun t6 w =>
 Ld P 115 t3 w fun t7 w =>
 Bt P .len #[115] 3 #[t7] w fun t8 w =>
 Bt P .max #[3, 3] 3 #[t6, t8] w fun t9 w =>
 Cl P 152 #[t9, (.int .i64 0), (.func (.func 153) #[] #[t2, t3])] w (Pk R) fun t11 w =>
 Cl P 148 #[t11] w (Pk R) fun t12 w =>
 R (.returned t12) w
theorem e_integer_number_plus (h : s_integer_number_plus Tryz.prog t0 t1 w R) : Calls Tryz.prog 110 #[t0, t1] w R :=
 en1 (.sq .z (.sq .z .z)) [t0, t1] Tryz.func110 (by kernel_rfl) (by kernel_rfl) h
theorem n_integer_number_plus : Enters Tryz.prog 110 := enters_of Tryz.func110 (by kernel_rfl) rfl
def s_integer_one (P : Program) (w : World) (R : Ending → World → Prop) : Prop :=
 Bs P 115 1 [(0, (.int .i64 1))] w fun t1 w =>
 R (.returned t1) w
theorem e_integer_one (h : s_integer_one Tryz.prog  w R) : Calls Tryz.prog 111 #[] w R :=
 en1 (.sq .z (.sq .z .z)) [] Tryz.func111 (by kernel_rfl) (by kernel_rfl) h
theorem n_integer_one : Enters Tryz.prog 111 := enters_of Tryz.func111 (by kernel_rfl) rfl
def s_integer_number_minus (P : Program) (t0 t1 : Value) (w : World) (R : Ending → World → Prop) : Prop :=
 Bx P 115 t0 w fun t2 w =>
 Bx P 115 t1 w fun t3 w =>
 Ld P 115 t2 w fun t5 w =>
 Bt P .len #[115] 3 #[t5] w fun t6 w =>
 Cl P 152 #[t6, (.int .i64 0), (.func (.func 155) #[] #[t2, t3])] w (Pk R) fun t8 w =>
 Cl P 148 #[t8] w (Pk R) fun t9 w =>
 R (.returned t9) w
theorem e_integer_number_minus (h : s_integer_number_minus Tryz.prog t0 t1 w R) : Calls Tryz.prog 112 #[t0, t1] w R :=
 en1 (.sq .z (.sq .z .z)) [t0, t1] Tryz.func112 (by kernel_rfl) (by kernel_rfl) h
theorem n_integer_number_minus : Enters Tryz.prog 112 := enters_of Tryz.func112 (by kernel_rfl) rfl
def s_integer_signed_text (P : Program) (t0 : Value) (w : World) (R : Ending → World → Prop) : Prop :=
 Bx P 117 t0 w fun t1 w =>
 Fa P 117 t1 1 w fun t9 w =>
 Ld P 115 t9 w fun t10 w =>
 Bt P .len #[115] 3 #[t10] w fun t11 w =>
 Bn P .eql 3 true t11 (.int .i64 0) w fun t12 w =>
 If t12
 (R (.returned (.tuple #[(str [48]), (.int .i64 0)])) w)
 (Al P 143 w fun t4 w =>
 Fa P 117 t1 1 w fun t13 w =>
 Ld P 115 t13 w fun t14 w =>
 Cl P 147 #[t14] w (Pk R) fun t15 w =>
 Rf2 P t15 w (fun t16 t17 w next lv =>
 Cl P 64 #[t17] w (fun _ _ => False) fun t19 w =>
 Fa P 117 t1 1 w fun t21 w =>
 Ld P 115 t21 w fun t22 w =>
 Bt P .len #[115] 3 #[t22] w fun t23 w =>
 Bn P .sub 3 true t23 (.int .i64 1) w fun t24 w =>
 Bn P .lss 3 false t16 t24 w fun t25 w =>
 If t25
 (Bt P .len #[9] 3 #[t19] w fun t27 w =>
 Bn P .sub 3 true (.int .i64 4) t27 w fun t28 w =>
 Cl P 156 #[(str [48]), t28] w (fun _ _ => False) fun t29 w =>
 Bn P .add 9 false t29 t19 w fun t31 w =>
 Cl P 134 #[t4, t31] w (fun _ _ => False) fun t33 w =>
 next w)
 (Cl P 134 #[t4, t19] w (fun _ _ => False) fun t33x1 w =>
 next w))
 (fun D1 w =>
 Cl P 135 #[t4] w (fun c w => Tk P D1 w fun w => R (.panicked c) w) fun t34 w =>
 Bt P .len #[9] 3 #[t34] w fun t36 w =>
 Bn P .gtr 3 true t36 (.int .i64 200) w fun t37 w =>
 If t37
 (Tk P D1 w fun w =>
 R (.returned (.tuple #[(str []), (.int .i64 30)])) w)
 (Fa P 117 t1 0 w fun t38 w =>
 Ld P 4 t38 w fun t39 w =>
 If t39
 (Bn P .add 9 true (str [45]) t34 w fun t41 w =>
 Tk P D1 w fun w =>
 R (.returned (.tuple #[t41, (.int .i64 0)])) w)
 (Tk P D1 w fun w =>
 R (.returned (.tuple #[t34, (.int .i64 0)])) w)))
 (fun D1 w =>
 Tk P D1 w fun w =>
 R (.returned (.tuple #[(str []), (.int .i64 0)])) w) [])
theorem e_integer_signed_text (h : s_integer_signed_text Tryz.prog t0 w R) : Calls Tryz.prog 113 #[t0] w R :=
 en1 (.sq .z (.sq (.sq .z (.cd (.sq .z .z) .z)) (.sq .z (.sq (.sq .z (.bk (.rf (.bk (.sq .z (.sq (.sq .z (.cd .z .z)) .z))) []))) (.sq .z (.sq (.sq .z (.cd (.sq .z .z) .z)) (.sq (.sq .z (.cd (.sq .z .z) .z)) (.sq .z .z)))))))) [t0] Tryz.func113 (by kernel_rfl) (by kernel_rfl) h
theorem n_integer_signed_text : Enters Tryz.prog 113 := enters_of Tryz.func113 (by kernel_rfl) rfl
def s_integer_number_compare (P : Program) (t0 t1 : Value) (w : World) (R : Ending → World → Prop) : Prop :=
 Bx P 115 t1 w fun t3 w =>
 Al P 3 w fun t4 w =>
 Bt P .len #[115] 3 #[t0] w fun t8 w =>
 Ld P 115 t3 w fun t9 w =>
 Bt P .len #[115] 3 #[t9] w fun t10 w =>
 Bn P .neq 3 false t8 t10 w fun t11 w =>
 If t11
 (Bt P .len #[115] 3 #[t0] w fun t13 w =>
 Ld P 115 t3 w fun t14 w =>
 Bt P .len #[115] 3 #[t14] w fun t15 w =>
 Cl P 157 #[t13, t15] w (Pk R) fun t16 w =>
 Sto P 3 t4 t16 w fun w =>
 Rc P 3 t4 w fun r0 =>
 R (.returned r0) w)
 (Cl P 147 #[t0] w (Pk R) fun t18 w =>
 Rf2 P t18 w (fun t19 t20 w next lv =>
 Ld P 115 t3 w fun t22 w =>
 Ia P 115 t22 t19 w fun t24 w =>
 Ld P 3 t24 w fun t25 w =>
 Bn P .neq 3 false t20 t25 w fun t26 w =>
 If t26
 (Ld P 115 t3 w fun t28 w =>
 Ia P 115 t28 t19 w fun t30 w =>
 Ld P 3 t30 w fun t31 w =>
 Cl P 157 #[t20, t31] w (fun _ _ => False) fun t32 w =>
 Sto P 3 t4 t32 w fun w =>
 lv .ret w)
 (next w))
 (fun D1 w =>
 Sto P 3 t4 (.int .i64 0) w fun w =>
 Tk P D1 w fun w =>
 Rc P 3 t4 w fun r0 =>
 R (.returned r0) w)
 (fun D1 w =>
 Tk P D1 w fun w =>
 Rc P 3 t4 w fun r0 =>
 R (.returned r0) w) [])
theorem e_integer_number_compare (h : s_integer_number_compare Tryz.prog t0 t1 w R) : Calls Tryz.prog 114 #[t0, t1] w R :=
 en1 (.sq .z (.sq (.sq .z (.cd (.sq .z .z) .z)) (.sq (.sq .z (.bk (.rf (.bk (.sq .z (.cd (.sq .z .z) .z))) []))) (.sq .z .z)))) [t0, t1] Tryz.func114 (by kernel_rfl) (by kernel_rfl) h
theorem n_integer_number_compare : Enters Tryz.prog 114 := enters_of Tryz.func114 (by kernel_rfl) rfl
def s_ref03_Valid (P : Program) (t0 : Value) (w : World) (R : Ending → World → Prop) : Prop :=
 Jn1 (fun k1 =>
 Bt P .len #[9] 3 #[t0] w fun t5 w =>
 Bn P .gtr 3 true t5 (.int .i64 0) w fun t6 w =>
 Gd t6 true (fun k => k t0 w) w fun t8 w =>
 Gd t6 true (fun k => Ix P 9 t8 (.int .i64 0) w k) w fun t9 w =>
 Gd t6 true (fun k => Bn P .eql 5 true t9 (.int .u8 45) w k) w fun t10 w =>
 Pick t6 t10 (.bool false) w fun t11 w =>
 If t11
 (Sc P 9 t0 (some (.int .i64 1)) none none w fun t13 w =>
 Bn P .eql 9 true t13 (str [48]) w fun t15 w =>
 If t15
 (R (.returned (.bool false)) w)
 (k1 t13 w))
 (k1 t0 w))
 (fun t0x1 w =>
 Lp1 (.int .i64 0) w (fun t3 w k2 =>
 Bt P .len #[9] 3 #[t0x1] w fun t18 w =>
 Bn P .lss 3 false t3 t18 w fun t19 w =>
 If t19
 (Ix P 9 t0x1 t3 w fun t24 w =>
 Bn P .lss 5 true t24 (.int .u8 48) w fun t25 w =>
 Gd t25 false (fun k => k t0x1 w) w fun t27 w =>
 Gd t25 false (fun k => k t3 w) w fun t28 w =>
 Gd t25 false (fun k => Ix P 9 t27 t28 w k) w fun t29 w =>
 Gd t25 false (fun k => Bn P .gtr 5 true t29 (.int .u8 57) w k) w fun t30 w =>
 Pick t25 (.bool true) t30 w fun t31 w =>
 If t31
 (R (.returned (.bool false)) w)
 (Bn P .add 3 true t3 (.int .i64 1) w fun t21 w =>
 k2 t21 w))
 (Bt P .len #[9] 3 #[t0x1] w fun t33 w =>
 Bn P .gtr 3 true t33 (.int .i64 0) w fun t34 w =>
 Gd t34 true (fun k => k t0x1 w) w fun t36 w =>
 Gd t34 true (fun k => Bt P .len #[9] 3 #[t36] w k) w fun t37 w =>
 Gd t34 true (fun k => Bn P .leq 3 true t37 (.int .i64 200) w k) w fun t38 w =>
 Pick t34 t38 (.bool false) w fun t39 w =>
 Gd t39 true (fun k => k t0x1 w) w fun t41 w =>
 Gd t39 true (fun k => Bn P .eql 9 true t41 (str [48]) w k) w fun t42 w =>
 Gd t39 true (fun k => k t42 w) w fun t43 w =>
 Gd t43 false (fun k => k t0x1 w) w fun t44 w =>
 Gd t43 false (fun k => Ix P 9 t44 (.int .i64 0) w k) w fun t45 w =>
 Gd t43 false (fun k => Bn P .neq 5 true t45 (.int .u8 48) w k) w fun t46 w =>
 Gd t39 true (fun k => Pick t43 (.bool true) t46 w k) w fun t47 w =>
 Pick t39 t47 (.bool false) w fun t48 w =>
 R (.returned t48) w)))
theorem e_ref03_Valid (h : s_ref03_Valid Tryz.prog t0 w R) : Calls Tryz.prog 115 #[t0] w R :=
 en1 (.sq .z (.jn [0] [2, 4, 5, 6, 7, 8, 9, 10, 11, 12, 13, 14, 15] (.sq .z (.cd (.sq .z (.sq .z (.cd (.sq .z .z) .z))) .z)) (.sq (.sq .z (.bk (.lp [3] [2, 16, 17, 18, 19, 20, 21, 22, 23, 24, 25, 26, 27, 28, 29, 30, 31] (.sq (.sq .z (.cd .z .z)) (.sq (.bk (.sq .z (.cd (.sq .z .z) .z))) .z))))) (.sq .z .z)))) [t0] Tryz.func115 (by kernel_rfl) (by kernel_rfl) h
theorem n_ref03_Valid : Enters Tryz.prog 115 := enters_of Tryz.func115 (by kernel_rfl) rfl
def s_ref03_Gcd (P : Program) (t0 t1 : Value) (w : World) (R : Ending → World → Prop) : Prop :=
 Cl P 115 #[t0] w (Pk R) fun t13 w =>
 Un P .not t13 w fun t14 w =>
 Gd t14 false (fun k => k t1 w) w fun t16 w =>
 Gd t14 false (fun k => Cl P 115 #[t16] w (Pk R) k) w fun t17 w =>
 Gd t14 false (fun k => Un P .not t17 w k) w fun t18 w =>
 Pick t14 (.bool true) t18 w fun t19 w =>
 If t19
 (R (.returned (.tuple #[(str []), (.int .i64 30)])) w)
 (Cl P 122 #[t0] w (Pk R) fun t22 w =>
 Ex t22 0 w fun t23 w =>
 Ex t22 1 w fun t24 w =>
 Cl P 122 #[t1] w (Pk R) fun t27 w =>
 Ex t27 0 w fun t28 w =>
 Ex t27 1 w fun t29 w =>
 Lp2 t24 t29 w (fun t7 t9 w k1 =>
 Bt P .len #[47] 3 #[t9] w fun t31 w =>
 Bn P .gtr 3 true t31 (.int .i64 0) w fun t32 w =>
 If t32
 (Cl P 128 #[t7, t9] w (Pk R) fun t36 w =>
 Ex t36 0 w fun t37 w =>
 Ex t36 1 w fun t38 w =>
 k1 t9 t38 w)
 (Cl P 126 #[(.bool false), t7] w (Pk R) fun t42 w =>
 Ex t42 0 w fun t43 w =>
 Ex t42 1 w fun t44 w =>
 R (.returned (.tuple #[t43, t44])) w)))
theorem e_ref03_Gcd (h : s_ref03_Gcd Tryz.prog t0 t1 w R) : Calls Tryz.prog 116 #[t0, t1] w R :=
 en1 (.sq .z (.sq (.sq .z (.cd (.sq .z .z) .z)) (.sq .z (.sq .z (.sq (.bk (.lp [7, 9] [10, 11, 30, 31, 32, 33, 34, 35, 36, 37, 38, 39, 40] (.sq (.sq .z (.cd .z .z)) (.bk (.sq .z (.sq .z .z)))))) (.sq .z .z)))))) [t0, t1] Tryz.func116 (by kernel_rfl) (by kernel_rfl) h
theorem n_ref03_Gcd : Enters Tryz.prog 116 := enters_of Tryz.func116 (by kernel_rfl) rfl
def s_ref03_text (P : Program) (t0 t1 : Value) (w : World) (R : Ending → World → Prop) : Prop :=
 Bt P .len #[47] 3 #[t1] w fun t9 w =>
 Bn P .eql 3 true t9 (.int .i64 0) w fun t10 w =>
 If t10
 (R (.returned (.tuple #[(str [48]), (.bool true)])) w)
 (Jn1 (fun k1 =>
 If t0
 (Bs P 44 1 [(0, (.int .u8 45))] w fun t13 w =>
 Bt P .append #[44, 44] 44 #[(.slice none 0 0), t13] w fun t14 w =>
 k1 t14 w)
 (k1 (.slice none 0 0) w))
 (fun t6 w =>
 Bt P .len #[47] 3 #[t1] w fun t16 w =>
 Bn P .sub 3 true t16 (.int .i64 1) w fun t17 w =>
 Lp2 t6 t17 w (fun t6x1 t7 w k2 =>
 Bn P .geq 3 true t7 (.int .i64 0) w fun t19 w =>
 If t19
 (Ia P 47 t1 t7 w fun t25 w =>
 Ld P 3 t25 w fun t26 w =>
 Bn P .add 3 true (.int .i64 48) t26 w fun t27 w =>
 Cv P 3 5 t27 w fun t28 w =>
 Bs P 44 1 [(0, t28)] w fun t29 w =>
 Bt P .append #[44, 44] 44 #[t6x1, t29] w fun t30 w =>
 Bn P .sub 3 true t7 (.int .i64 1) w fun t21 w =>
 k2 t30 t21 w)
 (Cv P 44 9 t6x1 w fun t32 w =>
 Bt P .len #[47] 3 #[t1] w fun t34 w =>
 Bn P .leq 3 true t34 (.int .i64 200) w fun t35 w =>
 R (.returned (.tuple #[t32, t35])) w))))
theorem e_ref03_text (h : s_ref03_text Tryz.prog t0 t1 w R) : Calls Tryz.prog 117 #[t0, t1] w R :=
 en1 (.sq .z (.sq (.sq .z (.cd (.sq .z .z) .z)) (.sq .z (.jn [6] [11, 12, 13, 14] (.sq .z (.cd .z .z)) (.sq (.sq .z (.bk (.lp [6, 7] [18, 19, 20, 21, 22, 23, 24, 25, 26, 27, 28, 29, 30] (.sq (.sq .z (.cd .z .z)) (.sq (.bk .z) .z))))) (.sq .z .z)))))) [t0, t1] Tryz.func117 (by kernel_rfl) (by kernel_rfl) h
theorem n_ref03_text : Enters Tryz.prog 117 := enters_of Tryz.func117 (by kernel_rfl) rfl
def s_integer_isValid (P : Program) (t0 : Value) (w : World) (R : Ending → World → Prop) : Prop :=
 Cl P 39 #[t0, (str [45])] w (Pk R) fun t5 w =>
 Bn P .eql 9 true t5 (str []) w fun t7 w =>
 Gd t7 false (fun k => k t5 w) w fun t9 w =>
 Gd t7 false (fun k => Bt P .len #[9] 3 #[t9] w k) w fun t10 w =>
 Gd t7 false (fun k => Bn P .gtr 3 true t10 (.int .i64 200) w k) w fun t11 w =>
 Pick t7 (.bool true) t11 w fun t12 w =>
 Gd t12 false (fun k => k t5 w) w fun t14 w =>
 Gd t12 false (fun k => Cl P 158 #[t14, (str [48, 49, 50, 51, 52, 53, 54, 55, 56, 57])] w (Pk R) k) w fun t15 w =>
 Gd t12 false (fun k => Bn P .neq 9 true t15 (str []) w k) w fun t16 w =>
 Pick t12 (.bool true) t16 w fun t17 w =>
 If t17
 (R (.returned (.bool false)) w)
 (Bn P .eql 9 true t0 (str [48]) w fun t19 w =>
 Gd t19 false (fun k => k t5 w) w fun t21 w =>
 Gd t19 false (fun k => Ix P 9 t21 (.int .i64 0) w k) w fun t22 w =>
 Gd t19 false (fun k => Bn P .neq 5 true t22 (.int .u8 48) w k) w fun t23 w =>
 Pick t19 (.bool true) t23 w fun t24 w =>
 R (.returned t24) w)
theorem e_integer_isValid (h : s_integer_isValid Tryz.prog t0 w R) : Calls Tryz.prog 119 #[t0] w R :=
 en1 (.sq .z (.sq .z (.sq (.sq .z (.cd (.sq .z .z) .z)) (.sq .z .z)))) [t0] Tryz.func119 (by kernel_rfl) (by kernel_rfl) h
theorem n_integer_isValid : Enters Tryz.prog 119 := enters_of Tryz.func119 (by kernel_rfl) rfl
def s_rational_work_do (P : Program) (t0 t1 t2 t3 : Value) (w : World) (R : Ending → World → Prop) : Prop :=
 Nc t0 w fun t12 w =>
 Fa P 103 t12 0 w fun t13 w =>
 Ld P 4 t13 w fun t14 w =>
 If t14
 (R (.returned (str [])) w)
 (Cw P t1 #[t2, t3] w (Pk R) fun t19 w =>
 Ex t19 0 w fun t20 w =>
 Ex t19 1 w fun t21 w =>
 Bn P .neq 35 true t21 (.int .i64 0) w fun t24 w =>
 Nc t0 w fun t25 w =>
 Fa P 103 t25 0 w fun t26 w =>
 Sto P 4 t26 t24 w fun w =>
 R (.returned t20) w)
theorem e_rational_work_do (h : s_rational_work_do Tryz.prog t0 t1 t2 t3 w R) : Calls Tryz.prog 120 #[t0, t1, t2, t3] w R :=
 en1 (.sq .z (.sq (.sq .z (.cd (.sq .z .z) .z)) (.sq .z (.sq .z (.sq .z .z))))) [t0, t1, t2, t3] Tryz.func120 (by kernel_rfl) (by kernel_rfl) h
theorem n_rational_work_do : Enters Tryz.prog 120 := enters_of Tryz.func120 (by kernel_rfl) rfl
def s_integer_signed_plus (P : Program) (t0 t1 : Value) (w : World) (R : Ending → World → Prop) : Prop :=
 Bx P 117 t0 w fun t2 w =>
 Bx P 117 t1 w fun t3 w =>
 Al P 117 w fun t4 w =>
 Fa P 117 t2 0 w fun t6 w =>
 Ld P 4 t6 w fun t7 w =>
 Fa P 117 t3 0 w fun t8 w =>
 Ld P 4 t8 w fun t9 w =>
 Bn P .eql 4 false t7 t9 w fun t10 w =>
 If t10
 (dFl P 117 t2 0 w.drew fun t11 =>
 dL P 4 t11 w.drew fun t12 =>
 dFl P 117 t2 1 w.drew fun t13 =>
 dL P 115 t13 w.drew fun t14 =>
 dFl P 117 t3 1 w.drew fun t15 =>
 dL P 115 t15 w.drew fun t16 =>
 Cl P 110 #[t14, t16] w.drew (Pk R) fun t17 w =>
 kLd P 4 t11 t12 w <|
 Dv P true (Instr.build 117 #[(0, t12), (1, t17)]) w fun t18 =>
 Sto P 117 t4 t18 w fun w =>
 Rc P 117 t4 w fun r0 =>
 R (.returned r0) w)
 (Fa P 117 t2 1 w fun t20 w =>
 Ld P 115 t20 w fun t21 w =>
 Fa P 117 t3 1 w fun t22 w =>
 Ld P 115 t22 w fun t23 w =>
 Cl P 114 #[t21, t23] w (Pk R) fun t24 w =>
 Bn P .geq 3 true t24 (.int .i64 0) w fun t25 w =>
 If t25
 (dFl P 117 t2 0 w.drew fun t26 =>
 dL P 4 t26 w.drew fun t27 =>
 dFl P 117 t2 1 w.drew fun t28 =>
 dL P 115 t28 w.drew fun t29 =>
 dFl P 117 t3 1 w.drew fun t30 =>
 dL P 115 t30 w.drew fun t31 =>
 Cl P 112 #[t29, t31] w.drew (Pk R) fun t32 w =>
 kLd P 4 t26 t27 w <|
 Dv P true (Instr.build 117 #[(0, t27), (1, t32)]) w fun t33 =>
 Sto P 117 t4 t33 w fun w =>
 Rc P 117 t4 w fun r0 =>
 R (.returned r0) w)
 (dFl P 117 t3 0 w.drew fun t34 =>
 dL P 4 t34 w.drew fun t35 =>
 dFl P 117 t3 1 w.drew fun t36 =>
 dL P 115 t36 w.drew fun t37 =>
 dFl P 117 t2 1 w.drew fun t38 =>
 dL P 115 t38 w.drew fun t39 =>
 Cl P 112 #[t37, t39] w.drew (Pk R) fun t40 w =>
 kLd P 4 t34 t35 w <|
 Dv P true (Instr.build 117 #[(0, t35), (1, t40)]) w fun t41 =>
 Sto P 117 t4 t41 w fun w =>
 Rc P 117 t4 w fun r0 =>
 R (.returned r0) w))
theorem e_integer_signed_plus (h : s_integer_signed_plus Tryz.prog t0 t1 w R) : Calls Tryz.prog 121 #[t0, t1] w R :=
 en1 (.sq .z (.sq (.bk (.sq .z (.cd (.sq (.dr (.pur true 0 (.pur false 1 (.pur true 2 (.pur false 3 (.pur true 4 (.pur false 5 (.eff 6 [1] (.pur true 7 (.eff 8 [] .done)))))))))) .z) (.sq .z (.cd (.sq (.dr (.pur true 0 (.pur false 1 (.pur true 2 (.pur false 3 (.pur true 4 (.pur false 5 (.eff 6 [1] (.pur true 7 (.eff 8 [] .done)))))))))) .z) .z))))) (.sq (.dr (.pur true 0 (.pur false 1 (.pur true 2 (.pur false 3 (.pur true 4 (.pur false 5 (.eff 6 [1] (.pur true 7 (.eff 8 [] .done)))))))))) .z))) [t0, t1] Tryz.func121 (by kernel_rfl) (by kernel_rfl) h
theorem n_integer_signed_plus : Enters Tryz.prog 121 := enters_of Tryz.func121 (by kernel_rfl) rfl
def s_ref03_digits (P : Program) (t0 : Value) (w : World) (R : Ending → World → Prop) : Prop :=
 Ix P 9 t0 (.int .i64 0) w fun t8 w =>
 Bn P .eql 5 true t8 (.int .u8 45) w fun t9 w =>
 Jn1 (fun k1 =>
 If t9
 (Sc P 9 t0 (some (.int .i64 1)) none none w fun t12 w =>
 k1 t12 w)
 (k1 t0 w))
 (fun t0x1 w =>
 Bt P .len #[9] 3 #[t0x1] w fun t14 w =>
 Bn P .sub 3 true t14 (.int .i64 1) w fun t15 w =>
 Lp2 (.slice none 0 0) t15 w (fun t5 t6 w k2 =>
 Bn P .geq 3 true t6 (.int .i64 0) w fun t17 w =>
 Gd t17 true (fun k => k t0x1 w) w fun t19 w =>
 Gd t17 true (fun k => Bn P .neq 9 true t19 (str [48]) w k) w fun t20 w =>
 Pick t17 t20 (.bool false) w fun t21 w =>
 If t21
 (Ix P 9 t0x1 t6 w fun t27 w =>
 Bn P .sub 5 true t27 (.int .u8 48) w fun t28 w =>
 Cv P 5 3 t28 w fun t29 w =>
 Bs P 47 1 [(0, t29)] w fun t30 w =>
 Bt P .append #[47, 47] 47 #[t5, t30] w fun t31 w =>
 Bn P .sub 3 true t6 (.int .i64 1) w fun t23 w =>
 k2 t31 t23 w)
 (R (.returned (.tuple #[t9, t5])) w)))
theorem e_ref03_digits (h : s_ref03_digits Tryz.prog t0 w R) : Calls Tryz.prog 122 #[t0] w R :=
 en1 (.sq .z (.sq .z (.jn [0] [10, 11, 12] (.sq .z (.cd .z .z)) (.sq .z (.sq (.sq .z (.bk (.lp [5, 6] [16, 17, 18, 19, 20, 21, 22, 23, 24, 25, 26, 27, 28, 29, 30, 31] (.sq (.sq .z (.cd .z .z)) (.sq (.bk .z) .z))))) (.sq .z .z)))))) [t0] Tryz.func122 (by kernel_rfl) (by kernel_rfl) h
theorem n_ref03_digits : Enters Tryz.prog 122 := enters_of Tryz.func122 (by kernel_rfl) rfl
def s_ref03_sum (P : Program) (t0 t1 t2 t3 : Value) (w : World) (R : Ending → World → Prop) : Prop :=
 Jn2 (fun k1 =>
 Bn P .eql 4 false t0 t2 w fun t15 w =>
 If t15
 (Cl P 129 #[t1, t3] w (Pk R) fun t18 w =>
 k1 t0 t18 w)
 (Cl P 131 #[t1, t3] w (Pk R) fun t21 w =>
 Bn P .geq 3 true t21 (.int .i64 0) w fun t22 w =>
 If t22
 (Cl P 130 #[t1, t3] w (Pk R) fun t25 w =>
 k1 t0 t25 w)
 (Cl P 130 #[t3, t1] w (Pk R) fun t29 w =>
 k1 t2 t29 w)))
 (fun t10 t11 w =>
 Cl P 126 #[t10, t11] w (Pk R) fun t32 w =>
 Ex t32 0 w fun t33 w =>
 Ex t32 1 w fun t34 w =>
 R (.returned (.tuple #[t33, t34])) w)
theorem e_ref03_sum (h : s_ref03_sum Tryz.prog t0 t1 t2 t3 w R) : Calls Tryz.prog 123 #[t0, t1, t2, t3] w R :=
 en1 (.sq .z (.sq .z (.sq .z (.jn [10, 11] [13, 14, 15, 16, 17, 18, 19, 20, 21, 22, 23, 24, 25, 26, 27, 28, 29] (.sq .z (.cd .z (.sq .z (.cd .z (.sq .z .z))))) (.sq .z .z))))) [t0, t1, t2, t3] Tryz.func123 (by kernel_rfl) (by kernel_rfl) h
theorem n_ref03_sum : Enters Tryz.prog 123 := enters_of Tryz.func123 (by kernel_rfl) rfl
def s_integer_Mul (P : Program) (t0 t1 : Value) (w : World) (R : Ending → World → Prop) : Prop :=
 Cl P 108 #[t0, t1] w (Pk R) fun t12 w =>
 Ex t12 0 w fun t13 w =>
 Ex t12 1 w fun t14 w =>
 Ex t12 2 w fun t15 w =>
 Al P 117 w fun t6 w =>
 Al P 117 w fun t7 w =>
 Sto P 117 t6 t13 w fun w =>
 Sto P 117 t7 t14 w fun w =>
 Un P .not t15 w fun t17 w =>
 If t17
 (R (.returned (.tuple #[(str []), (.int .i64 30)])) w)
 (dFl P 117 t6 0 w.drew fun t18 =>
 dL P 4 t18 w.drew fun t19 =>
 dFl P 117 t7 0 w.drew fun t20 =>
 dL P 4 t20 w.drew fun t21 =>
 Dv P true (bn .neq 4 false t19 t21) w.drew fun t22 =>
 dFl P 117 t6 1 w.drew fun t23 =>
 dL P 115 t23 w.drew fun t24 =>
 dFl P 117 t7 1 w.drew fun t25 =>
 dL P 115 t25 w.drew fun t26 =>
 Cl P 159 #[t24, t26] w.drew (Pk R) fun t27 w =>
 kLd P 4 t18 t19 w <|
 kLd P 4 t20 t21 w <|
 Dv P true (Instr.build 117 #[(0, t22), (1, t27)]) w fun t28 =>
 Cl P 113 #[t28] w (Pk R) fun t29 w =>
 ExP t29 0 fun t30 =>
 ExP t29 1 fun t31 =>
 R (.returned (.tuple #[t30, t31])) w)
theorem e_integer_Mul (h : s_integer_Mul Tryz.prog t0 t1 w R) : Calls Tryz.prog 124 #[t0, t1] w R :=
 en1 (.sq .z (.sq .z (.sq (.sq .z (.cd (.sq .z .z) .z)) (.sq (.dr (.pur true 0 (.pur false 1 (.pur true 2 (.pur false 3 (.pur true 4 (.pur true 5 (.pur false 6 (.pur true 7 (.pur false 8 (.eff 9 [1, 3] (.pur true 10 (.eff 11 [] (.pur true 12 (.pur true 13 (.pur true 14 (.pur true 15 .done))))))))))))))))) .z)))) [t0, t1] Tryz.func124 (by kernel_rfl) (by kernel_rfl) h
theorem n_integer_Mul : Enters Tryz.prog 124 := enters_of Tryz.func124 (by kernel_rfl) rfl
def s_rational_work_quotient (P : Program) (t0 t1 t2 : Value) (w : World) (R : Ending → World → Prop) : Prop :=
 Cl P 120 #[t0, (.func (.func 160) #[] #[]), t1, t2] w (Pk R) fun t10 w =>
 R (.returned t10) w
theorem e_rational_work_quotient (h : s_rational_work_quotient Tryz.prog t0 t1 t2 w R) : Calls Tryz.prog 125 #[t0, t1, t2] w R :=
 en1 (.sq .z (.sq .z .z)) [t0, t1, t2] Tryz.func125 (by kernel_rfl) (by kernel_rfl) h
theorem n_rational_work_quotient : Enters Tryz.prog 125 := enters_of Tryz.func125 (by kernel_rfl) rfl
def s_ref03_checked (P : Program) (t0 t1 : Value) (w : World) (R : Ending → World → Prop) : Prop :=
 Cl P 117 #[t0, t1] w (Pk R) fun t11 w =>
 Ex t11 0 w fun t12 w =>
 Ex t11 1 w fun t13 w =>
 Un P .not t13 w fun t15 w =>
 If t15
 (R (.returned (.tuple #[(str []), (.int .i64 30)])) w)
 (R (.returned (.tuple #[t12, (.int .i64 0)])) w)
theorem e_ref03_checked (h : s_ref03_checked Tryz.prog t0 t1 w R) : Calls Tryz.prog 126 #[t0, t1] w R :=
 en1 (.sq .z (.sq .z (.sq (.sq .z (.cd (.sq .z .z) .z)) (.sq .z .z)))) [t0, t1] Tryz.func126 (by kernel_rfl) (by kernel_rfl) h
theorem n_ref03_checked : Enters Tryz.prog 126 := enters_of Tryz.func126 (by kernel_rfl) rfl
def s_ref03_divided (P : Program) (t0 t1 : Value) (w : World) (R : Ending → World → Prop) : Prop :=
 Bt P .len #[47] 3 #[t0] w fun t10 w =>
 Ms P 47 t10 t10 w fun t11 w =>
 Bt P .len #[47] 3 #[t0] w fun t13 w =>
 Bn P .sub 3 true t13 (.int .i64 1) w fun t14 w =>
 Lp2 (.slice none 0 0) t14 w (fun t7 t8 w k1 =>
 Bn P .geq 3 true t8 (.int .i64 0) w fun t16 w =>
 If t16
 (Ia P 47 t0 t8 w fun t21 w =>
 Ld P 3 t21 w fun t22 w =>
 Bs P 47 1 [(0, t22)] w fun t23 w =>
 Bt P .append #[47, 47] 47 #[t23, t7] w fun t25 w =>
 Cl P 161 #[t25] w (Pk R) fun t26 w =>
 Lp1 t26 w (fun t7x1 w k2 =>
 Cl P 131 #[t7x1, t1] w (Pk R) fun t29 w =>
 Bn P .geq 3 true t29 (.int .i64 0) w fun t30 w =>
 If t30
 (Cl P 130 #[t7x1, t1] w (Pk R) fun t33 w =>
 Ia P 47 t11 t8 w fun t36 w =>
 Ld P 3 t36 w fun t37 w =>
 Bn P .add 3 true t37 (.int .i64 1) w fun t38 w =>
 Ia P 47 t11 t8 w fun t39 w =>
 Sto P 3 t39 t38 w fun w =>
 k2 t33 w)
 (Bn P .sub 3 true t8 (.int .i64 1) w fun t18 w =>
 k1 t7x1 t18 w)))
 (Cl P 161 #[t11] w (Pk R) fun t41 w =>
 R (.returned (.tuple #[t41, t7])) w))
theorem e_ref03_divided (h : s_ref03_divided Tryz.prog t0 t1 w R) : Calls Tryz.prog 128 #[t0, t1] w R :=
 en1 (.sq .z (.sq .z (.sq .z (.sq (.sq .z (.bk (.lp [7, 8] [15, 16, 17, 18, 19, 20, 21, 22, 23, 24, 25, 26, 27, 28, 29, 30, 31, 32, 33, 34, 35, 36, 37, 38, 39] (.sq (.sq .z (.cd .z .z)) (.sq (.bk (.sq .z (.bk (.lp [7] [27, 28, 29, 30, 31, 32, 33, 34, 35, 36, 37, 38, 39] (.sq (.sq .z (.cd .z .z)) (.bk (.sq .z .z))))))) .z))))) (.sq .z .z))))) [t0, t1] Tryz.func128 (by kernel_rfl) (by kernel_rfl) h
theorem n_ref03_divided : Enters Tryz.prog 128 := enters_of Tryz.func128 (by kernel_rfl) rfl
def s_ref03_plus (P : Program) (t0 t1 : Value) (w : World) (R : Ending → World → Prop) : Prop :=
 Lp3 (.slice none 0 0) (.int .i64 0) (.int .i64 0) w (fun t5 t6 t7 w k1 =>
 Bt P .len #[47] 3 #[t0] w fun t11 w =>
 Bn P .lss 3 false t7 t11 w fun t12 w =>
 Gd t12 false (fun k => k t7 w) w fun t14 w =>
 Gd t12 false (fun k => k t1 w) w fun t15 w =>
 Gd t12 false (fun k => Bt P .len #[47] 3 #[t15] w k) w fun t16 w =>
 Gd t12 false (fun k => Bn P .lss 3 false t14 t16 w k) w fun t17 w =>
 Pick t12 (.bool true) t17 w fun t18 w =>
 Gd t18 false (fun k => k t6 w) w fun t20 w =>
 Gd t18 false (fun k => Bn P .gtr 3 true t20 (.int .i64 0) w k) w fun t21 w =>
 Pick t18 (.bool true) t21 w fun t22 w =>
 If t22
 (Jn1 (fun k2 =>
 Bt P .len #[47] 3 #[t0] w fun t28 w =>
 Bn P .lss 3 false t7 t28 w fun t29 w =>
 If t29
 (Ia P 47 t0 t7 w fun t33 w =>
 Ld P 3 t33 w fun t34 w =>
 Bn P .add 3 false t6 t34 w fun t35 w =>
 k2 t35 w)
 (k2 t6 w))
 (fun t8 w =>
 Jn1 (fun k3 =>
 Bt P .len #[47] 3 #[t1] w fun t38 w =>
 Bn P .lss 3 false t7 t38 w fun t39 w =>
 If t39
 (Ia P 47 t1 t7 w fun t43 w =>
 Ld P 3 t43 w fun t44 w =>
 Bn P .add 3 false t8 t44 w fun t45 w =>
 k3 t45 w)
 (k3 t8 w))
 (fun t8x1 w =>
 Bn P .rem 3 true t8x1 (.int .i64 10) w fun t48 w =>
 Bs P 47 1 [(0, t48)] w fun t49 w =>
 Bt P .append #[47, 47] 47 #[t5, t49] w fun t50 w =>
 Bn P .quo 3 true t8x1 (.int .i64 10) w fun t52 w =>
 Bn P .add 3 true t7 (.int .i64 1) w fun t24 w =>
 k1 t50 t52 t24 w)))
 (R (.returned t5) w))
theorem e_ref03_plus (h : s_ref03_plus Tryz.prog t0 t1 w R) : Calls Tryz.prog 129 #[t0, t1] w R :=
 en1 (.sq .z (.sq .z (.sq .z (.sq (.sq .z (.bk (.lp [5, 6, 7] [8, 9, 10, 11, 12, 13, 14, 15, 16, 17, 18, 19, 20, 21, 22, 23, 24, 25, 26, 27, 28, 29, 30, 31, 32, 33, 34, 35, 36, 37, 38, 39, 40, 41, 42, 43, 44, 45, 46, 47, 48, 49, 50, 51, 52] (.sq (.sq .z (.cd .z .z)) (.sq (.bk (.sq .z (.jn [8] [26, 27, 28, 29, 30, 31, 32, 33, 34, 35] (.sq .z (.cd .z .z)) (.jn [8] [36, 37, 38, 39, 40, 41, 42, 43, 44, 45] (.sq .z (.cd .z .z)) (.sq .z .z))))) .z))))) (.sq .z .z))))) [t0, t1] Tryz.func129 (by kernel_rfl) (by kernel_rfl) h
theorem n_ref03_plus : Enters Tryz.prog 129 := enters_of Tryz.func129 (by kernel_rfl) rfl
def s_ref03_minus (P : Program) (t0 t1 : Value) (w : World) (R : Ending → World → Prop) : Prop :=
 Lp3 (.slice none 0 0) (.int .i64 0) (.int .i64 0) w (fun t5 t6 t7 w k1 =>
 Bt P .len #[47] 3 #[t0] w fun t11 w =>
 Bn P .lss 3 false t7 t11 w fun t12 w =>
 If t12
 (Ia P 47 t0 t7 w fun t17 w =>
 Ld P 3 t17 w fun t18 w =>
 Bn P .sub 3 false t18 t6 w fun t20 w =>
 Jn1 (fun k2 =>
 Bt P .len #[47] 3 #[t1] w fun t23 w =>
 Bn P .lss 3 false t7 t23 w fun t24 w =>
 If t24
 (Ia P 47 t1 t7 w fun t28 w =>
 Ld P 3 t28 w fun t29 w =>
 Bn P .sub 3 false t20 t29 w fun t30 w =>
 k2 t30 w)
 (k2 t20 w))
 (fun t8 w =>
 Bn P .lss 3 true t8 (.int .i64 0) w fun t32 w =>
 If t32
 (Bn P .add 3 true t8 (.int .i64 10) w fun t34 w =>
 Bs P 47 1 [(0, t34)] w fun t37 w =>
 Bt P .append #[47, 47] 47 #[t5, t37] w fun t38 w =>
 Bn P .add 3 true t7 (.int .i64 1) w fun t14 w =>
 k1 t38 (.int .i64 1) t14 w)
 (Bs P 47 1 [(0, t8)] w fun t37x1 w =>
 Bt P .append #[47, 47] 47 #[t5, t37x1] w fun t38x1 w =>
 Bn P .add 3 true t7 (.int .i64 1) w fun t14x1 w =>
 k1 t38x1 (.int .i64 0) t14x1 w)))
 (Cl P 161 #[t5] w (Pk R) fun t40 w =>
 R (.returned t40) w))
theorem e_ref03_minus (h : s_ref03_minus Tryz.prog t0 t1 w R) : Calls Tryz.prog 130 #[t0, t1] w R :=
 en1 (.sq .z (.sq .z (.sq .z (.sq (.sq .z (.bk (.lp [5, 6, 7] [8, 9, 10, 11, 12, 13, 14, 15, 16, 17, 18, 19, 20, 21, 22, 23, 24, 25, 26, 27, 28, 29, 30, 31, 32, 33, 34, 35, 36, 37, 38] (.sq (.sq .z (.cd .z .z)) (.sq (.bk (.sq .z (.jn [8] [21, 22, 23, 24, 25, 26, 27, 28, 29, 30] (.sq .z (.cd .z .z)) (.sq .z (.sq (.sq .z (.cd (.sq .z .z) .z)) .z))))) .z))))) (.sq .z .z))))) [t0, t1] Tryz.func130 (by kernel_rfl) (by kernel_rfl) h
theorem n_ref03_minus : Enters Tryz.prog 130 := enters_of Tryz.func130 (by kernel_rfl) rfl
def s_ref03_order (P : Program) (t0 t1 : Value) (w : World) (R : Ending → World → Prop) : Prop :=
 Bt P .len #[47] 3 #[t0] w fun t7 w =>
 Bt P .len #[47] 3 #[t1] w fun t9 w =>
 Bn P .neq 3 false t7 t9 w fun t10 w =>
 If t10
 (Bt P .len #[47] 3 #[t0] w fun t12 w =>
 Bt P .len #[47] 3 #[t1] w fun t14 w =>
 Bn P .lss 3 false t12 t14 w fun t15 w =>
 If t15
 (R (.returned (.int .i64 (-1))) w)
 (R (.returned (.int .i64 1)) w))
 (Bt P .len #[47] 3 #[t0] w fun t17 w =>
 Bn P .sub 3 true t17 (.int .i64 1) w fun t18 w =>
 Lp1 t18 w (fun t5 w k1 =>
 Bn P .geq 3 true t5 (.int .i64 0) w fun t20 w =>
 If t20
 (dIx P 47 t0 t5 w.drew fun t25 =>
 dL P 3 t25 w.drew fun t26 =>
 dIx P 47 t1 t5 w.drew fun t29 =>
 dL P 3 t29 w.drew fun t30 =>
 Dv P true (bn .neq 3 false t26 t30) w.drew fun t31 =>
 If t31
 (Dv P true (Instr.indexAt 47 t0 t5) w.drew.drew fun t34 =>
 Dv P false (Instr.loadAt 3 t34) w.drew.drew fun t35 =>
 Dv P true (Instr.indexAt 47 t1 t5) w.drew.drew fun t38 =>
 Dv P false (Instr.loadAt 3 t38) w.drew.drew fun t39 =>
 Dv P true (bn .lss 3 false t35 t39) w.drew.drew fun t40 =>
 If t40
 (R (.returned (.int .i64 (-1))) w.drew.drew)
 (R (.returned (.int .i64 1)) w.drew.drew))
 (Bn P .sub 3 true t5 (.int .i64 1) w.drew fun t22 w =>
 k1 t22 w))
 (R (.returned (.int .i64 0)) w)))
theorem e_ref03_order (h : s_ref03_order Tryz.prog t0 t1 w R) : Calls Tryz.prog 131 #[t0, t1] w R :=
 en1 (.sq .z (.sq (.sq .z (.cd (.sq (.sq .z (.cd (.sq .z .z) .z)) (.sq .z .z)) .z)) (.sq (.sq .z (.bk (.lp [5] [4, 19, 20, 21, 22, 23, 24, 25, 26, 27, 28, 29, 30, 31, 32, 33, 34, 35, 36, 37, 38, 39, 40] (.sq (.sq .z (.cd .z .z)) (.sq (.bk (.sq (.dr (.pur true 0 (.pur true 1 (.pur true 2 (.pur false 3 (.pur true 4 (.pur true 5 (.pur true 6 (.pur false 7 (.pur true 8 .done)))))))))) (.cd (.sq (.sq (.dr (.pur true 0 (.pur true 1 (.pur true 2 (.pur false 3 (.pur true 4 (.pur true 5 (.pur true 6 (.pur false 7 (.pur true 8 .done)))))))))) (.cd (.sq .z .z) .z)) (.sq .z .z)) .z))) .z))))) (.sq .z .z)))) [t0, t1] Tryz.func131 (by kernel_rfl) (by kernel_rfl) h
theorem n_ref03_order : Enters Tryz.prog 131 := enters_of Tryz.func131 (by kernel_rfl) rfl
def s_wire_groups_1 (P : Program) (t0 t1 : Value) (w : World) (R : Ending → World → Prop) : Prop :=
 Lp0 w (fun w k1 =>
 Ld P 109 t1 w fun t4 w =>
 Bn P .lss 109 true t4 (.int .u64 128) w fun t5 w =>
 Ld P 109 t1 w fun t7 w =>
 Bn P .and 109 true t7 (.int .u64 127) w fun t8 w =>
 Cv P 109 5 t8 w fun t9 w =>
 Cw P t0 #[t9, t5] w (Pk R) fun t11 w =>
 Un P .not t11 w fun t12 w =>
 Gd t12 false (fun k => k t5 w) w fun t14 w =>
 Pick t12 (.bool true) t14 w fun t15 w =>
 If t15
 (R (.returned (.tuple #[])) w)
 (Ld P 109 t1 w fun t16 w =>
 Bn P .shr 109 true t16 (.int .u64 7) w fun t17 w =>
 Sto P 109 t1 t17 w fun w =>
 k1 w))
theorem e_wire_groups_1 (h : s_wire_groups_1 Tryz.prog t0 t1 w R) : Calls Tryz.prog 132 #[t0, t1] w R :=
 en1 (.bk (.lp [] [3, 4, 5, 6, 7, 8, 9, 10, 11, 12, 13, 14, 15, 16, 17] (.bk (.sq .z (.sq (.sq .z (.cd .z .z)) .z))))) [t0, t1] Tryz.func132 (by kernel_rfl) (by kernel_rfl) h
theorem n_wire_groups_1 : Enters Tryz.prog 132 := enters_of Tryz.func132 (by kernel_rfl) rfl
def s_strings_Builder_WriteString (P : Program) (t0 t1 : Value) (w : World) (R : Ending → World → Prop) : Prop :=
 Cl P 162 #[t0] w (Pk R) fun t7 w =>
 Nc t0 w fun t10 w =>
 Fa P 143 t10 1 w fun t11 w =>
 Ld P 44 t11 w fun t12 w =>
 Bt P .append #[44, 9] 44 #[t12, t1] w fun t14 w =>
 Nc t0 w fun t15 w =>
 Fa P 143 t15 1 w fun t16 w =>
 Sto P 44 t16 t14 w fun w =>
 Bt P .len #[9] 3 #[t1] w fun t18 w =>
 R (.returned (.tuple #[t18, .nilIface])) w
theorem e_strings_Builder_WriteString (h : s_strings_Builder_WriteString Tryz.prog t0 t1 w R) : Calls Tryz.prog 134 #[t0, t1] w R :=
 en1 (.sq .z (.sq .z (.sq .z (.sq .z .z)))) [t0, t1] Tryz.func134 (by kernel_rfl) (by kernel_rfl) h
theorem n_strings_Builder_WriteString : Enters Tryz.prog 134 := enters_of Tryz.func134 (by kernel_rfl) rfl
theorem n_strings_Builder_String : Enters Tryz.prog 135 := enters_of Tryz.func135 (by kernel_rfl) rfl
def s_integer_parse (P : Program) (t0 : Value) (w : World) (R : Ending → World → Prop) : Prop :=
 Al P 117 w fun t2 w =>
 Cl P 39 #[t0, (str [45])] w (Pk R) fun t9 w =>
 Bt P .len #[9] 3 #[t9] w fun t11 w =>
 Bt P .len #[9] 3 #[t0] w fun t13 w =>
 Bn P .lss 3 false t11 t13 w fun t14 w =>
 Bd P 117 [(0, t14)] w fun t15 w =>
 Al P 117 w fun t4 w =>
 Sto P 117 t4 t15 w fun w =>
 Lp1 t9 w (fun t3 w k1 =>
 Bt P .len #[9] 3 #[t3] w fun t17 w =>
 Bn P .gtr 3 true t17 (.int .i64 0) w fun t18 w =>
 If t18
 (Bt P .len #[9] 3 #[t3] w fun t20 w =>
 Bn P .sub 3 true t20 (.int .i64 4) w fun t21 w =>
 Bt P .max #[3, 3] 3 #[(.int .i64 0), t21] w fun t22 w =>
 Sc P 9 t3 (some t22) none none w fun t26 w =>
 Cl P 71 #[t26] w (Pk R) fun t27 w =>
 Ex t27 0 w fun t28 w =>
 Ex t27 1 w fun t29 w =>
 Fa P 117 t4 1 w fun t30 w =>
 Ld P 115 t30 w fun t31 w =>
 Bs P 115 1 [(0, t28)] w fun t33 w =>
 Bt P .append #[115, 115] 115 #[t31, t33] w fun t34 w =>
 Fa P 117 t4 1 w fun t35 w =>
 Sto P 115 t35 t34 w fun w =>
 Sc P 9 t3 none (some t22) none w fun t38 w =>
 k1 t38 w)
 (Fa P 117 t4 1 w fun t39 w =>
 Ld P 115 t39 w fun t40 w =>
 Cl P 148 #[t40] w (Pk R) fun t41 w =>
 Fa P 117 t4 1 w fun t42 w =>
 Sto P 115 t42 t41 w fun w =>
 Ld P 117 t4 w fun t43 w =>
 Sto P 117 t2 t43 w fun w =>
 Rc P 117 t2 w fun r0 =>
 R (.returned r0) w))
theorem e_integer_parse (h : s_integer_parse Tryz.prog t0 w R) : Calls Tryz.prog 146 #[t0] w R :=
 en1 (.sq .z (.sq .z (.sq .z (.sq (.bk (.lp [3] [5, 6, 7, 16, 17, 18, 19, 20, 21, 22, 23, 24, 25, 26, 27, 28, 29, 30, 31, 32, 33, 34, 35, 36, 37, 38] (.sq (.sq .z (.cd .z .z)) (.bk (.sq .z (.sq .z (.sq .z .z))))))) (.sq .z (.sq .z .z)))))) [t0] Tryz.func146 (by kernel_rfl) (by kernel_rfl) h
theorem n_integer_parse : Enters Tryz.prog 146 := enters_of Tryz.func146 (by kernel_rfl) rfl
def s_slices_Backward_integer_number_int (P : Program) (t0 : Value) (w : World) (R : Ending → World → Prop) : Prop :=
 Bx P 115 t0 w fun t1 w =>
 R (.returned (.func (.func 178) #[] #[t1])) w
theorem e_slices_Backward_integer_number_int (h : s_slices_Backward_integer_number_int Tryz.prog t0 w R) : Calls Tryz.prog 147 #[t0] w R :=
 en1 (.sq .z (.sq .z .z)) [t0] Tryz.func147 (by kernel_rfl) (by kernel_rfl) h
theorem n_slices_Backward_integer_number_int : Enters Tryz.prog 147 := enters_of Tryz.func147 (by kernel_rfl) rfl
def s_integer_number_trimmed (P : Program) (t0 : Value) (w : World) (R : Ending → World → Prop) : Prop :=
 Lp1 t0 w (fun t0x1 w k1 =>
 Bt P .len #[115] 3 #[t0x1] w fun t4 w =>
 Bn P .gtr 3 true t4 (.int .i64 0) w fun t5 w =>
 Gd t5 true (fun k => k t0x1 w) w fun t7 w =>
 Gd t5 true (fun k => k t0x1 w) w fun t8 w =>
 Gd t5 true (fun k => Bt P .len #[115] 3 #[t8] w k) w fun t9 w =>
 Gd t5 true (fun k => Bn P .sub 3 true t9 (.int .i64 1) w k) w fun t10 w =>
 Gd t5 true (fun k => Ia P 115 t7 t10 w k) w fun t11 w =>
 Gd t5 true (fun k => Ld P 3 t11 w k) w fun t12 w =>
 Gd t5 true (fun k => Bn P .eql 3 true t12 (.int .i64 0) w k) w fun t13 w =>
 Pick t5 t13 (.bool false) w fun t14 w =>
 If t14
 (Bt P .len #[115] 3 #[t0x1] w fun t17 w =>
 Bn P .sub 3 true t17 (.int .i64 1) w fun t18 w =>
 Sc P 115 t0x1 none (some t18) none w fun t19 w =>
 k1 t19 w)
 (R (.returned t0x1) w))
theorem e_integer_number_trimmed (h : s_integer_number_trimmed Tryz.prog t0 w R) : Calls Tryz.prog 148 #[t0] w R :=
 en1 (.sq .z (.sq (.bk (.lp [0] [3, 4, 5, 6, 7, 8, 9, 10, 11, 12, 13, 14, 15, 16, 17, 18, 19] (.sq (.sq .z (.cd .z .z)) (.bk .z)))) (.sq .z .z))) [t0] Tryz.func148 (by kernel_rfl) (by kernel_rfl) h
theorem n_integer_number_trimmed : Enters Tryz.prog 148 := enters_of Tryz.func148 (by kernel_rfl) rfl
def s_integer_number_by (P : Program) (t0 t1 : Value) (w : World) (R : Ending → World → Prop) : Prop :=
 Bx P 115 t0 w fun t2 w =>
 Bx P 3 t1 w fun t3 w =>
 Ld P 115 t2 w fun t5 w =>
 Bt P .len #[115] 3 #[t5] w fun t6 w =>
 Cl P 152 #[t6, (.int .i64 0), (.func (.func 179) #[] #[t2, t3])] w (Pk R) fun t8 w =>
 Cl P 148 #[t8] w (Pk R) fun t9 w =>
 R (.returned t9) w
theorem e_integer_number_by (h : s_integer_number_by Tryz.prog t0 t1 w R) : Calls Tryz.prog 149 #[t0, t1] w R :=
 en1 (.sq .z (.sq .z .z)) [t0, t1] Tryz.func149 (by kernel_rfl) (by kernel_rfl) h
theorem n_integer_number_by : Enters Tryz.prog 149 := enters_of Tryz.func149 (by kernel_rfl) rfl
def s_integer_number_over_1 (P : Program) (t0 t1 t2 : Value) (w : World) (R : Ending → World → Prop) : Prop :=
 dL P 158 t1 w.drew fun t5 =>
 Dv P true (bn .add 3 true t0 (.int .i64 1)) w.drew fun t7 =>
 dL P 115 t2 w.drew fun t9 =>
 Cw P t5 #[t7] w.drew (Pk R) fun t8 w =>
 kLd P 115 t2 t9 w <|
 Cl P 114 #[t8, t9] w (Pk R) fun t10 w =>
 Dv P true (bn .gtr 3 true t10 (.int .i64 0)) w fun t11 =>
 R (.returned t11) w
theorem e_integer_number_over_1 (h : s_integer_number_over_1 Tryz.prog t0 t1 t2 w R) : Calls Tryz.prog 150 #[t0, t1, t2] w R :=
 en1 (.sq .z (.sq (.dr (.pur false 0 (.pur true 1 (.pur true 2 (.pur false 4 (.eff 3 [4] (.eff 5 [] (.pur true 6 (.pur true 7 .done))))))))) .z)) [t0, t1, t2] Tryz.func150 (by kernel_rfl) (by kernel_rfl) h
theorem n_integer_number_over_1 : Enters Tryz.prog 150 := enters_of Tryz.func150 (by kernel_rfl) rfl
def s_sort_Search (P : Program) (t0 t1 : Value) (w : World) (R : Ending → World → Prop) : Prop :=
 Lp2 (.int .i64 0) t0 w (fun t5 t6 w k1 =>
 Bn P .lss 3 false t5 t6 w fun t11 w =>
 If t11
 (Bn P .add 3 false t5 t6 w fun t14 w =>
 Cv P 3 110 t14 w fun t15 w =>
 Bn P .shr 110 true t15 (.int .u64 1) w fun t16 w =>
 Cv P 110 3 t16 w fun t17 w =>
 Cw P t1 #[t17] w (Pk R) fun t20 w =>
 Un P .not t20 w fun t21 w =>
 If t21
 (Bn P .add 3 true t17 (.int .i64 1) w fun t23 w =>
 k1 t23 t6 w)
 (k1 t5 t17 w))
 (R (.returned t5) w))
theorem e_sort_Search (h : s_sort_Search Tryz.prog t0 t1 w R) : Calls Tryz.prog 151 #[t0, t1] w R :=
 en1 (.sq .z (.sq .z (.sq (.bk (.lp [5, 6] [7, 9, 10, 11, 12, 13, 14, 15, 16, 17, 18, 19, 20, 21, 22, 23, 24] (.sq (.sq .z (.cd .z .z)) (.bk (.sq .z (.sq .z (.cd .z .z))))))) (.sq .z .z)))) [t0, t1] Tryz.func151 (by kernel_rfl) (by kernel_rfl) h
theorem n_sort_Search : Enters Tryz.prog 151 := enters_of Tryz.func151 (by kernel_rfl) rfl
def s_integer_fold_integer_number (P : Program) (t0 t1 t2 : Value) (w : World) (R : Ending → World → Prop) : Prop :=
 Bn P .add 3 true t0 (.int .i64 1) w fun t11 w =>
 Ms P 115 (.int .i64 0) t11 w fun t12 w =>
 Lp3 t1 t12 (.int .i64 0) w (fun t1x1 t7 t8 w k1 =>
 Bn P .lss 3 false t8 t0 w fun t15 w =>
 Gd t15 false (fun k => k t1x1 w) w fun t17 w =>
 Gd t15 false (fun k => Bn P .neq 3 true t17 (.int .i64 0) w k) w fun t18 w =>
 Pick t15 (.bool true) t18 w fun t19 w =>
 If t19
 (Cw P t2 #[t8] w (Pk R) fun t24 w =>
 Bn P .add 3 false t24 t1x1 w fun t26 w =>
 Bn P .lss 3 true t26 (.int .i64 0) w fun t28 w =>
 If t28
 (Bn P .add 3 true t26 (.int .i64 10000) w fun t30 w =>
 Bs P 115 1 [(0, t30)] w fun t39 w =>
 Bt P .append #[115, 115] 115 #[t7, t39] w fun t40 w =>
 Bn P .add 3 true t8 (.int .i64 1) w fun t21 w =>
 k1 (.int .i64 (-1)) t40 t21 w)
 (Bn P .geq 3 true t26 (.int .i64 10000) w fun t32 w =>
 If t32
 (Bn P .quo 3 true t26 (.int .i64 10000) w fun t34 w =>
 Bn P .rem 3 true t26 (.int .i64 10000) w fun t36 w =>
 Bs P 115 1 [(0, t36)] w fun t39x1 w =>
 Bt P .append #[115, 115] 115 #[t7, t39x1] w fun t40x1 w =>
 Bn P .add 3 true t8 (.int .i64 1) w fun t21x1 w =>
 k1 t34 t40x1 t21x1 w)
 (Bs P 115 1 [(0, t26)] w fun t39x2 w =>
 Bt P .append #[115, 115] 115 #[t7, t39x2] w fun t40x2 w =>
 Bn P .add 3 true t8 (.int .i64 1) w fun t21x2 w =>
 k1 (.int .i64 0) t40x2 t21x2 w)))
 (R (.returned t7) w))
theorem e_integer_fold_integer_number (h : s_integer_fold_integer_number Tryz.prog t0 t1 t2 w R) : Calls Tryz.prog 152 #[t0, t1, t2] w R :=
 en1 (.sq .z (.sq .z (.sq (.sq .z (.bk (.lp [1, 7, 8] [9, 13, 14, 15, 16, 17, 18, 19, 20, 21, 22, 23, 24, 25, 26, 27, 28, 29, 30, 31, 32, 33, 34, 35, 36, 37, 38, 39, 40] (.sq (.sq .z (.cd .z .z)) (.sq (.bk (.sq .z (.sq .z (.sq (.sq .z (.cd (.sq .z .z) (.sq .z (.cd (.sq .z .z) .z)))) .z)))) .z))))) (.sq .z .z)))) [t0, t1, t2] Tryz.func152 (by kernel_rfl) (by kernel_rfl) h
theorem n_integer_fold_integer_number : Enters Tryz.prog 152 := enters_of Tryz.func152 (by kernel_rfl) rfl
def s_integer_number_plus_1 (P : Program) (t0 t1 t2 : Value) (w : World) (R : Ending → World → Prop) : Prop :=
 dL P 115 t1 w.drew fun t5 =>
 dL P 115 t2 w.drew fun t8 =>
 Cl P 154 #[t5, t0] w.drew (Pk R) fun t7 w =>
 kLd P 115 t2 t8 w <|
 Cl P 154 #[t8, t0] w (Pk R) fun t10 w =>
 Dv P true (bn .add 3 false t7 t10) w fun t11 =>
 R (.returned t11) w
theorem e_integer_number_plus_1 (h : s_integer_number_plus_1 Tryz.prog t0 t1 t2 w R) : Calls Tryz.prog 153 #[t0, t1, t2] w R :=
 en1 (.sq .z (.sq (.dr (.pur false 0 (.pur true 1 (.pur false 3 (.pur true 4 (.eff 2 [3] (.eff 5 [] (.pur true 6 (.pur true 7 .done))))))))) .z)) [t0, t1, t2] Tryz.func153 (by kernel_rfl) (by kernel_rfl) h
theorem n_integer_number_plus_1 : Enters Tryz.prog 153 := enters_of Tryz.func153 (by kernel_rfl) rfl
def s_integer_number_at (P : Program) (t0 t1 : Value) (w : World) (R : Ending → World → Prop) : Prop :=
 Bt P .len #[115] 3 #[t0] w fun t7 w =>
 Bn P .lss 3 false t1 t7 w fun t8 w =>
 If t8
 (Ia P 115 t0 t1 w fun t11 w =>
 Ld P 3 t11 w fun t12 w =>
 R (.returned t12) w)
 (R (.returned (.int .i64 0)) w)
theorem e_integer_number_at (h : s_integer_number_at Tryz.prog t0 t1 w R) : Calls Tryz.prog 154 #[t0, t1] w R :=
 en1 (.sq .z (.sq (.sq .z (.cd (.sq .z .z) .z)) (.sq .z .z))) [t0, t1] Tryz.func154 (by kernel_rfl) (by kernel_rfl) h
theorem n_integer_number_at : Enters Tryz.prog 154 := enters_of Tryz.func154 (by kernel_rfl) rfl
def s_integer_number_minus_1 (P : Program) (t0 t1 t2 : Value) (w : World) (R : Ending → World → Prop) : Prop :=
 dL P 115 t1 w.drew fun t5 =>
 dL P 115 t2 w.drew fun t8 =>
 Cl P 154 #[t5, t0] w.drew (Pk R) fun t7 w =>
 kLd P 115 t2 t8 w <|
 Cl P 154 #[t8, t0] w (Pk R) fun t10 w =>
 Dv P true (bn .sub 3 false t7 t10) w fun t11 =>
 R (.returned t11) w
theorem e_integer_number_minus_1 (h : s_integer_number_minus_1 Tryz.prog t0 t1 t2 w R) : Calls Tryz.prog 155 #[t0, t1, t2] w R :=
 en1 (.sq .z (.sq (.dr (.pur false 0 (.pur true 1 (.pur false 3 (.pur true 4 (.eff 2 [3] (.eff 5 [] (.pur true 6 (.pur true 7 .done))))))))) .z)) [t0, t1, t2] Tryz.func155 (by kernel_rfl) (by kernel_rfl) h
theorem n_integer_number_minus_1 : Enters Tryz.prog 155 := enters_of Tryz.func155 (by kernel_rfl) rfl
theorem n_strings_Repeat : Enters Tryz.prog 156 := enters_of Tryz.func156 (by kernel_rfl) rfl
def s_cmp_Compare_int (P : Program) (t0 t1 : Value) (w : World) (R : Ending → World → Prop) : Prop :=
 Cl P 183 #[t0] w (Pk R) fun t8 w =>
 Cl P 183 #[t1] w (Pk R) fun t10 w =>
 If t8
 (If t10
 (R (.returned (.int .i64 0)) w)
 (R (.returned (.int .i64 (-1))) w))
 (If t10
 (R (.returned (.int .i64 1)) w)
 (Bn P .lss 3 false t0 t1 w fun t16 w =>
 If t16
 (R (.returned (.int .i64 (-1))) w)
 (Bn P .gtr 3 false t0 t1 w fun t19 w =>
 If t19
 (R (.returned (.int .i64 1)) w)
 (R (.returned (.int .i64 0)) w))))
theorem e_cmp_Compare_int (h : s_cmp_Compare_int Tryz.prog t0 t1 w R) : Calls Tryz.prog 157 #[t0, t1] w R :=
 en1 (.sq .z (.sq .z (.sq .z (.sq (.sq .z (.cd (.sq (.sq .z (.cd (.sq .z .z) .z)) (.sq .z .z)) .z)) (.sq (.sq .z (.cd (.sq .z .z) .z)) (.sq (.sq .z (.cd (.sq .z .z) .z)) (.sq (.sq .z (.cd (.sq .z .z) .z)) (.sq .z .z)))))))) [t0, t1] Tryz.func157 (by kernel_rfl) (by kernel_rfl) h
theorem n_cmp_Compare_int : Enters Tryz.prog 157 := enters_of Tryz.func157 (by kernel_rfl) rfl
def s_strings_Trim (P : Program) (t0 t1 : Value) (w : World) (R : Ending → World → Prop) : Prop :=
 Bn P .eql 9 true t0 (str []) w fun t8 w =>
 Gd t8 false (fun k => k t1 w) w fun t10 w =>
 Gd t8 false (fun k => Bn P .eql 9 true t10 (str []) w k) w fun t11 w =>
 Pick t8 (.bool true) t11 w fun t12 w =>
 If t12
 (R (.returned t0) w)
 (Bt P .len #[9] 3 #[t1] w fun t15 w =>
 Bn P .eql 3 true t15 (.int .i64 1) w fun t16 w =>
 Gd t16 true (fun k => k t1 w) w fun t18 w =>
 Gd t16 true (fun k => Ix P 9 t18 (.int .i64 0) w k) w fun t19 w =>
 Gd t16 true (fun k => Bn P .lss 5 true t19 (.int .u8 128) w k) w fun t20 w =>
 Pick t16 t20 (.bool false) w fun t21 w =>
 If t21
 (Dv P true (Instr.index 9 t1 (.int .i64 0)) w.drew fun t24 =>
 Dv P true (Instr.index 9 t1 (.int .i64 0)) w.drew fun t27 =>
 Cl P 185 #[t0, t24] w.drew (Pk R) fun t25 w =>
 Cl P 184 #[t25, t27] w (Pk R) fun t28 w =>
 R (.returned t28) w)
 (Cl P 186 #[t1] w (Pk R) fun t31 w =>
 Ex t31 0 w fun t32 w =>
 Ex t31 1 w fun t33 w =>
 Al P 184 w fun t5 w =>
 Sto P 184 t5 t32 w fun w =>
 If t33
 (Cl P 188 #[t0, t5] w (Pk R) fun t36 w =>
 Cl P 187 #[t36, t5] w (Pk R) fun t37 w =>
 R (.returned t37) w)
 (Cl P 190 #[t0, t1] w (Pk R) fun t40 w =>
 Cl P 189 #[t40, t1] w (Pk R) fun t42 w =>
 R (.returned t42) w)))
theorem e_strings_Trim (h : s_strings_Trim Tryz.prog t0 t1 w R) : Calls Tryz.prog 158 #[t0, t1] w R :=
 en1 (.sq .z (.sq (.sq .z (.cd (.sq .z .z) .z)) (.sq (.sq .z (.cd (.sq (.dr (.pur true 0 (.pur true 1 (.pur true 2 (.pur true 4 (.pur true 5 (.eff 3 [] (.eff 6 [] (.pur true 7 .done))))))))) .z) .z)) (.sq (.sq .z (.sq .z (.cd (.sq .z .z) .z))) (.sq .z .z))))) [t0, t1] Tryz.func158 (by kernel_rfl) (by kernel_rfl) h
theorem n_strings_Trim : Enters Tryz.prog 158 := enters_of Tryz.func158 (by kernel_rfl) rfl
def s_integer_number_times (P : Program) (t0 t1 : Value) (w : World) (R : Ending → World → Prop) : Prop :=
 Bx P 115 t0 w fun t2 w =>
 Al P 115 w fun t5 w =>
 Cl P 147 #[t1] w (Pk R) fun t9 w =>
 Rf2 P t9 w (fun t10 t11 w next lv =>
 Jn0 (fun k1 =>
 Ld P 115 t5 w fun t12 w =>
 Bt P .len #[115] 3 #[t12] w fun t13 w =>
 Bn P .gtr 3 true t13 (.int .i64 0) w fun t14 w =>
 If t14
 (Bs P 115 1 [(0, (.int .i64 0))] w fun t15 w =>
 Ld P 115 t5 w fun t16 w =>
 Bt P .append #[115, 115] 115 #[t15, t16] w fun t17 w =>
 Sto P 115 t5 t17 w fun w =>
 k1 w)
 (k1 w))
 (fun w =>
 dL P 115 t5 w.drew fun t18 =>
 dL P 115 t2 w.drew fun t19 =>
 Cl P 149 #[t19, t11] w.drew (fun _ _ => False) fun t21 w =>
 kLd P 115 t5 t18 w <|
 Cl P 110 #[t18, t21] w (fun _ _ => False) fun t22 w =>
 Sto P 115 t5 t22 w fun w =>
 next w))
 (fun D1 w =>
 Ld P 115 t5 w fun t23 w =>
 Tk P D1 w fun w =>
 R (.returned t23) w)
 (fun D1 w =>
 Tk P D1 w fun w =>
 R (.returned (.slice none 0 0)) w) []
theorem e_integer_number_times (h : s_integer_number_times Tryz.prog t0 t1 w R) : Calls Tryz.prog 159 #[t0, t1] w R :=
 en1 (.sq .z (.sq .z (.sq (.sq .z (.bk (.rf (.bk (.jn [] [12, 13, 14, 15, 16, 17] (.sq .z (.cd .z .z)) (.dr (.pur false 0 (.pur false 1 (.pur true 2 (.eff 3 [0] (.eff 4 [] (.eff 5 [] .done))))))))) []))) (.sq .z .z)))) [t0, t1] Tryz.func159 (by kernel_rfl) (by kernel_rfl) h
theorem n_integer_number_times : Enters Tryz.prog 159 := enters_of Tryz.func159 (by kernel_rfl) rfl
def s_rational_work_quotient_1 (P : Program) (t0 t1 : Value) (w : World) (R : Ending → World → Prop) : Prop :=
 Cl P 79 #[t0, t1] w (Pk R) fun t12 w =>
 Ex t12 0 w fun t13 w =>
 Ex t12 1 w fun t14 w =>
 Ex t12 2 w fun t15 w =>
 R (.returned (.tuple #[t13, t15])) w
theorem e_rational_work_quotient_1 (h : s_rational_work_quotient_1 Tryz.prog t0 t1 w R) : Calls Tryz.prog 160 #[t0, t1] w R :=
 en1 (.sq .z (.sq .z (.sq .z .z))) [t0, t1] Tryz.func160 (by kernel_rfl) (by kernel_rfl) h
theorem n_rational_work_quotient_1 : Enters Tryz.prog 160 := enters_of Tryz.func160 (by kernel_rfl) rfl
def s_ref03_trim (P : Program) (t0 : Value) (w : World) (R : Ending → World → Prop) : Prop :=
 Lp1 t0 w (fun t0x1 w k1 =>
 Bt P .len #[47] 3 #[t0x1] w fun t4 w =>
 Bn P .gtr 3 true t4 (.int .i64 0) w fun t5 w =>
 Gd t5 true (fun k => k t0x1 w) w fun t7 w =>
 Gd t5 true (fun k => k t0x1 w) w fun t8 w =>
 Gd t5 true (fun k => Bt P .len #[47] 3 #[t8] w k) w fun t9 w =>
 Gd t5 true (fun k => Bn P .sub 3 true t9 (.int .i64 1) w k) w fun t10 w =>
 Gd t5 true (fun k => Ia P 47 t7 t10 w k) w fun t11 w =>
 Gd t5 true (fun k => Ld P 3 t11 w k) w fun t12 w =>
 Gd t5 true (fun k => Bn P .eql 3 true t12 (.int .i64 0) w k) w fun t13 w =>
 Pick t5 t13 (.bool false) w fun t14 w =>
 If t14
 (Bt P .len #[47] 3 #[t0x1] w fun t17 w =>
 Bn P .sub 3 true t17 (.int .i64 1) w fun t18 w =>
 Sc P 47 t0x1 none (some t18) none w fun t19 w =>
 k1 t19 w)
 (R (.returned t0x1) w))
theorem e_ref03_trim (h : s_ref03_trim Tryz.prog t0 w R) : Calls Tryz.prog 161 #[t0] w R :=
 en1 (.sq .z (.sq (.bk (.lp [0] [3, 4, 5, 6, 7, 8, 9, 10, 11, 12, 13, 14, 15, 16, 17, 18, 19] (.sq (.sq .z (.cd .z .z)) (.bk .z)))) (.sq .z .z))) [t0] Tryz.func161 (by kernel_rfl) (by kernel_rfl) h
theorem n_ref03_trim : Enters Tryz.prog 161 := enters_of Tryz.func161 (by kernel_rfl) rfl
def s_strings_Builder_copyCheck (P : Program) (t0 : Value) (w : World) (R : Ending → World → Prop) : Prop :=
 Nc t0 w fun t3 w =>
 Fa P 143 t3 0 w fun t4 w =>
 Ld P 141 t4 w fun t5 w =>
 Bn P .eql 141 true t5 (.pointer none) w fun t6 w =>
 If t6
 (Cv P 141 189 t0 w fun t9 w =>
 Cl P 191 #[t9] w (Pk R) fun t10 w =>
 Cv P 189 141 t10 w fun t11 w =>
 Nc t0 w fun t12 w =>
 Fa P 143 t12 0 w fun t13 w =>
 Sto P 141 t13 t11 w fun w =>
 R (.returned (.tuple #[])) w)
 (Nc t0 w fun t15 w =>
 Fa P 143 t15 0 w fun t16 w =>
 Ld P 141 t16 w fun t17 w =>
 Bn P .neq 141 false t17 t0 w fun t19 w =>
 If t19
 (False)
 (R (.returned (.tuple #[])) w))
theorem e_strings_Builder_copyCheck (h : s_strings_Builder_copyCheck Tryz.prog t0 w R) : Calls Tryz.prog 162 #[t0] w R :=
 en1 (.sq .z (.cd .z (.sq .z (.cd .z .z)))) [t0] Tryz.func162 (by kernel_rfl) (by kernel_rfl) h
theorem n_strings_Builder_copyCheck : Enters Tryz.prog 162 := enters_of Tryz.func162 (by kernel_rfl) rfl
def s_slices_Backward_integer_number_int_1 (P : Program) (t0 t1 : Value) (w : World) (R : Ending → World → Prop) : Prop :=
 Ld P 115 t1 w fun t4 w =>
 Bt P .len #[115] 3 #[t4] w fun t5 w =>
 Bn P .sub 3 true t5 (.int .i64 1) w fun t6 w =>
 Lp1 t6 w (fun t3 w k1 =>
 Bn P .geq 3 true t3 (.int .i64 0) w fun t8 w =>
 If t8
 (Ld P 115 t1 w fun t13 w =>
 Ia P 115 t13 t3 w fun t15 w =>
 Ld P 3 t15 w fun t16 w =>
 Cw P t0 #[t3, t16] w (Pk R) fun t17 w =>
 Un P .not t17 w fun t18 w =>
 If t18
 (R (.returned (.tuple #[])) w)
 (Bn P .sub 3 true t3 (.int .i64 1) w fun t10 w =>
 k1 t10 w))
 (R (.returned (.tuple #[])) w))
theorem e_slices_Backward_integer_number_int_1 (h : s_slices_Backward_integer_number_int_1 Tryz.prog t0 t1 w R) : Calls Tryz.prog 178 #[t0, t1] w R :=
 en1 (.sq .z (.bk (.lp [3] [7, 8, 9, 10, 11, 12, 13, 14, 15, 16, 17, 18] (.sq (.sq .z (.cd .z .z)) (.sq (.bk (.sq .z (.cd .z .z))) .z))))) [t0, t1] Tryz.func178 (by kernel_rfl) (by kernel_rfl) h
theorem n_slices_Backward_integer_number_int_1 : Enters Tryz.prog 178 := enters_of Tryz.func178 (by kernel_rfl) rfl
def s_integer_number_by_1 (P : Program) (t0 t1 t2 : Value) (w : World) (R : Ending → World → Prop) : Prop :=
 dL P 115 t1 w.drew fun t5 =>
 dL P 3 t2 w.drew fun t8 =>
 Cl P 154 #[t5, t0] w.drew (Pk R) fun t7 w =>
 kLd P 3 t2 t8 w <|
 Dv P true (bn .mul 3 false t7 t8) w fun t9 =>
 R (.returned t9) w
theorem e_integer_number_by_1 (h : s_integer_number_by_1 Tryz.prog t0 t1 t2 w R) : Calls Tryz.prog 179 #[t0, t1, t2] w R :=
 en1 (.sq .z (.sq (.dr (.pur false 0 (.pur true 1 (.pur false 3 (.eff 2 [3] (.pur true 4 (.pur true 5 .done))))))) .z)) [t0, t1, t2] Tryz.func179 (by kernel_rfl) (by kernel_rfl) h
theorem n_integer_number_by_1 : Enters Tryz.prog 179 := enters_of Tryz.func179 (by kernel_rfl) rfl
def s_cmp_isNaN_int (P : Program) (t0 : Value) (w : World) (R : Ending → World → Prop) : Prop :=
 Bn P .neq 3 false t0 t0 w fun t5 w =>
 R (.returned t5) w
theorem e_cmp_isNaN_int (h : s_cmp_isNaN_int Tryz.prog t0 w R) : Calls Tryz.prog 183 #[t0] w R :=
 en1 (.sq .z (.sq .z .z)) [t0] Tryz.func183 (by kernel_rfl) (by kernel_rfl) h
theorem n_cmp_isNaN_int : Enters Tryz.prog 183 := enters_of Tryz.func183 (by kernel_rfl) rfl
theorem n_strings_makeASCIISet : Enters Tryz.prog 186 := enters_of Tryz.func186 (by kernel_rfl) rfl
def s_strings_trimLeftASCII (P : Program) (t0 t1 : Value) (w : World) (R : Ending → World → Prop) : Prop :=
 Lp1 t0 w (fun t0x1 w k1 =>
 Bt P .len #[9] 3 #[t0x1] w fun t6 w =>
 Bn P .gtr 3 true t6 (.int .i64 0) w fun t7 w =>
 If t7
 (Ix P 9 t0x1 (.int .i64 0) w fun t10 w =>
 Cl P 205 #[t1, t10] w (Pk R) fun t11 w =>
 Un P .not t11 w fun t12 w =>
 If t12
 (R (.returned t0x1) w)
 (Sc P 9 t0x1 (some (.int .i64 1)) none none w fun t14 w =>
 k1 t14 w))
 (R (.returned t0x1) w))
theorem e_strings_trimLeftASCII (h : s_strings_trimLeftASCII Tryz.prog t0 t1 w R) : Calls Tryz.prog 187 #[t0, t1] w R :=
 en1 (.sq .z (.sq (.bk (.lp [0] [5, 6, 7, 8, 9, 10, 11, 12, 13, 14] (.sq (.sq .z (.cd .z .z)) (.bk (.sq (.sq .z (.cd .z .z)) .z))))) (.sq .z .z))) [t0, t1] Tryz.func187 (by kernel_rfl) (by kernel_rfl) h
theorem n_strings_trimLeftASCII : Enters Tryz.prog 187 := enters_of Tryz.func187 (by kernel_rfl) rfl
def s_strings_trimRightASCII (P : Program) (t0 t1 : Value) (w : World) (R : Ending → World → Prop) : Prop :=
 Lp1 t0 w (fun t0x1 w k1 =>
 Bt P .len #[9] 3 #[t0x1] w fun t6 w =>
 Bn P .gtr 3 true t6 (.int .i64 0) w fun t7 w =>
 If t7
 (Bt P .len #[9] 3 #[t0x1] w fun t11 w =>
 Bn P .sub 3 true t11 (.int .i64 1) w fun t12 w =>
 Ix P 9 t0x1 t12 w fun t13 w =>
 Cl P 205 #[t1, t13] w (Pk R) fun t14 w =>
 Un P .not t14 w fun t15 w =>
 If t15
 (R (.returned t0x1) w)
 (Bt P .len #[9] 3 #[t0x1] w fun t18 w =>
 Bn P .sub 3 true t18 (.int .i64 1) w fun t19 w =>
 Sc P 9 t0x1 none (some t19) none w fun t20 w =>
 k1 t20 w))
 (R (.returned t0x1) w))
theorem e_strings_trimRightASCII (h : s_strings_trimRightASCII Tryz.prog t0 t1 w R) : Calls Tryz.prog 188 #[t0, t1] w R :=
 en1 (.sq .z (.sq (.bk (.lp [0] [5, 6, 7, 8, 9, 10, 11, 12, 13, 14, 15, 16, 17, 18, 19, 20] (.sq (.sq .z (.cd .z .z)) (.bk (.sq (.sq .z (.cd .z .z)) .z))))) (.sq .z .z))) [t0, t1] Tryz.func188 (by kernel_rfl) (by kernel_rfl) h
theorem n_strings_trimRightASCII : Enters Tryz.prog 188 := enters_of Tryz.func188 (by kernel_rfl) rfl
theorem n_strings_asciiSet_contains : Enters Tryz.prog 205 := enters_of Tryz.func205 (by kernel_rfl) rfl
end Go.Proofs.YtdbcpkihokagkaaGreatDoor
