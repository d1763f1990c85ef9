/-
  Contracts and plain lemmas. By an AI agent.
-/
import Derived.Test.YtjmdnjnjepinoaaGreatDoorEng
import Derived.Test.YtjmdnjnjepinoaaGreatDoorProg
set_option linter.unusedSimpArgs false
set_option linter.unusedVariables false
set_option linter.unusedSectionVars false
namespace Go.Proofs.YtjmdnjnjepinoaaGreatDoor
open Go Go.Eng Go.Shelf
set_option maxRecDepth 100000
set_option linter.unusedVariables false
def s_law26_ContractCapped (P : Program) (t0 t1 : Value) (w : World) (R : Ending → World → Prop) : Prop :=
 Bx P 26 t0 w fun t2 w =>
 Cl P 9 #[] w (Pk R) fun t20 w =>
 Ld P 26 t2 w fun t21 w =>
 Cl P 12 #[t21] w (Pk R) fun t22 w =>
 Al P 25 w fun t6 w =>
 Sto P 25 t6 t22 w fun w =>
 Cl P 33 #[t1] w (Pk R) fun t24 w =>
 Ld P 25 t6 w fun t26 w =>
 Cl P 13 #[t26, t24] w (Pk R) fun t28 w =>
 Ex t28 0 w fun t29 w =>
 Ex t28 1 w fun t30 w =>
 Bn P .neq 39 true t30 (.int .i64 0) w fun t32 w =>
 Gd t32 false (fun k => k t29 w) w fun t34 w =>
 Gd t32 false (fun k => Bt P .len #[27] 3 #[t34] w k) w fun t35 w =>
 Gd t32 false (fun k => k t24 w) w fun t36 w =>
 Gd t32 false (fun k => Bt P .len #[27] 3 #[t36] w k) w fun t37 w =>
 Gd t32 false (fun k => Bn P .neq 3 false t35 t37 w k) w fun t38 w =>
 Pick t32 (.bool true) t38 w fun t39 w =>
 If t39
 (R (.returned (.bool false)) w)
 (Ld P 25 t6 w fun t40 w =>
 Al P 25 w fun t10 w =>
 Sto P 25 t10 t40 w fun w =>
 Fa P 25 t10 3 w fun t41 w =>
 Sto P 3 t41 (.int .i64 1000000000) w fun w =>
 Ld P 25 t10 w fun t43 w =>
 Cl P 13 #[t43, t24] w (Pk R) fun t45 w =>
 Ex t45 0 w fun t46 w =>
 Ex t45 1 w fun t47 w =>
 Bn P .neq 39 true t47 (.int .i64 0) w fun t49 w =>
 Gd t49 false (fun k => k t46 w) w fun t51 w =>
 Gd t49 false (fun k => Bt P .len #[27] 3 #[t51] w k) w fun t52 w =>
 Gd t49 false (fun k => k t24 w) w fun t53 w =>
 Gd t49 false (fun k => Bt P .len #[27] 3 #[t53] w k) w fun t54 w =>
 Gd t49 false (fun k => Bn P .neq 3 false t52 t54 w k) w fun t55 w =>
 Pick t49 (.bool true) t55 w fun t56 w =>
 If t56
 (R (.returned (.bool false)) w)
 (Lp2 (.int .i64 0) (.int .i64 0) w (fun t13 t14 w k1 =>
 Bt P .len #[27] 3 #[t24] w fun t59 w =>
 Bn P .lss 3 false t14 t59 w fun t60 w =>
 If t60
 (Jn1 (fun k2 =>
 Ia P 27 t24 t14 w fun t65 w =>
 Ld P 3 t65 w fun t66 w =>
 Bn P .gtr 3 true t66 (.int .i64 0) w fun t67 w =>
 If t67
 (Bn P .add 3 true t13 (.int .i64 1) w fun t69 w =>
 k2 t69 w)
 (k2 t13 w))
 (fun t13x1 w =>
 Jn2 (fun k3 =>
 Dv P true (Instr.fieldAt 25 t6 2) w.drew fun t71 =>
 Dv P false (Instr.loadAt 23 t71) w.drew fun t72 =>
 Dv P true (Instr.indexAt 27 t24 t14) w.drew fun t75 =>
 Dv P false (Instr.loadAt 3 t75) w.drew fun t76 =>
 (Cl P 29 #[t76, (.int .i64 1)] w.drew (Pk R) fun t77 w =>
 Ke P (Instr.loadAt 23 t71) t72 w <|
 (Cl P 28 #[t72, t77] w (Pk R) fun t78 w =>
 ExP t78 0 fun t79 =>
 ExP t78 1 fun t80 =>
 Al P 23 w fun t15 w =>
 Ke P (Instr.loadAt 23 t71) t72 w <|
 Ke P (Instr.loadAt 3 t75) t76 w <|
 Sto P 23 t15 t79 w fun w =>
 k3 t15 t80 w) ∧
 (Al P 23 w fun t15x1 w =>
 Ke P (Instr.loadAt 23 t71) t72 w <|
 Ke P (Instr.loadAt 3 t75) t76 w <|
 Cl P 28 #[t72, t77] w (Pk R) fun t78x1 w =>
 ExP t78x1 0 fun t79x1 =>
 ExP t78x1 1 fun t80x1 =>
 Sto P 23 t15x1 t79x1 w fun w =>
 k3 t15x1 t80x1 w)) ∧
 (Al P 23 w.drew fun t15x2 w =>
 Ke P (Instr.loadAt 23 t71) t72 w <|
 Ke P (Instr.loadAt 3 t75) t76 w <|
 Cl P 29 #[t76, (.int .i64 1)] w (Pk R) fun t77x1 w =>
 Ke P (Instr.loadAt 23 t71) t72 w <|
 Cl P 28 #[t72, t77x1] w (Pk R) fun t78x2 w =>
 ExP t78x2 0 fun t79x2 =>
 ExP t78x2 1 fun t80x2 =>
 Sto P 23 t15x2 t79x2 w fun w =>
 k3 t15x2 t80x2 w))
 (fun t15x3 t16 w =>
 Dv P true (Instr.indexAt 27 t46 t14) w.drew fun t83 =>
 Dv P false (Instr.loadAt 3 t83) w.drew fun t84 =>
 Dv P false (Instr.loadAt 23 t15x3) w.drew fun t86 =>
 Cl P 29 #[t84, (.int .i64 1)] w.drew (Pk R) fun t85 w =>
 Ke P (Instr.loadAt 23 t15x3) t86 w <|
 Cl P 32 #[t85, t86] w (Pk R) fun t87 w =>
 Dv P true (Instr.indexAt 27 t46 t14) w.drew fun t90 =>
 Dv P false (Instr.loadAt 3 t90) w.drew fun t91 =>
 Dv P true (bn .add 3 true t91 (.int .i64 1)) w.drew fun t92 =>
 Dv P false (Instr.loadAt 23 t15x3) w.drew fun t94 =>
 Cl P 29 #[t92, (.int .i64 1)] w.drew (Pk R) fun t93 w =>
 Ke P (Instr.loadAt 23 t15x3) t94 w <|
 Cl P 32 #[t93, t94] w (Pk R) fun t95 w =>
 Ia P 27 t24 t14 w fun t98 w =>
 Ld P 3 t98 w fun t99 w =>
 Bn P .gtr 3 true t99 (.int .i64 0) w fun t100 w =>
 Gd t100 true (fun k => k t13x1 w) w fun t102 w =>
 Gd t100 true (fun k => Fa P 25 t6 1 w k) w fun t103 w =>
 Gd t100 true (fun k => Ld P 3 t103 w k) w fun t104 w =>
 Gd t100 true (fun k => Bn P .gtr 3 false t102 t104 w k) w fun t105 w =>
 Pick t100 t105 (.bool false) w fun t106 w =>
 Dv P true (bn .neq 39 true t16 (.int .i64 0)) w.drew fun t108 =>
 GdP t108 false (fun k => k t106) fun t110 =>
 GdP t108 false (fun k => Dv P true (Op.unary .not t110) w.drew k) fun t111 =>
 GdP t108 false (fun k => k t111) fun t112 =>
 GdP t112 true (fun k => k t29) fun t113 =>
 GdP t112 true (fun k => k t14) fun t114 =>
 GdP t112 true (fun k => Dv P true (Instr.indexAt 27 t113 t114) w.drew k) fun t115 =>
 GdP t112 true (fun k => Dv P false (Instr.loadAt 3 t115) w.drew k) fun t116 =>
 GdP t112 true (fun k => Dv P true (bn .neq 3 true t116 (.int .i64 0)) w.drew k) fun t117 =>
 GdP t112 true (fun k => k t117) fun t118 =>
 GdP t118 false (fun k => k t46) fun t119 =>
 GdP t118 false (fun k => k t14) fun t120 =>
 GdP t118 false (fun k => Dv P true (Instr.indexAt 27 t119 t120) w.drew k) fun t121 =>
 GdP t118 false (fun k => Dv P false (Instr.loadAt 3 t121) w.drew k) fun t122 =>
 GdP t118 false (fun k => Dv P true (bn .neq 3 true t122 (.int .i64 0)) w.drew k) fun t123 =>
 GdP t112 true (fun k => PickP t118 (.bool true) t123 k) fun t124 =>
 GdP t108 false (fun k => PickP t112 t124 (.bool false) k) fun t125 =>
 PickP t108 (.bool true) t125 fun t126 =>
 GdP t126 false (fun k => k t106) fun t128 =>
 GdP t126 false (fun k => k t128) fun t129 =>
 GdP t129 true (fun k => k t87) fun t130 =>
 GdP t129 true (fun k => Dv P true (bn .gtr 3 true t130 (.int .i64 0)) w.drew k) fun t131 =>
 GdP t129 true (fun k => k t131) fun t132 =>
 GdP t132 false (fun k => k t95) fun t133 =>
 GdP t132 false (fun k => Dv P true (bn .leq 3 true t133 (.int .i64 0)) w.drew k) fun t134 =>
 GdP t129 true (fun k => PickP t132 (.bool true) t134 k) fun t135 =>
 GdP t126 false (fun k => PickP t129 t135 (.bool false) k) fun t136 =>
 PickP t126 (.bool true) t136 fun t137 =>
 GdP t137 false (fun k => k t29) fun t139 =>
 GdP t137 false (fun k => k t14) fun t140 =>
 GdP t137 false (fun k => Dv P true (Instr.indexAt 27 t139 t140) w.drew k) fun t141 =>
 GdP t137 false (fun k => Dv P false (Instr.loadAt 3 t141) w.drew k) fun t142 =>
 GdP t137 false (fun k => Dv P true (bn .lss 3 true t142 (.int .i64 0)) w.drew k) fun t143 =>
 PickP t137 (.bool true) t143 fun t144 =>
 GdP t144 false (fun k => k t29) fun t146 =>
 GdP t144 false (fun k => k t14) fun t147 =>
 GdP t144 false (fun k => Dv P true (Instr.indexAt 27 t146 t147) w.drew k) fun t148 =>
 GdP t144 false (fun k => Dv P false (Instr.loadAt 3 t148) w.drew k) fun t149 =>
 GdP t144 false (fun k => k t46) fun t150 =>
 GdP t144 false (fun k => k t14) fun t151 =>
 GdP t144 false (fun k => Dv P true (Instr.indexAt 27 t150 t151) w.drew k) fun t152 =>
 GdP t144 false (fun k => Dv P false (Instr.loadAt 3 t152) w.drew k) fun t153 =>
 GdP t144 false (fun k => Dv P true (bn .gtr 3 false t149 t153) w.drew k) fun t154 =>
 PickP t144 (.bool true) t154 fun t155 =>
 If t155
 (R (.returned (.bool false)) w.drew)
 (Bn P .add 3 true t14 (.int .i64 1) w.drew fun t62 w =>
 k1 t13x1 t62 w))))
 (GdP t20 true (fun k => k t29) fun t158 =>
 GdP t20 true (fun k => Dv P true (Instr.fieldAt 25 t6 3) w.drew k) fun t160 =>
 GdP t20 true (fun k => Dv P false (Instr.loadAt 3 t160) w.drew k) fun t161 =>
 GdP t20 true (fun k => k t46) fun t162 =>
 Gd t20 true (fun k => Cl P 34 #[t158] w.drew (Pk R) k) w.drew fun t159 w =>
 Kg t20 true P (Instr.loadAt 3 t160) t161 w <|
 Gd t20 true (fun k => Cl P 34 #[t162] w (Pk R) k) w fun t163 w =>
 Kg t20 true P (Instr.loadAt 3 t160) t161 w <|
 GdP t20 true (fun k => Dv P true (bV .min #[3, 3] 3 #[t161, t163]) w k) fun t164 =>
 GdP t20 true (fun k => Dv P true (bn .eql 3 false t159 t164) w k) fun t165 =>
 PickP t20 t165 (.bool false) fun t166 =>
 R (.returned t166) w))))
theorem e_law26_ContractCapped {t0 t1 : Value} {w : World} {R : Ending → World → Prop} (h : s_law26_ContractCapped Tryz.prog t0 t1 w R) : Calls Tryz.prog 6 #[t0, t1] w R :=
 enter (h := (.sq .z (.sq .z (.sq .z (.sq .z (.sq .z (.sq (.sq .z (.cd (.sq .z .z) .z)) (.sq .z (.sq .z (.sq .z (.sq (.sq .z (.cd (.sq .z .z) .z)) (.sq .z (.sq (.sq .z (.bk (.lp [13, 14] [4, 15, 16, 17, 18, 19, 57, 58, 59, 60, 61, 62, 63, 64, 65, 66, 67, 68, 69, 70, 71, 72, 73, 74, 75, 76, 77, 78, 79, 80, 81, 82, 83, 84, 85, 86, 87, 88, 89, 90, 91, 92, 93, 94, 95, 96, 97, 98, 99, 100, 101, 102, 103, 104, 105, 106, 107, 108, 109, 110, 111, 112, 113, 114, 115, 116, 117, 118, 119, 120, 121, 122, 123, 124, 125, 126, 127, 128, 129, 130, 131, 132, 133, 134, 135, 136, 137, 138, 139, 140, 141, 142, 143, 144, 145, 146, 147, 148, 149, 150, 151, 152, 153, 154, 155] (.sq (.sq .z (.cd .z .z)) (.sq (.bk (.jn [13] [63, 64, 65, 66, 67, 68, 69] (.sq .z (.cd .z .z)) (.jn [15, 16] [70, 71, 72, 73, 74, 75, 76, 77, 78, 79, 80] (.dr (.pur true 0 (.pur false 1 (.pur true 2 (.pur true 3 (.pur true 4 (.pur false 5 (.alt (.eff 6 [1] (.alt (.eff 7 [] (.pur true 8 (.pur true 9 (.pur true 10 (.eff 11 [1, 5] (.eff 12 [] (.pur true 13 .done))))))) (.eff 11 [1, 5] (.eff 7 [] (.pur true 8 (.pur true 9 (.pur true 10 (.eff 12 [] (.pur true 13 .done))))))))) (.eff 11 [1, 5] (.eff 6 [1] (.eff 7 [] (.pur true 8 (.pur true 9 (.pur true 10 (.eff 12 [] (.pur true 13 .done)))))))))))))))) (.sq (.dr (.pur true 0 (.pur true 1 (.pur true 2 (.pur false 3 (.pur false 5 (.eff 4 [5] (.eff 6 [] (.pur true 7 .done))))))))) (.sq (.dr (.pur true 0 (.pur true 1 (.pur true 2 (.pur false 3 (.pur true 4 (.pur false 6 (.eff 5 [6] (.eff 7 [] (.pur true 8 .done)))))))))) (.sq .z (.sq (.dr (.pur true 0 (.pur true 1 (.pur true 2 (.pur true 3 (.pur true 4 (.pur true 5 (.pur true 6 (.pur true 7 (.pur true 8 (.pur false 9 (.pur true 10 (.pur true 11 (.pur true 12 (.pur true 13 (.pur true 14 (.pur false 15 (.pur true 16 (.pur true 17 (.pur true 18 (.pur true 19 (.pur true 20 (.pur true 21 (.pur true 22 (.pur true 23 (.pur true 24 (.pur true 25 (.pur true 26 (.pur true 27 (.pur true 28 (.pur true 29 (.pur true 30 (.pur true 31 (.pur true 32 (.pur true 33 (.pur true 34 (.pur false 35 (.pur true 36 (.pur true 37 (.pur true 38 (.pur true 39 (.pur true 40 (.pur true 41 (.pur false 42 (.pur true 43 (.pur true 44 (.pur true 45 (.pur false 46 (.pur true 47 (.pur true 48 .done)))))))))))))))))))))))))))))))))))))))))))))))))) (.cd (.sq .z .z) .z)))))))) .z))))) (.sq (.dr (.pur true 0 (.pur true 1 (.pur true 2 (.pur true 4 (.pur false 5 (.pur true 6 (.eff 3 [5] (.eff 7 [5] (.pur true 8 (.pur true 9 (.pur true 10 (.pur true 11 .done))))))))))))) .z)))))))))))))) (args := [t0, t1]) Tryz.func6 (by kernel_rfl) (by kernel_rfl) (by kernel_rfl) (Eq.mp (by kernel_rfl) h)
end Go.Proofs.YtjmdnjnjepinoaaGreatDoor
