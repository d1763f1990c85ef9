/-
  Contracts and plain lemmas. By an AI agent.
-/
import Derived.Test.YtjmdnjnjepinoaaGreatDoorEng
import Derived.Test.YtjmdnjnjepinoaaGreatDoorProg
set_option linter.unusedSimpArgs false
set_option linter.unusedVariables false
set_option linter.unusedSectionVars false
namespace Go.Proofs.YtjmdnjnjepinoaaGreatDoor
open Go Go.Eng Go.Shelf
set_option maxRecDepth 100000
set_option linter.unusedVariables false
def s_law26_ContractExact (P : Program) (t0 t1 : Value) (w : World) (R : Ending → World → Prop) : Prop :=
 Cl P 9 #[] w (Pk R) fun t21 w =>
 Cl P 23 #[t0, (.int .i64 100001)] w (Pk R) fun t23 w =>
 Cl P 26 #[t1] w (Pk R) fun t25 w =>
 Cl P 27 #[t25] w (Pk R) fun t28 w =>
 Ex t28 0 w fun t29 w =>
 Ex t28 1 w fun t30 w =>
 Al P 23 w fun t8 w =>
 Sto P 23 t8 t29 w fun w =>
 Cl P 24 #[t23, t25] w (Pk R) fun t34 w =>
 Ex t34 0 w fun t35 w =>
 Ex t34 1 w fun t36 w =>
 Un P .not t30 w fun t38 w =>
 Gd t38 false (fun k => k t36 w) w fun t40 w =>
 Gd t38 false (fun k => Bn P .neq 39 true t40 (.int .i64 0) w k) w fun t41 w =>
 Pick t38 (.bool true) t41 w fun t42 w =>
 Gd t42 false (fun k => k t35 w) w fun t44 w =>
 Gd t42 false (fun k => Bt P .len #[27] 3 #[t44] w k) w fun t45 w =>
 Gd t42 false (fun k => k t25 w) w fun t46 w =>
 Gd t42 false (fun k => Bt P .len #[28] 3 #[t46] w k) w fun t47 w =>
 Gd t42 false (fun k => Bn P .neq 3 false t45 t47 w k) w fun t48 w =>
 Pick t42 (.bool true) t48 w fun t49 w =>
 If t49
 (R (.returned (.bool false)) w)
 (Lp2 (.int .i64 0) (.int .i64 0) w (fun t12 t13 w k1 =>
 Bt P .len #[27] 3 #[t35] w fun t52 w =>
 Bn P .lss 3 false t13 t52 w fun t53 w =>
 If t53
 (Jn2 (fun k2 =>
 Dv P true (Instr.indexAt 28 t25 t13) w.drew fun t61 =>
 Dv P false (Instr.loadAt 23 t61) w.drew fun t62 =>
 (Cl P 29 #[t23, (.int .i64 1)] w.drew (Pk R) fun t58 w =>
 Ke P (Instr.loadAt 23 t61) t62 w <|
 (Cl P 28 #[t58, t62] w (Pk R) fun t63 w =>
 ExP t63 0 fun t64 =>
 ExP t63 1 fun t65 =>
 Al P 23 w fun t14 w =>
 Ke P (Instr.loadAt 23 t61) t62 w <|
 Sto P 23 t14 t64 w fun w =>
 k2 t14 t65 w) ∧
 (Al P 23 w fun t14x1 w =>
 Ke P (Instr.loadAt 23 t61) t62 w <|
 Cl P 28 #[t58, t62] w (Pk R) fun t63x1 w =>
 ExP t63x1 0 fun t64x1 =>
 ExP t63x1 1 fun t65x1 =>
 Sto P 23 t14x1 t64x1 w fun w =>
 k2 t14x1 t65x1 w)) ∧
 (Al P 23 w.drew fun t14x2 w =>
 Ke P (Instr.loadAt 23 t61) t62 w <|
 Cl P 29 #[t23, (.int .i64 1)] w (Pk R) fun t58x1 w =>
 Ke P (Instr.loadAt 23 t61) t62 w <|
 Cl P 28 #[t58x1, t62] w (Pk R) fun t63x2 w =>
 ExP t63x2 0 fun t64x2 =>
 ExP t63x2 1 fun t65x2 =>
 Sto P 23 t14x2 t64x2 w fun w =>
 k2 t14x2 t65x2 w))
 (fun t14x3 t15 w =>
 Ld P 23 t14x3 w fun t67 w =>
 Ld P 23 t8 w fun t68 w =>
 Cl P 30 #[t67, t68] w (Pk R) fun t69 w =>
 Ex t69 0 w fun t70 w =>
 Ex t69 1 w fun t71 w =>
 Al P 23 w fun t16 w =>
 Sto P 23 t16 t70 w fun w =>
 Jn2 (fun k3 =>
 Dv P true (Instr.indexAt 27 t35 t13) w.drew fun t75 =>
 Dv P false (Instr.loadAt 3 t75) w.drew fun t76 =>
 Dv P false (Instr.loadAt 23 t16) w.drew fun t78 =>
 (Cl P 29 #[t76, (.int .i64 1)] w.drew (Pk R) fun t77 w =>
 Ke P (Instr.loadAt 23 t16) t78 w <|
 (Cl P 31 #[t77, t78] w (Pk R) fun t79 w =>
 ExP t79 0 fun t80 =>
 ExP t79 1 fun t81 =>
 Al P 23 w fun t18 w =>
 Ke P (Instr.loadAt 3 t75) t76 w <|
 Ke P (Instr.loadAt 23 t16) t78 w <|
 Sto P 23 t18 t80 w fun w =>
 k3 t18 t81 w) ∧
 (Al P 23 w fun t18x1 w =>
 Ke P (Instr.loadAt 3 t75) t76 w <|
 Ke P (Instr.loadAt 23 t16) t78 w <|
 Cl P 31 #[t77, t78] w (Pk R) fun t79x1 w =>
 ExP t79x1 0 fun t80x1 =>
 ExP t79x1 1 fun t81x1 =>
 Sto P 23 t18x1 t80x1 w fun w =>
 k3 t18x1 t81x1 w)) ∧
 (Al P 23 w.drew fun t18x2 w =>
 Ke P (Instr.loadAt 3 t75) t76 w <|
 Ke P (Instr.loadAt 23 t16) t78 w <|
 Cl P 29 #[t76, (.int .i64 1)] w (Pk R) fun t77x1 w =>
 Ke P (Instr.loadAt 23 t16) t78 w <|
 Cl P 31 #[t77x1, t78] w (Pk R) fun t79x2 w =>
 ExP t79x2 0 fun t80x2 =>
 ExP t79x2 1 fun t81x2 =>
 Sto P 23 t18x2 t80x2 w fun w =>
 k3 t18x2 t81x2 w))
 (fun t18x3 t19 w =>
 Dv P true (bn .neq 39 true t15 (.int .i64 0)) w.drew fun t83 =>
 GdP t83 false (fun k => k t71) fun t85 =>
 GdP t83 false (fun k => Dv P true (bn .neq 39 true t85 (.int .i64 0)) w.drew k) fun t86 =>
 PickP t83 (.bool true) t86 fun t87 =>
 GdP t87 false (fun k => k t19) fun t89 =>
 GdP t87 false (fun k => Dv P true (bn .neq 39 true t89 (.int .i64 0)) w.drew k) fun t90 =>
 PickP t87 (.bool true) t90 fun t91 =>
 GdP t91 false (fun k => k t35) fun t93 =>
 GdP t91 false (fun k => k t13) fun t94 =>
 GdP t91 false (fun k => Dv P true (Instr.indexAt 27 t93 t94) w.drew k) fun t95 =>
 GdP t91 false (fun k => Dv P false (Instr.loadAt 3 t95) w.drew k) fun t96 =>
 GdP t91 false (fun k => Dv P true (bn .lss 3 true t96 (.int .i64 0)) w.drew k) fun t97 =>
 PickP t91 (.bool true) t97 fun t98 =>
 GdP t98 false (fun k => Dv P false (Instr.loadAt 23 t18x3) w.drew k) fun t100 =>
 Gd t98 false (fun k => Cl P 29 #[(.int .i64 1), (.int .i64 1)] w.drew (Pk R) k) w.drew fun t101 w =>
 Kg t98 false P (Instr.loadAt 23 t18x3) t100 w <|
 Gd t98 false (fun k => Cl P 32 #[t100, t101] w (Pk R) k) w fun t102 w =>
 GdP t98 false (fun k => Dv P true (bn .geq 3 true t102 (.int .i64 0)) w k) fun t103 =>
 PickP t98 (.bool true) t103 fun t104 =>
 GdP t104 false (fun k => Dv P false (Instr.loadAt 23 t18x3) w k) fun t106 =>
 Gd t104 false (fun k => Cl P 29 #[(.int .i64 (-1)), (.int .i64 1)] w (Pk R) k) w fun t107 w =>
 Kg t104 false P (Instr.loadAt 23 t18x3) t106 w <|
 Gd t104 false (fun k => Cl P 32 #[t106, t107] w (Pk R) k) w fun t108 w =>
 GdP t104 false (fun k => Dv P true (bn .leq 3 true t108 (.int .i64 0)) w k) fun t109 =>
 PickP t104 (.bool true) t109 fun t110 =>
 If t110
 (R (.returned (.bool false)) w)
 (Dv P true (Instr.indexAt 28 t25 t13) w.drew fun t113 =>
 Dv P false (Instr.loadAt 23 t113) w.drew fun t114 =>
 Cl P 29 #[(.int .i64 0), (.int .i64 1)] w.drew (Pk R) fun t115 w =>
 Ke P (Instr.loadAt 23 t113) t114 w <|
 Dv P false (bn .eql 23 false t114 t115) w fun t116 =>
 GdP t116 true (fun k => k t35) fun t118 =>
 GdP t116 true (fun k => k t13) fun t119 =>
 GdP t116 true (fun k => Dv P true (Instr.indexAt 27 t118 t119) w k) fun t120 =>
 GdP t116 true (fun k => Dv P false (Instr.loadAt 3 t120) w k) fun t121 =>
 GdP t116 true (fun k => Dv P true (bn .neq 3 true t121 (.int .i64 0)) w k) fun t122 =>
 PickP t116 t122 (.bool false) fun t123 =>
 If t123
 (R (.returned (.bool false)) w)
 (Lp1 (.int .i64 0) w (fun t20 w k4 =>
 Bn P .lss 3 false t20 t13 w fun t126 w =>
 If t126
 (Dv P true (Instr.indexAt 28 t25 t20) w.drew fun t131 =>
 Dv P false (Instr.loadAt 23 t131) w.drew fun t132 =>
 Dv P true (Instr.indexAt 28 t25 t13) w.drew fun t135 =>
 Dv P false (Instr.loadAt 23 t135) w.drew fun t136 =>
 Dv P false (bn .eql 23 false t132 t136) w.drew fun t137 =>
 GdP t137 true (fun k => k t35) fun t139 =>
 GdP t137 true (fun k => k t20) fun t140 =>
 GdP t137 true (fun k => Dv P true (Instr.indexAt 27 t139 t140) w.drew k) fun t141 =>
 GdP t137 true (fun k => Dv P false (Instr.loadAt 3 t141) w.drew k) fun t142 =>
 GdP t137 true (fun k => k t35) fun t143 =>
 GdP t137 true (fun k => k t13) fun t144 =>
 GdP t137 true (fun k => Dv P true (Instr.indexAt 27 t143 t144) w.drew k) fun t145 =>
 GdP t137 true (fun k => Dv P false (Instr.loadAt 3 t145) w.drew k) fun t146 =>
 GdP t137 true (fun k => Dv P true (bn .lss 3 false t142 t146) w.drew k) fun t147 =>
 GdP t137 true (fun k => k t147) fun t148 =>
 GdP t148 false (fun k => k t35) fun t149 =>
 GdP t148 false (fun k => k t20) fun t150 =>
 GdP t148 false (fun k => Dv P true (Instr.indexAt 27 t149 t150) w.drew k) fun t151 =>
 GdP t148 false (fun k => Dv P false (Instr.loadAt 3 t151) w.drew k) fun t152 =>
 GdP t148 false (fun k => k t35) fun t153 =>
 GdP t148 false (fun k => k t13) fun t154 =>
 GdP t148 false (fun k => Dv P true (Instr.indexAt 27 t153 t154) w.drew k) fun t155 =>
 GdP t148 false (fun k => Dv P false (Instr.loadAt 3 t155) w.drew k) fun t156 =>
 GdP t148 false (fun k => Dv P true (bn .add 3 true t156 (.int .i64 1)) w.drew k) fun t157 =>
 GdP t148 false (fun k => Dv P true (bn .gtr 3 false t152 t157) w.drew k) fun t158 =>
 GdP t137 true (fun k => PickP t148 (.bool true) t158 k) fun t159 =>
 PickP t137 t159 (.bool false) fun t160 =>
 If t160
 (R (.returned (.bool false)) w.drew)
 (Bn P .add 3 true t20 (.int .i64 1) w.drew fun t128 w =>
 k4 t128 w))
 (Ia P 27 t35 t13 w fun t164 w =>
 Ld P 3 t164 w fun t165 w =>
 Bn P .add 3 false t12 t165 w fun t166 w =>
 Bn P .add 3 true t13 (.int .i64 1) w fun t55 w =>
 k1 t166 t55 w)))))))
 (Gd t21 true (fun k => k t12 w) w fun t169 w =>
 Gd t21 true (fun k => k t23 w) w fun t170 w =>
 Gd t21 true (fun k => Bn P .eql 3 false t169 t170 w k) w fun t171 w =>
 Pick t21 t171 (.bool false) w fun t172 w =>
 R (.returned t172) w)))
theorem e_law26_ContractExact {t0 t1 : Value} {w : World} {R : Ending → World → Prop} (h : s_law26_ContractExact Tryz.prog t0 t1 w R) : Calls Tryz.prog 4 #[t0, t1] w R :=
 enter (h := (.sq .z (.sq .z (.sq .z (.sq .z (.sq .z (.sq .z (.sq (.sq .z (.cd (.sq .z .z) .z)) (.sq .z (.sq (.sq .z (.bk (.lp [12, 13] [4, 14, 15, 16, 17, 18, 19, 20, 50, 51, 52, 53, 54, 55, 56, 57, 58, 59, 60, 61, 62, 63, 64, 65, 66, 67, 68, 69, 70, 71, 72, 73, 74, 75, 76, 77, 78, 79, 80, 81, 82, 83, 84, 85, 86, 87, 88, 89, 90, 91, 92, 93, 94, 95, 96, 97, 98, 99, 100, 101, 102, 103, 104, 105, 106, 107, 108, 109, 110, 111, 112, 113, 114, 115, 116, 117, 118, 119, 120, 121, 122, 123, 124, 125, 126, 127, 128, 129, 130, 131, 132, 133, 134, 135, 136, 137, 138, 139, 140, 141, 142, 143, 144, 145, 146, 147, 148, 149, 150, 151, 152, 153, 154, 155, 156, 157, 158, 159, 160, 161, 162, 163, 164, 165, 166] (.sq (.sq .z (.cd .z .z)) (.sq (.bk (.jn [14, 15] [56, 57, 58, 59, 60, 61, 62, 63, 64, 65] (.dr (.pur true 0 (.pur true 2 (.pur true 3 (.pur true 4 (.pur false 5 (.alt (.eff 1 [5] (.alt (.eff 6 [] (.pur true 7 (.pur true 8 (.pur true 9 (.eff 10 [5] (.eff 11 [] (.pur true 12 .done))))))) (.eff 10 [5] (.eff 6 [] (.pur true 7 (.pur true 8 (.pur true 9 (.eff 11 [] (.pur true 12 .done))))))))) (.eff 10 [5] (.eff 1 [5] (.eff 6 [] (.pur true 7 (.pur true 8 (.pur true 9 (.eff 11 [] (.pur true 12 .done))))))))))))))) (.sq .z (.jn [18, 19] [72, 73, 74, 75, 76, 77, 78, 79, 80, 81] (.dr (.pur true 0 (.pur true 1 (.pur true 2 (.pur false 3 (.pur false 5 (.alt (.eff 4 [5] (.alt (.eff 6 [] (.pur true 7 (.pur true 8 (.pur true 9 (.eff 10 [3, 5] (.eff 11 [] (.pur true 12 .done))))))) (.eff 10 [3, 5] (.eff 6 [] (.pur true 7 (.pur true 8 (.pur true 9 (.eff 11 [] (.pur true 12 .done))))))))) (.eff 10 [3, 5] (.eff 4 [5] (.eff 6 [] (.pur true 7 (.pur true 8 (.pur true 9 (.eff 11 [] (.pur true 12 .done))))))))))))))) (.sq (.sq (.dr (.pur true 0 (.pur true 1 (.pur true 2 (.pur true 3 (.pur true 4 (.pur true 5 (.pur true 6 (.pur true 7 (.pur true 8 (.pur true 9 (.pur true 10 (.pur true 11 (.pur true 12 (.pur true 13 (.pur false 14 (.pur true 15 (.pur true 16 (.pur true 17 (.pur false 18 (.eff 19 [18] (.eff 20 [] (.pur true 21 (.pur true 22 (.pur true 23 (.pur false 24 (.eff 25 [24] (.eff 26 [] (.pur true 27 (.pur true 28 .done)))))))))))))))))))))))))))))) (.cd (.sq .z .z) .z)) (.sq (.sq (.dr (.pur true 0 (.pur true 1 (.pur true 2 (.pur false 3 (.eff 4 [3] (.pur false 5 (.pur true 6 (.pur true 7 (.pur true 8 (.pur true 9 (.pur false 10 (.pur true 11 (.pur true 12 .done)))))))))))))) (.cd (.sq .z .z) .z)) (.sq (.sq .z (.bk (.lp [20] [4, 124, 125, 126, 127, 128, 129, 130, 131, 132, 133, 134, 135, 136, 137, 138, 139, 140, 141, 142, 143, 144, 145, 146, 147, 148, 149, 150, 151, 152, 153, 154, 155, 156, 157, 158, 159, 160] (.sq (.sq .z (.cd .z .z)) (.sq (.bk (.sq (.dr (.pur true 0 (.pur true 1 (.pur true 2 (.pur false 3 (.pur true 4 (.pur true 5 (.pur true 6 (.pur false 7 (.pur false 8 (.pur true 9 (.pur true 10 (.pur true 11 (.pur true 12 (.pur false 13 (.pur true 14 (.pur true 15 (.pur true 16 (.pur false 17 (.pur true 18 (.pur true 19 (.pur true 20 (.pur true 21 (.pur true 22 (.pur false 23 (.pur true 24 (.pur true 25 (.pur true 26 (.pur false 27 (.pur true 28 (.pur true 29 (.pur true 30 (.pur true 31 .done))))))))))))))))))))))))))))))))) (.cd (.sq .z .z) .z))) .z))))) .z))))))) .z))))) (.sq .z .z))))))))))) (args := [t0, t1]) Tryz.func4 (by kernel_rfl) (by kernel_rfl) (by kernel_rfl) (Eq.mp (by kernel_rfl) h)
end Go.Proofs.YtjmdnjnjepinoaaGreatDoor
