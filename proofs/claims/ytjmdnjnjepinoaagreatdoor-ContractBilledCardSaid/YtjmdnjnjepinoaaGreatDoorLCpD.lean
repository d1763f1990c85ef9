/-
  Contracts and plain lemmas. By an AI agent.
-/
import Derived.Test.YtjmdnjnjepinoaaGreatDoorEng
import Derived.Test.YtjmdnjnjepinoaaGreatDoorProg
set_option linter.unusedSimpArgs false
set_option linter.unusedVariables false
set_option linter.unusedSectionVars false
namespace Go.Proofs.YtjmdnjnjepinoaaGreatDoor
open Go Go.Eng Go.Shelf
set_option maxRecDepth 100000
set_option linter.unusedVariables false
def s_law26_ContractBilled (P : Program) (t0 t1 : Value) (w : World) (R : Ending → World → Prop) : Prop :=
 Bx P 26 t0 w fun t2 w =>
 Cl P 9 #[] w (Pk R) fun t21 w =>
 Ld P 26 t2 w fun t22 w =>
 Cl P 12 #[t22] w (Pk R) fun t23 w =>
 Al P 25 w fun t6 w =>
 Sto P 25 t6 t23 w fun w =>
 Cl P 11 #[t1] w (Pk R) fun t25 w =>
 Lp2 (.slice none 0 0) (.int .i64 0) w (fun t8 t9 w k1 =>
 Bt P .len #[35] 3 #[t25] w fun t28 w =>
 Bn P .lss 3 false t9 t28 w fun t29 w =>
 If t29
 (Ia P 35 t25 t9 w fun t35 w =>
 Fa P 31 t35 1 w fun t36 w =>
 Ld P 3 t36 w fun t37 w =>
 Bs P 27 1 [(0, t37)] w fun t38 w =>
 Bt P .append #[27, 27] 27 #[t8, t38] w fun t39 w =>
 Bn P .add 3 true t9 (.int .i64 1) w fun t31 w =>
 k1 t39 t31 w)
 (Ld P 25 t6 w fun t41 w =>
 Cl P 13 #[t41, t8] w (Pk R) fun t43 w =>
 Ex t43 0 w fun t44 w =>
 Ex t43 1 w fun t45 w =>
 Ld P 25 t6 w fun t47 w =>
 Cl P 18 #[t47, t25] w (Pk R) fun t49 w =>
 Ex t49 0 w fun t50 w =>
 Ex t49 1 w fun t51 w =>
 Cl P 21 #[t50] w (Pk R) fun t54 w =>
 Ex t54 0 w fun t55 w =>
 Ex t54 1 w fun t56 w =>
 Dv P true (bn .neq 39 true t45 (.int .i64 0)) w.drew fun t58 =>
 GdP t58 false (fun k => k t51) fun t60 =>
 GdP t58 false (fun k => Dv P true (bn .neq 39 true t60 (.int .i64 0)) w.drew k) fun t61 =>
 PickP t58 (.bool true) t61 fun t62 =>
 GdP t62 false (fun k => k t56) fun t64 =>
 GdP t62 false (fun k => Dv P true (bn .neq 39 true t64 (.int .i64 0)) w.drew k) fun t65 =>
 PickP t62 (.bool true) t65 fun t66 =>
 GdP t66 false (fun k => k t44) fun t68 =>
 GdP t66 false (fun k => Dv P true (bV .len #[27] 3 #[t68]) w.drew k) fun t69 =>
 GdP t66 false (fun k => k t25) fun t70 =>
 GdP t66 false (fun k => Dv P true (bV .len #[35] 3 #[t70]) w.drew k) fun t71 =>
 GdP t66 false (fun k => Dv P true (bn .neq 3 false t69 t71) w.drew k) fun t72 =>
 PickP t66 (.bool true) t72 fun t73 =>
 GdP t73 false (fun k => k t55) fun t75 =>
 GdP t73 false (fun k => Dv P true (bV .len #[27] 3 #[t75]) w.drew k) fun t76 =>
 GdP t73 false (fun k => Dv P true (bn .neq 3 true t76 (.int .i64 4)) w.drew k) fun t77 =>
 PickP t73 (.bool true) t77 fun t78 =>
 GdP t78 false (fun k => k t55) fun t80 =>
 GdP t78 false (fun k => k t44) fun t82 =>
 Gd t78 false (fun k => Cl P 34 #[t80] w.drew (Pk R) k) w.drew fun t81 w =>
 Gd t78 false (fun k => Cl P 34 #[t82] w (Pk R) k) w fun t83 w =>
 GdP t78 false (fun k => Dv P true (bn .neq 3 false t81 t83) w k) fun t84 =>
 PickP t78 (.bool true) t84 fun t85 =>
 GdP t85 false (fun k => k t44) fun t87 =>
 GdP t85 false (fun k => Dv P true (Instr.fieldAt 25 t6 3) w k) fun t89 =>
 GdP t85 false (fun k => Dv P false (Instr.loadAt 3 t89) w k) fun t90 =>
 Gd t85 false (fun k => Cl P 34 #[t87] w (Pk R) k) w fun t88 w =>
 Kg t85 false P (Instr.loadAt 3 t89) t90 w <|
 GdP t85 false (fun k => Dv P true (bn .gtr 3 false t88 t90) w k) fun t91 =>
 PickP t85 (.bool true) t91 fun t92 =>
 If t92
 (R (.returned (.bool false)) w)
 (Lp1 (.int .i64 0) w (fun t16 w k2 =>
 Bt P .len #[35] 3 #[t25] w fun t95 w =>
 Bn P .lss 3 false t16 t95 w fun t96 w =>
 If t96
 (Al P 26 w fun t17 w =>
 Lp1 (.int .i64 0) w (fun t18 w k3 =>
 Bt P .len #[32] 3 #[t50] w fun t101 w =>
 Bn P .lss 3 false t18 t101 w fun t102 w =>
 If t102
 (Dv P true (Instr.indexAt 32 t50 t18) w.drew fun t107 =>
 Dv P true (Instr.fieldAt 67 t107 0) w.drew fun t108 =>
 Dv P false (Instr.loadAt 3 t108) w.drew fun t109 =>
 Dv P true (Instr.indexAt 35 t25 t16) w.drew fun t112 =>
 Dv P true (Instr.fieldAt 31 t112 0) w.drew fun t113 =>
 Dv P false (Instr.loadAt 3 t113) w.drew fun t114 =>
 Dv P true (bn .neq 3 false t109 t114) w.drew fun t115 =>
 If t115
 (Bn P .add 3 true t18 (.int .i64 1) w.drew fun t104 w =>
 k3 t104 w)
 (Ia P 32 t50 t18 w.drew fun t118 w =>
 Fa P 67 t118 1 w fun t119 w =>
 Ld P 3 t119 w fun t120 w =>
 Bn P .lss 3 true t120 (.int .i64 0) w fun t121 w =>
 Gd t121 false (fun k => k t50 w) w fun t123 w =>
 Gd t121 false (fun k => k t18 w) w fun t124 w =>
 Gd t121 false (fun k => Ia P 32 t123 t124 w k) w fun t125 w =>
 Gd t121 false (fun k => Fa P 67 t125 1 w k) w fun t126 w =>
 Gd t121 false (fun k => Ld P 3 t126 w k) w fun t127 w =>
 Gd t121 false (fun k => Bn P .gtr 3 true t127 (.int .i64 3) w k) w fun t128 w =>
 Pick t121 (.bool true) t128 w fun t129 w =>
 Gd t129 false (fun k => k t50 w) w fun t131 w =>
 Gd t129 false (fun k => k t18 w) w fun t132 w =>
 Gd t129 false (fun k => Ia P 32 t131 t132 w k) w fun t133 w =>
 Gd t129 false (fun k => Fa P 67 t133 2 w k) w fun t134 w =>
 Gd t129 false (fun k => Ld P 3 t134 w k) w fun t135 w =>
 Gd t129 false (fun k => Bn P .lss 3 true t135 (.int .i64 1) w k) w fun t136 w =>
 Pick t129 (.bool true) t136 w fun t137 w =>
 If t137
 (R (.returned (.bool false)) w)
 (Dv P true (Instr.indexAt 32 t50 t18) w.drew fun t140 =>
 Dv P true (Instr.fieldAt 67 t140 1) w.drew fun t141 =>
 Dv P false (Instr.loadAt 3 t141) w.drew fun t142 =>
 Dv P true (Instr.indexAt 32 t50 t18) w.drew fun t145 =>
 Dv P true (Instr.fieldAt 67 t145 1) w.drew fun t146 =>
 Dv P false (Instr.loadAt 3 t146) w.drew fun t147 =>
 Dv P true (Instr.indexAt 26 t17 t147) w.drew fun t148 =>
 Dv P false (Instr.loadAt 3 t148) w.drew fun t149 =>
 Dv P true (Instr.indexAt 32 t50 t18) w.drew fun t152 =>
 Dv P true (Instr.fieldAt 67 t152 2) w.drew fun t153 =>
 Dv P false (Instr.loadAt 3 t153) w.drew fun t154 =>
 Dv P true (bn .add 3 false t149 t154) w.drew fun t155 =>
 Dv P true (Instr.indexAt 26 t17 t142) w.drew fun t156 =>
 Sto P 3 t156 t155 w.drew fun w =>
 Bn P .add 3 true t18 (.int .i64 1) w fun t104x1 w =>
 k3 t104x1 w)))
 (Dv P true (Instr.sliceAt 26 t17 none none none) w.drew fun t157 =>
 Dv P true (Instr.indexAt 27 t44 t16) w.drew fun t161 =>
 Dv P false (Instr.loadAt 3 t161) w.drew fun t162 =>
 Cl P 34 #[t157] w.drew (Pk R) fun t158 w =>
 Ke P (Instr.loadAt 3 t161) t162 w <|
 Dv P true (bn .neq 3 false t158 t162) w fun t163 =>
 If t163
 (R (.returned (.bool false)) w)
 (Ia P 35 t25 t16 w fun t166 w =>
 Fa P 31 t166 1 w fun t167 w =>
 Ld P 3 t167 w fun t168 w =>
 Bn P .eql 3 true t168 (.int .i64 0) w fun t169 w =>
 If t169
 (Bn P .add 3 true t16 (.int .i64 1) w fun t98 w =>
 k2 t98 w)
 (Dv P true (Instr.indexAt 27 t44 t16) w.drew fun t173 =>
 Dv P false (Instr.loadAt 3 t173) w.drew fun t174 =>
 Dv P true (Instr.indexAt 35 t25 t16) w.drew fun t177 =>
 Dv P true (Instr.fieldAt 31 t177 2) w.drew fun t178 =>
 Dv P false (Instr.loadAt 28 t178) w.drew fun t179 =>
 Cl P 24 #[t174, t179] w.drew (Pk R) fun t180 w =>
 ExP t180 0 fun t181 =>
 ExP t180 1 fun t182 =>
 Bn P .neq 39 true t182 (.int .i64 0) w fun t184 w =>
 Gd t184 false (fun k => k t181 w) w fun t186 w =>
 Gd t184 false (fun k => Sc P 26 t17 none none none w k) w fun t187 w =>
 Gd t184 false (fun k => Cl P 17 #[t186, t187] w (Pk R) k) w fun t188 w =>
 Gd t184 false (fun k => Un P .not t188 w k) w fun t189 w =>
 Pick t184 (.bool true) t189 w fun t190 w =>
 If t190
 (R (.returned (.bool false)) w)
 (Bn P .add 3 true t16 (.int .i64 1) w fun t98x1 w =>
 k2 t98x1 w))))))
 (R (.returned t21) w)))))
theorem e_law26_ContractBilled {t0 t1 : Value} {w : World} {R : Ending → World → Prop} (h : s_law26_ContractBilled Tryz.prog t0 t1 w R) : Calls Tryz.prog 8 #[t0, t1] w R :=
 enter (h := (.sq .z (.sq .z (.sq .z (.sq .z (.sq .z (.sq (.sq .z (.bk (.lp [8, 9] [26, 27, 28, 29, 30, 31, 32, 33, 34, 35, 36, 37, 38, 39] (.sq (.sq .z (.cd .z .z)) (.sq (.bk .z) .z))))) (.sq .z (.sq .z (.sq .z (.sq (.sq (.dr (.pur true 0 (.pur true 1 (.pur true 2 (.pur true 3 (.pur true 4 (.pur true 5 (.pur true 6 (.pur true 7 (.pur true 8 (.pur true 9 (.pur true 10 (.pur true 11 (.pur true 12 (.pur true 13 (.pur true 14 (.pur true 15 (.pur true 16 (.pur true 17 (.pur true 18 (.pur true 19 (.pur true 20 (.pur true 21 (.pur true 22 (.pur true 23 (.pur true 25 (.eff 24 [] (.eff 26 [] (.pur true 27 (.pur true 28 (.pur true 29 (.pur true 30 (.pur true 32 (.pur false 33 (.eff 31 [33] (.pur true 34 (.pur true 35 .done))))))))))))))))))))))))))))))))))))) (.cd (.sq .z .z) .z)) (.sq (.sq .z (.bk (.lp [16] [4, 17, 18, 19, 20, 93, 94, 95, 96, 97, 98, 99, 100, 101, 102, 103, 104, 105, 106, 107, 108, 109, 110, 111, 112, 113, 114, 115, 116, 117, 118, 119, 120, 121, 122, 123, 124, 125, 126, 127, 128, 129, 130, 131, 132, 133, 134, 135, 136, 137, 138, 139, 140, 141, 142, 143, 144, 145, 146, 147, 148, 149, 150, 151, 152, 153, 154, 155, 156, 157, 158, 159, 160, 161, 162, 163, 164, 165, 166, 167, 168, 169, 170, 171, 172, 173, 174, 175, 176, 177, 178, 179, 180, 181, 182, 183, 184, 185, 186, 187, 188, 189, 190] (.sq (.sq .z (.cd .z .z)) (.sq (.bk (.sq .z (.sq (.sq .z (.bk (.lp [18] [4, 99, 100, 101, 102, 103, 104, 105, 106, 107, 108, 109, 110, 111, 112, 113, 114, 115, 116, 117, 118, 119, 120, 121, 122, 123, 124, 125, 126, 127, 128, 129, 130, 131, 132, 133, 134, 135, 136, 137, 138, 139, 140, 141, 142, 143, 144, 145, 146, 147, 148, 149, 150, 151, 152, 153, 154, 155, 156] (.sq (.sq .z (.cd .z .z)) (.sq (.bk (.sq (.sq (.dr (.pur true 0 (.pur true 1 (.pur true 2 (.pur true 3 (.pur false 4 (.pur true 5 (.pur true 6 (.pur true 7 (.pur true 8 (.pur false 9 (.pur true 10 .done)))))))))))) (.cd .z .z)) (.sq (.sq .z (.cd (.sq .z .z) .z)) (.dr (.pur true 0 (.pur true 1 (.pur true 2 (.pur true 3 (.pur false 4 (.pur true 5 (.pur true 6 (.pur true 7 (.pur true 8 (.pur false 9 (.pur true 10 (.pur false 11 (.pur true 12 (.pur true 13 (.pur true 14 (.pur true 15 (.pur false 16 (.pur true 17 (.pur true 18 (.eff 19 [] .done)))))))))))))))))))))))) .z))))) (.sq (.sq (.dr (.pur true 0 (.pur true 2 (.pur true 3 (.pur true 4 (.pur false 5 (.eff 1 [5] (.pur true 6 .done)))))))) (.cd (.sq .z .z) .z)) (.sq (.sq .z (.cd .z .z)) (.sq (.dr (.pur true 0 (.pur true 1 (.pur true 2 (.pur false 3 (.pur true 4 (.pur true 5 (.pur true 6 (.pur true 7 (.pur false 8 (.eff 9 [] (.pur true 10 (.pur true 11 (.pur true 12 (.pur true 13 (.pur true 14 .done)))))))))))))))) (.sq .z (.cd (.sq .z .z) .z)))))))) .z))))) (.sq .z .z))))))))))))) (args := [t0, t1]) Tryz.func8 (by kernel_rfl) (by kernel_rfl) (by kernel_rfl) (Eq.mp (by kernel_rfl) h)
end Go.Proofs.YtjmdnjnjepinoaaGreatDoor
