/-
  Contracts and plain lemmas. By an AI agent.
-/
import Derived.Test.YtdbcpkihokagkaaGreatDoorEng
import Derived.Test.YtdbcpkihokagkaaGreatDoorProg
set_option linter.unusedSimpArgs false
set_option linter.unusedVariables false
set_option linter.unusedSectionVars false
namespace Go.Proofs.YtdbcpkihokagkaaGreatDoor
open Go Go.Eng Go.Shelf
set_option maxRecDepth 100000
variable {t0 t1 t2 t3 t4 : Value} {w : World} {R : Ending → World → Prop}
def s_law05_UnitTextMatchesReference (P : Program) (t0 t1 t2 t3 t4 : Value) (w : World) (R : Ending → World → Prop) : Prop :=
 Bx P 27 t0 w fun t5 w =>
 Bx P 28 t1 w fun t6 w =>
 Cl P 10 #[] w (Pk R) fun t39 w =>
 Bt P .len #[9] 3 #[t2] w fun t42 w =>
 Bt P .min #[3, 3] 3 #[t42, (.int .i64 200)] w fun t43 w =>
 Sc P 9 t2 none (some t43) none w fun t44 w =>
 Ld P 28 t6 w fun t45 w =>
 Cl P 12 #[t45] w (Pk R) fun t46 w =>
 Al P 27 w fun t12 w =>
 Sto P 27 t12 t46 w fun w =>
 dL P 27 t5 w.drew fun t47 =>
 dL P 27 t12 w.drew fun t49 =>
 Cl P 11 #[t47] w.drew (Pk R) fun t48 w =>
 kLd P 27 t12 t49 w <|
 Bs P 32 2 [(0, t48), (1, t49)] w fun t50 w =>
 Dv P true (bV .len #[32] 3 #[t50]) w fun t51 =>
 Lp1 (.int .i64 0) w (fun t52 w k1 =>
 Bn P .lss 3 false t52 t51 w fun t53 w =>
 If t53
 (Ia P 32 t50 t52 w fun t54 w =>
 Ld P 27 t54 w fun t55 w =>
 Al P 27 w fun t14 w =>
 Sto P 27 t14 t55 w fun w =>
 Ld P 27 t14 w fun t57 w =>
 Cl P 27 #[t57] w (Pk R) fun t58 w =>
 Ex t58 0 w fun t59 w =>
 Ex t58 1 w fun t60 w =>
 Ld P 27 t14 w fun t62 w =>
 Cl P 28 #[t62] w (Pk R) fun t63 w =>
 Ex t63 0 w fun t64 w =>
 Ex t63 1 w fun t65 w =>
 dL P 27 t14 w.drew fun t66 =>
 dL P 27 t14 w.drew fun t68 =>
 Cl P 29 #[t66] w.drew (Pk R) fun t67 w =>
 kLd P 27 t14 t68 w <|
 Cl P 30 #[t68] w (Pk R) fun t69 w =>
 Dv P true (bn .neq 9 false t67 t69) w fun t70 =>
 GdP t70 false (fun k => k t59) fun t72 =>
 GdP t70 false (fun k => k t64) fun t73 =>
 GdP t70 false (fun k => Dv P true (bn .neq 9 false t72 t73) w k) fun t74 =>
 PickP t70 (.bool true) t74 fun t75 =>
 GdP t75 false (fun k => k t60) fun t77 =>
 GdP t75 false (fun k => k t65) fun t78 =>
 GdP t75 false (fun k => Dv P true (bn .neq 35 false t77 t78) w k) fun t79 =>
 PickP t75 (.bool true) t79 fun t80 =>
 If t80
 (R (.returned (.bool false)) w)
 (Bn P .add 3 true t52 (.int .i64 1) w fun t81 w =>
 k1 t81 w))
 (Ld P 27 t12 w fun t83 w =>
 Cl P 28 #[t83] w (Pk R) fun t84 w =>
 Ex t84 0 w fun t85 w =>
 Ex t84 1 w fun t86 w =>
 Ld P 27 t12 w fun t87 w =>
 Cl P 30 #[t87] w (Pk R) fun t88 w =>
 Bn P .neq 35 true t86 (.int .i64 0) w fun t90 w =>
 Gd t90 false (fun k => k t88 w) w fun t92 w =>
 Gd t90 false (fun k => Bt P .len #[9] 3 #[t92] w k) w fun t93 w =>
 Gd t90 false (fun k => Bn P .eql 3 true t93 (.int .i64 0) w k) w fun t94 w =>
 Pick t90 (.bool true) t94 w fun t95 w =>
 If t95
 (R (.returned (.bool false)) w)
 (Jn1 (fun k2 =>
 Bn P .lss 3 true t3 (.int .i64 0) w fun t98 w =>
 If t98
 (Bn P .add 3 true t3 (.int .i64 1) w fun t100 w =>
 Un P .neg t100 w fun t101 w =>
 k2 t101 w)
 (k2 t3 w))
 (fun t22 w =>
 Cv P 9 44 t88 w fun t103 w =>
 Bt P .len #[44] 3 #[t103] w fun t107 w =>
 Bn P .rem 3 false t22 t107 w fun t108 w =>
 Ia P 44 t103 t108 w fun t110 w =>
 Sto P 5 t110 t4 w fun w =>
 Cv P 9 44 t85 w fun t112 w =>
 Bt P .len #[44] 3 #[t112] w fun t116 w =>
 Bn P .rem 3 false t22 t116 w fun t117 w =>
 Ia P 44 t112 t117 w fun t119 w =>
 Sto P 5 t119 t4 w fun w =>
 Cv P 44 9 t103 w fun t124 w =>
 Cv P 44 9 t112 w fun t126 w =>
 Bs P 45 5 [(0, t44), (1, t88), (2, t85), (3, t124), (4, t126)] w fun t127 w =>
 Bt P .len #[45] 3 #[t127] w fun t128 w =>
 Lp1 (.int .i64 0) w (fun t129 w k3 =>
 Bn P .lss 3 false t129 t128 w fun t130 w =>
 If t130
 (Ia P 45 t127 t129 w fun t131 w =>
 Ld P 9 t131 w fun t132 w =>
 Cl P 31 #[t132] w (Pk R) fun t135 w =>
 Ex t135 0 w fun t136 w =>
 Ex t135 1 w fun t137 w =>
 Al P 27 w fun t27 w =>
 Sto P 27 t27 t136 w fun w =>
 Cl P 32 #[t132] w (Pk R) fun t140 w =>
 Ex t140 0 w fun t141 w =>
 Ex t140 1 w fun t142 w =>
 Al P 27 w fun t29 w =>
 Sto P 27 t29 t141 w fun w =>
 Ld P 27 t27 w fun t143 w =>
 Ld P 27 t29 w fun t144 w =>
 Bn P .neq 27 false t143 t144 w fun t145 w =>
 Gd t145 false (fun k => k t137 w) w fun t147 w =>
 Gd t145 false (fun k => k t142 w) w fun t148 w =>
 Gd t145 false (fun k => Bn P .neq 35 false t147 t148 w k) w fun t149 w =>
 Pick t145 (.bool true) t149 w fun t150 w =>
 If t150
 (R (.returned (.bool false)) w)
 (Bt P .len #[9] 3 #[t132] w fun t154 w =>
 Bn P .add 3 true t154 (.int .i64 1) w fun t155 w =>
 Bn P .rem 3 false t22 t155 w fun t156 w =>
 Bs P 47 3 [(0, t3), (1, (.int .i64 0)), (2, t156)] w fun t157 w =>
 Bt P .len #[47] 3 #[t157] w fun t158 w =>
 Lp1 (.int .i64 0) w (fun t159 w k4 =>
 Bn P .lss 3 false t159 t158 w fun t160 w =>
 If t160
 (Ia P 47 t157 t159 w fun t161 w =>
 Ld P 3 t161 w fun t162 w =>
 Cl P 33 #[t132, t162] w (Pk R) fun t166 w =>
 Ex t166 0 w fun t167 w =>
 Ex t166 1 w fun t168 w =>
 Ex t166 2 w fun t169 w =>
 Al P 27 w fun t33 w =>
 Sto P 27 t33 t167 w fun w =>
 Cl P 34 #[t132, t162] w (Pk R) fun t173 w =>
 Ex t173 0 w fun t174 w =>
 Ex t173 1 w fun t175 w =>
 Ex t173 2 w fun t176 w =>
 Al P 27 w fun t36 w =>
 Sto P 27 t36 t174 w fun w =>
 Ld P 27 t33 w fun t177 w =>
 Ld P 27 t36 w fun t178 w =>
 Bn P .neq 27 false t177 t178 w fun t179 w =>
 Gd t179 false (fun k => k t168 w) w fun t181 w =>
 Gd t179 false (fun k => k t175 w) w fun t182 w =>
 Gd t179 false (fun k => Bn P .neq 3 false t181 t182 w k) w fun t183 w =>
 Pick t179 (.bool true) t183 w fun t184 w =>
 Gd t184 false (fun k => k t169 w) w fun t186 w =>
 Gd t184 false (fun k => k t176 w) w fun t187 w =>
 Gd t184 false (fun k => Bn P .neq 35 false t186 t187 w k) w fun t188 w =>
 Pick t184 (.bool true) t188 w fun t189 w =>
 If t189
 (R (.returned (.bool false)) w)
 (Bn P .add 3 true t159 (.int .i64 1) w fun t190 w =>
 k4 t190 w))
 (Bn P .add 3 true t129 (.int .i64 1) w fun t191 w =>
 k3 t191 w))))
 (R (.returned t39) w))))))
theorem e_law05_UnitTextMatchesReference (h : s_law05_UnitTextMatchesReference Tryz.prog t0 t1 t2 t3 t4 w R) : Calls Tryz.prog 4 #[t0, t1, t2, t3, t4] w R :=
 en1 (.sq .z (.sq .z (.sq .z (.sq .z (.sq (.sq (.dr (.pur false 0 (.pur false 2 (.pur true 5 (.eff 1 [2] (.eff 3 [] (.pur true 4 .done))))))) (.bk (.lp [52] [10, 14, 15, 16, 17, 18, 53, 54, 55, 56, 57, 58, 59, 60, 61, 62, 63, 64, 65, 66, 67, 68, 69, 70, 71, 72, 73, 74, 75, 76, 77, 78, 79, 80, 81] (.sq .z (.sq (.cd .z .z) (.sq (.bk (.sq .z (.sq .z (.sq .z (.sq (.dr (.pur false 0 (.pur false 2 (.eff 1 [2] (.eff 3 [] (.pur true 4 (.pur true 5 (.pur true 6 (.pur true 7 (.pur true 8 (.pur true 9 (.pur true 10 (.pur true 11 (.pur true 12 (.pur true 13 (.pur true 14 .done)))))))))))))))) (.cd (.sq .z .z) .z)))))) .z)))))) (.sq .z (.sq .z (.sq (.sq .z (.cd (.sq .z .z) .z)) (.sq .z (.jn [22] [97, 98, 99, 100, 101] (.sq .z (.cd .z .z)) (.sq .z (.sq .z (.sq .z (.sq .z (.sq (.sq .z (.bk (.lp [129] [10, 26, 27, 28, 29, 30, 32, 33, 34, 35, 36, 37, 38, 130, 131, 132, 133, 134, 135, 136, 137, 138, 139, 140, 141, 142, 143, 144, 145, 146, 147, 148, 149, 150, 151, 152, 153, 154, 155, 156, 157, 158, 159, 160, 161, 162, 163, 164, 165, 166, 167, 168, 169, 170, 171, 172, 173, 174, 175, 176, 177, 178, 179, 180, 181, 182, 183, 184, 185, 186, 187, 188, 189, 190, 191] (.sq .z (.sq (.cd .z .z) (.sq (.bk (.sq .z (.sq .z (.sq .z (.sq (.sq .z (.cd (.sq .z .z) .z)) (.sq .z (.bk (.lp [159] [10, 32, 33, 34, 35, 36, 37, 38, 160, 161, 162, 163, 164, 165, 166, 167, 168, 169, 170, 171, 172, 173, 174, 175, 176, 177, 178, 179, 180, 181, 182, 183, 184, 185, 186, 187, 188, 189, 190] (.sq .z (.sq (.cd .z .z) (.sq (.bk (.sq .z (.sq .z (.sq .z (.sq .z (.cd (.sq .z .z) .z)))))) .z))))))))))) .z)))))) (.sq .z .z)))))))))))))))) [t0, t1, t2, t3, t4] Tryz.func4 (by kernel_rfl) (by kernel_rfl) h
end Go.Proofs.YtdbcpkihokagkaaGreatDoor
