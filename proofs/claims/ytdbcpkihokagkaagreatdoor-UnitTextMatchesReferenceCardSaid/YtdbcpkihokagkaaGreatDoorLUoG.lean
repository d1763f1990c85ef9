/-
  Contracts and plain lemmas. By an AI agent.
-/
import Derived.Test.YtdbcpkihokagkaaGreatDoorEng
import Derived.Test.YtdbcpkihokagkaaGreatDoorProg
set_option linter.unusedSimpArgs false
set_option linter.unusedVariables false
set_option linter.unusedSectionVars false
namespace Go.Proofs.YtdbcpkihokagkaaGreatDoor
open Go Go.Eng Go.Shelf
set_option maxRecDepth 100000
variable {t0 t1 t2 t3 : Value} {w : World} {R : Ending → World → Prop}
def s_law05_UnitReadAgain (P : Program) (t0 t1 t2 t3 : Value) (w : World) (R : Ending → World → Prop) : Prop :=
 Bx P 28 t1 w fun t5 w =>
 Cl P 10 #[] w (Pk R) fun t26 w =>
 Ld P 28 t5 w fun t27 w =>
 Cl P 12 #[t27] w (Pk R) fun t28 w =>
 Cl P 30 #[t28] w (Pk R) fun t29 w =>
 Ld P 28 t5 w fun t31 w =>
 Cl P 12 #[t31] w (Pk R) fun t32 w =>
 Cl P 28 #[t32] w (Pk R) fun t33 w =>
 Ex t33 0 w fun t34 w =>
 Ex t33 1 w fun t35 w =>
 Bt P .len #[9] 3 #[t29] w fun t37 w =>
 Bn P .eql 3 true t37 (.int .i64 0) w fun t38 w =>
 Gd t38 false (fun k => k t35 w) w fun t40 w =>
 Gd t38 false (fun k => Bn P .neq 35 true t40 (.int .i64 0) w k) w fun t41 w =>
 Pick t38 (.bool true) t41 w fun t42 w =>
 If t42
 (R (.returned (.bool false)) w)
 (Jn1 (fun k1 =>
 Bn P .lss 3 true t2 (.int .i64 0) w fun t45 w =>
 If t45
 (Bn P .add 3 true t2 (.int .i64 1) w fun t47 w =>
 Un P .neg t47 w fun t48 w =>
 k1 t48 w)
 (k1 t2 w))
 (fun t13 w =>
 Cv P 9 44 t29 w fun t50 w =>
 Bt P .len #[44] 3 #[t50] w fun t54 w =>
 Bn P .rem 3 false t13 t54 w fun t55 w =>
 Ia P 44 t50 t55 w fun t57 w =>
 Sto P 5 t57 t3 w fun w =>
 Cv P 9 44 t34 w fun t59 w =>
 Bt P .len #[44] 3 #[t59] w fun t63 w =>
 Bn P .rem 3 false t13 t63 w fun t64 w =>
 Ia P 44 t59 t64 w fun t66 w =>
 Sto P 5 t66 t3 w fun w =>
 Dv P true (bV .len #[9] 3 #[t0]) w.drew fun t69 =>
 Dv P true (bV .min #[3, 3] 3 #[t69, (.int .i64 200)]) w.drew fun t70 =>
 Dv P true (Instr.sliceAt 9 t0 none (some t70) none) w.drew fun t71 =>
 Dv P false (convert 44 9 t50) w.drew fun t73 =>
 Dv P false (convert 44 9 t59) w.drew fun t75 =>
 Bs P 45 3 [(0, t71), (1, t73), (2, t75)] w.drew fun t76 w =>
 Dv P true (bV .len #[45] 3 #[t76]) w fun t77 =>
 Lp1 (.int .i64 0) w (fun t78 w k2 =>
 Bn P .lss 3 false t78 t77 w fun t79 w =>
 If t79
 (Ia P 45 t76 t78 w fun t80 w =>
 Ld P 9 t80 w fun t81 w =>
 Cl P 31 #[t81] w (Pk R) fun t84 w =>
 Ex t84 0 w fun t85 w =>
 Ex t84 1 w fun t86 w =>
 Al P 27 w fun t18 w =>
 Sto P 27 t18 t85 w fun w =>
 Bn P .eql 35 true t86 (.int .i64 0) w fun t88 w =>
 Gd t88 true (fun k => Ld P 27 t18 w k) w fun t90 w =>
 Gd t88 true (fun k => Cl P 13 #[t90] w (Pk R) k) w fun t91 w =>
 Gd t88 true (fun k => Un P .not t91 w k) w fun t92 w =>
 Gd t88 true (fun k => k t92 w) w fun t93 w =>
 Gd t93 false (fun k => Ld P 27 t18 w k) w fun t94 w =>
 Gd t93 false (fun k => Cl P 29 #[t94] w (Pk R) k) w fun t95 w =>
 Gd t93 false (fun k => k t81 w) w fun t96 w =>
 Gd t93 false (fun k => Bn P .neq 9 false t95 t96 w k) w fun t97 w =>
 Gd t88 true (fun k => Pick t93 (.bool true) t97 w k) w fun t98 w =>
 Pick t88 t98 (.bool false) w fun t99 w =>
 Gd t99 false (fun k => k t86 w) w fun t101 w =>
 Gd t99 false (fun k => Bn P .neq 35 true t101 (.int .i64 0) w k) w fun t102 w =>
 Gd t99 false (fun k => k t102 w) w fun t103 w =>
 Gd t103 true (fun k => k t86 w) w fun t104 w =>
 Gd t103 true (fun k => Bn P .neq 35 true t104 (.int .i64 50) w k) w fun t105 w =>
 Gd t103 true (fun k => k t105 w) w fun t106 w =>
 Gd t106 false (fun k => Ld P 27 t18 w k) w fun t107 w =>
 Gd t106 false (fun k => Bd P 27 [] w k) w fun t108 w =>
 Gd t106 false (fun k => Bn P .neq 27 false t107 t108 w k) w fun t109 w =>
 Gd t103 true (fun k => Pick t106 (.bool true) t109 w k) w fun t110 w =>
 Gd t99 false (fun k => Pick t103 t110 (.bool false) w k) w fun t111 w =>
 Pick t99 (.bool true) t111 w fun t112 w =>
 If t112
 (R (.returned (.bool false)) w)
 (Bt P .len #[9] 3 #[t81] w fun t115 w =>
 Bn P .add 3 true t115 (.int .i64 1) w fun t116 w =>
 Bn P .rem 3 false t13 t116 w fun t117 w =>
 Cl P 33 #[t81, t117] w (Pk R) fun t121 w =>
 Ex t121 0 w fun t122 w =>
 Ex t121 1 w fun t123 w =>
 Ex t121 2 w fun t124 w =>
 Al P 27 w fun t21 w =>
 Sto P 27 t21 t122 w fun w =>
 Bn P .neq 35 true t124 (.int .i64 0) w fun t126 w =>
 If t126
 (Bn P .neq 35 true t124 (.int .i64 50) w fun t128 w =>
 Gd t128 false (fun k => k t123 w) w fun t130 w =>
 Gd t128 false (fun k => Bn P .neq 3 true t130 (.int .i64 0) w k) w fun t131 w =>
 Pick t128 (.bool true) t131 w fun t132 w =>
 Gd t132 false (fun k => Ld P 27 t21 w k) w fun t134 w =>
 Gd t132 false (fun k => Bd P 27 [] w k) w fun t135 w =>
 Gd t132 false (fun k => Bn P .neq 27 false t134 t135 w k) w fun t136 w =>
 Pick t132 (.bool true) t136 w fun t137 w =>
 If t137
 (R (.returned (.bool false)) w)
 (Bn P .add 3 true t78 (.int .i64 1) w fun t162 w =>
 k2 t162 w))
 (Ld P 27 t21 w fun t139 w =>
 Cl P 27 #[t139] w (Pk R) fun t140 w =>
 Ex t140 0 w fun t141 w =>
 Ex t140 1 w fun t142 w =>
 Bn P .neq 35 true t142 (.int .i64 0) w fun t144 w =>
 Gd t144 false (fun k => k t123 w) w fun t146 w =>
 Gd t144 false (fun k => k t117 w) w fun t147 w =>
 Gd t144 false (fun k => Bn P .leq 3 false t146 t147 w k) w fun t148 w =>
 Pick t144 (.bool true) t148 w fun t149 w =>
 Gd t149 false (fun k => k t123 w) w fun t151 w =>
 Gd t149 false (fun k => k t81 w) w fun t152 w =>
 Gd t149 false (fun k => Bt P .len #[9] 3 #[t152] w k) w fun t153 w =>
 Gd t149 false (fun k => Bn P .gtr 3 false t151 t153 w k) w fun t154 w =>
 Pick t149 (.bool true) t154 w fun t155 w =>
 If t155
 (R (.returned (.bool false)) w)
 (Sc P 9 t81 (some t117) (some t123) none w fun t160 w =>
 Bn P .neq 9 false t141 t160 w fun t161 w =>
 If t161
 (R (.returned (.bool false)) w)
 (Bn P .add 3 true t78 (.int .i64 1) w fun t162x1 w =>
 k2 t162x1 w)))))
 (R (.returned t26) w))))
theorem e_law05_UnitReadAgain (h : s_law05_UnitReadAgain Tryz.prog t0 t1 t2 t3 w R) : Calls Tryz.prog 9 #[t0, t1, t2, t3] w R :=
 en1 (.sq .z (.sq .z (.sq .z (.sq .z (.sq (.sq .z (.cd (.sq .z .z) .z)) (.sq .z (.jn [13] [44, 45, 46, 47, 48] (.sq .z (.cd .z .z)) (.sq .z (.sq .z (.sq .z (.sq .z (.sq (.sq (.dr (.pur true 0 (.pur true 1 (.pur true 2 (.pur true 3 (.pur true 4 (.pur true 5 (.pur false 6 (.pur true 7 (.pur false 8 (.pur true 11 (.eff 9 [] (.pur true 10 .done))))))))))))) (.bk (.lp [78] [8, 17, 18, 19, 20, 21, 22, 23, 24, 25, 79, 80, 81, 82, 83, 84, 85, 86, 87, 88, 89, 90, 91, 92, 93, 94, 95, 96, 97, 98, 99, 100, 101, 102, 103, 104, 105, 106, 107, 108, 109, 110, 111, 112, 113, 114, 115, 116, 117, 118, 119, 120, 121, 122, 123, 124, 125, 126, 127, 128, 129, 130, 131, 132, 133, 134, 135, 136, 137, 138, 139, 140, 141, 142, 143, 144, 145, 146, 147, 148, 149, 150, 151, 152, 153, 154, 155, 156, 157, 158, 159, 160, 161, 162] (.sq .z (.sq (.cd .z .z) (.sq (.bk (.sq .z (.sq .z (.sq (.sq .z (.cd (.sq .z .z) .z)) (.sq .z (.sq .z (.sq (.sq .z (.cd (.sq (.sq .z (.cd (.sq .z .z) .z)) .z) .z)) (.sq .z (.sq (.sq .z (.cd (.sq .z .z) .z)) (.sq .z (.cd (.sq .z .z) .z))))))))))) .z)))))) (.sq .z .z))))))))))))) [t0, t1, t2, t3] Tryz.func9 (by kernel_rfl) (by kernel_rfl) h
end Go.Proofs.YtdbcpkihokagkaaGreatDoor
