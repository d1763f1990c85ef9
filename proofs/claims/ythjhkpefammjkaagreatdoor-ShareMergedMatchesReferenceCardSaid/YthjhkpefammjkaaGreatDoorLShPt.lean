/-
  Contracts and plain lemmas. By an AI agent.
-/
import Derived.Test.YthjhkpefammjkaaGreatDoorEng
import Derived.Test.YthjhkpefammjkaaGreatDoorProg
set_option linter.unusedSimpArgs false
set_option linter.unusedVariables false
set_option linter.unusedSectionVars false
namespace Go.Proofs.YthjhkpefammjkaaGreatDoor
open Go Go.Eng Go.Shelf
set_option maxRecDepth 100000
variable {t0 t1 t2 t3 t4 t5 : Value} {w : World} {R : Ending → World → Prop}
def s_law25_ShareMatchesReference (P : Program) (t0 t1 t2 t3 t4 t5 : Value) (w : World) (R : Ending → World → Prop) : Prop :=
 Cl P 11 #[] w (Pk R) fun t32 w =>
 Un P .not t32 w fun t33 w =>
 If t33
 (R (.returned (.bool false)) w)
 (Dv P true (bV .len #[22] 3 #[t3]) w.drew fun t40 =>
 Dv P true (bV .min #[3, 3] 3 #[t40, (.int .i64 65)]) w.drew fun t41 =>
 Dv P true (Instr.sliceAt 22 t3 none (some t41) none) w.drew fun t42 =>
 Cl P 12 #[t0, t1, t2] w.drew (Pk R) fun t37 w =>
 Bs P 25 2 [(0, t37), (1, t42)] w fun t43 w =>
 Dv P true (bV .len #[25] 3 #[t43]) w fun t44 =>
 Lp1 (.int .i64 0) w (fun t45 w k1 =>
 Bn P .lss 3 false t45 t44 w fun t46 w =>
 If t46
 (Ia P 25 t43 t45 w fun t47 w =>
 Ld P 22 t47 w fun t48 w =>
 Cl P 13 #[t48] w (Pk R) fun t51 w =>
 Ex t51 0 w fun t52 w =>
 Ex t51 1 w fun t53 w =>
 Cl P 14 #[t48] w (Pk R) fun t56 w =>
 Ex t56 0 w fun t57 w =>
 Ex t56 1 w fun t58 w =>
 Cl P 15 #[t48] w (Pk R) fun t61 w =>
 Ex t61 0 w fun t62 w =>
 Ex t61 1 w fun t63 w =>
 Cl P 16 #[t48] w (Pk R) fun t66 w =>
 Ex t66 0 w fun t67 w =>
 Ex t66 1 w fun t68 w =>
 Cl P 17 #[t48] w (Pk R) fun t71 w =>
 Ex t71 0 w fun t72 w =>
 Ex t71 1 w fun t73 w =>
 Ex t71 2 w fun t74 w =>
 Cl P 18 #[t48] w (Pk R) fun t77 w =>
 Ex t77 0 w fun t78 w =>
 Ex t77 1 w fun t79 w =>
 Ex t77 2 w fun t80 w =>
 Bn P .neq 27 false t53 t58 w fun t83 w =>
 Gd t83 false (fun k => k t63 w) w fun t85 w =>
 Gd t83 false (fun k => k t68 w) w fun t86 w =>
 Gd t83 false (fun k => Bn P .neq 27 false t85 t86 w k) w fun t87 w =>
 Pick t83 (.bool true) t87 w fun t88 w =>
 Gd t88 false (fun k => k t74 w) w fun t90 w =>
 Gd t88 false (fun k => k t80 w) w fun t91 w =>
 Gd t88 false (fun k => Bn P .neq 27 false t90 t91 w k) w fun t92 w =>
 Pick t88 (.bool true) t92 w fun t93 w =>
 Gd t93 false (fun k => k t52 w) w fun t95 w =>
 Gd t93 false (fun k => k t57 w) w fun t96 w =>
 Gd t93 false (fun k => Cl P 19 #[t95, t96] w (Pk R) k) w fun t97 w =>
 Gd t93 false (fun k => Un P .not t97 w k) w fun t98 w =>
 Pick t93 (.bool true) t98 w fun t99 w =>
 Gd t99 false (fun k => k t62 w) w fun t101 w =>
 Gd t99 false (fun k => k t67 w) w fun t102 w =>
 Gd t99 false (fun k => Cl P 20 #[t101, t102] w (Pk R) k) w fun t103 w =>
 Gd t99 false (fun k => Un P .not t103 w k) w fun t104 w =>
 Pick t99 (.bool true) t104 w fun t105 w =>
 Gd t105 false (fun k => k t72 w) w fun t107 w =>
 Gd t105 false (fun k => k t78 w) w fun t108 w =>
 Gd t105 false (fun k => Cl P 21 #[t107, t108] w (Pk R) k) w fun t109 w =>
 Gd t105 false (fun k => Un P .not t109 w k) w fun t110 w =>
 Pick t105 (.bool true) t110 w fun t111 w =>
 Gd t111 false (fun k => k t73 w) w fun t113 w =>
 Gd t111 false (fun k => k t79 w) w fun t114 w =>
 Gd t111 false (fun k => Cl P 21 #[t113, t114] w (Pk R) k) w fun t115 w =>
 Gd t111 false (fun k => Un P .not t115 w k) w fun t116 w =>
 Pick t111 (.bool true) t116 w fun t117 w =>
 If t117
 (R (.returned (.bool false)) w)
 (Bs P 26 0 [] w fun t118 w =>
 Bt P .append #[26, 26] 26 #[t118, t57] w fun t120 w =>
 Jn0 (fun k2 =>
 Bt P .len #[26] 3 #[t120] w fun t122 w =>
 Bn P .gtr 3 true t122 (.int .i64 0) w fun t123 w =>
 If t123
 (Bt P .len #[26] 3 #[t120] w fun t127 w =>
 Cl P 23 #[t4, t127] w (Pk R) fun t128 w =>
 Cl P 23 #[t5, (.int .i64 40)] w (Pk R) fun t130 w =>
 Bn P .quo 3 true t5 (.int .i64 40) w fun t132 w =>
 Cl P 23 #[t132, (.int .i64 6)] w (Pk R) fun t133 w =>
 Bn P .add 3 true (.int .i64 1) t133 w fun t134 w =>
 Cl P 22 #[t130, t134] w (Pk R) fun t135 w =>
 Ia P 26 t120 t128 w fun t136 w =>
 Sto P 38 t136 t135 w fun w =>
 k2 w)
 (k2 w))
 (fun w =>
 Bs P 41 3 [(0, t57), (1, t120), (2, (.slice none 0 0))] w fun t139 w =>
 Bt P .len #[41] 3 #[t139] w fun t140 w =>
 Lp1 (.int .i64 0) w (fun t141 w k3 =>
 Bn P .lss 3 false t141 t140 w fun t142 w =>
 If t142
 (Ia P 41 t139 t141 w fun t143 w =>
 Ld P 26 t143 w fun t144 w =>
 Cl P 24 #[t48, t144] w (Pk R) fun t147 w =>
 Cl P 25 #[t48, t144] w (Pk R) fun t150 w =>
 Bn P .neq 4 false t147 t150 w fun t151 w =>
 If t151
 (R (.returned (.bool false)) w)
 (Bn P .add 3 true t141 (.int .i64 1) w fun t152 w =>
 k3 t152 w))
 (Bn P .add 3 true t45 (.int .i64 1) w fun t153 w =>
 k1 t153 w)))))
 (R (.returned (.bool true)) w)))
theorem e_law25_ShareMatchesReference (h : s_law25_ShareMatchesReference Tryz.prog t0 t1 t2 t3 t4 t5 w R) : Calls Tryz.prog 3 #[t0, t1, t2, t3, t4, t5] w R :=
 en1 (.sq .z (.sq (.sq .z (.cd (.sq .z .z) .z)) (.sq (.sq (.dr (.pur true 0 (.pur true 1 (.pur true 2 (.pur true 4 (.pur true 5 (.pur true 6 (.pur true 7 (.pur true 8 (.pur true 11 (.eff 3 [] (.eff 9 [] (.pur true 10 .done))))))))))))) (.bk (.lp [45] [12, 14, 15, 16, 17, 18, 19, 20, 21, 22, 23, 24, 25, 26, 27, 28, 29, 31, 46, 47, 48, 49, 50, 51, 52, 53, 54, 55, 56, 57, 58, 59, 60, 61, 62, 63, 64, 65, 66, 67, 68, 69, 70, 71, 72, 73, 74, 75, 76, 77, 78, 79, 80, 81, 82, 83, 84, 85, 86, 87, 88, 89, 90, 91, 92, 93, 94, 95, 96, 97, 98, 99, 100, 101, 102, 103, 104, 105, 106, 107, 108, 109, 110, 111, 112, 113, 114, 115, 116, 117, 118, 119, 120, 121, 122, 123, 124, 125, 126, 127, 128, 129, 130, 131, 132, 133, 134, 135, 136, 137, 138, 139, 140, 141, 142, 143, 144, 145, 146, 147, 148, 149, 150, 151, 152, 153] (.sq .z (.sq (.cd .z .z) (.sq (.bk (.sq .z (.sq .z (.sq .z (.sq .z (.sq .z (.sq .z (.sq .z (.sq (.sq .z (.cd (.sq .z .z) .z)) (.sq .z (.jn [] [121, 122, 123, 124, 125, 126, 127, 128, 129, 130, 131, 132, 133, 134, 135, 136] (.sq .z (.cd .z .z)) (.sq .z (.bk (.lp [141] [12, 31, 142, 143, 144, 145, 146, 147, 148, 149, 150, 151, 152] (.sq .z (.sq (.cd .z .z) (.sq (.bk (.sq .z (.sq .z (.cd (.sq .z .z) .z)))) .z))))))))))))))))) .z)))))) (.sq .z .z)))) [t0, t1, t2, t3, t4, t5] Tryz.func3 (by kernel_rfl) (by kernel_rfl) h
end Go.Proofs.YthjhkpefammjkaaGreatDoor
