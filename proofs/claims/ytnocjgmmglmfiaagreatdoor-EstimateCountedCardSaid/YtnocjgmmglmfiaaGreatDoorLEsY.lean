/-
  Contracts and plain lemmas. By an AI agent.
-/
import Derived.Test.YtnocjgmmglmfiaaGreatDoorEng
import Derived.Test.YtnocjgmmglmfiaaGreatDoorProg
set_option linter.unusedSimpArgs false
set_option linter.unusedVariables false
set_option linter.unusedSectionVars false
namespace Go.Proofs.YtnocjgmmglmfiaaGreatDoor
open Go Go.Eng Go.Shelf
set_option maxRecDepth 100000
set_option linter.unusedVariables false
def s_law16_EstimateExact (P : Program) (t0 t1 : Value) (w : World) (R : Ending → World → Prop) : Prop :=
 Cl P 11 #[] w (Pk R) fun t25 w =>
 Un P .not t25 w fun t26 w =>
 If t26
 (R (.returned (.bool false)) w)
 (Cl P 12 #[t0, (.int .i64 12)] w (Pk R) fun t29 w =>
 Ex t29 0 w fun t30 w =>
 Ex t29 1 w fun t31 w =>
 Lp2 (.slice none 0 0) (.int .i64 0) w (fun t7 t8 w k1 =>
 Bt P .len #[23] 3 #[t30] w fun t34 w =>
 Bn P .lss 3 false t8 t34 w fun t35 w =>
 If t35
 (Cl P 22 #[(.int .i64 1), (.int .i64 1)] w (Pk R) fun t39 w =>
 Bs P 23 1 [(0, t39)] w fun t40 w =>
 Bt P .append #[23, 23] 23 #[t7, t40] w fun t41 w =>
 Bn P .add 3 true t8 (.int .i64 1) w fun t37 w =>
 k1 t41 t37 w)
 (Cl P 14 #[t30, t7] w (Pk R) fun t45 w =>
 Ex t45 0 w fun t46 w =>
 Ex t45 1 w fun t47 w =>
 Ex t45 2 w fun t48 w =>
 Al P 30 w fun t9 w =>
 Al P 30 w fun t10 w =>
 Sto P 30 t9 t46 w fun w =>
 Sto P 30 t10 t47 w fun w =>
 Cl P 16 #[t30, t7] w (Pk R) fun t52 w =>
 Ex t52 0 w fun t53 w =>
 Ex t52 1 w fun t54 w =>
 Al P 30 w fun t12 w =>
 Sto P 30 t12 t53 w fun w =>
 Cl P 20 #[t30] w (Pk R) fun t57 w =>
 Ex t57 0 w fun t58 w =>
 Ex t57 1 w fun t59 w =>
 Al P 30 w fun t14 w =>
 Sto P 30 t14 t58 w fun w =>
 Dv P true (bn .neq 31 true t48 (.int .i64 0)) w.drew fun t61 =>
 GdP t61 false (fun k => k t54) fun t63 =>
 GdP t61 false (fun k => Dv P true (bn .neq 31 true t63 (.int .i64 0)) w.drew k) fun t64 =>
 PickP t61 (.bool true) t64 fun t65 =>
 GdP t65 false (fun k => k t59) fun t67 =>
 GdP t65 false (fun k => Dv P true (bn .neq 31 true t67 (.int .i64 0)) w.drew k) fun t68 =>
 PickP t65 (.bool true) t68 fun t69 =>
 GdP t69 false (fun k => Dv P false (Instr.loadAt 30 t9) w.drew k) fun t71 =>
 GdP t69 false (fun k => Dv P false (Instr.loadAt 30 t14) w.drew k) fun t72 =>
 GdP t69 false (fun k => Dv P false (bn .neq 30 false t71 t72) w.drew k) fun t73 =>
 PickP t69 (.bool true) t73 fun t74 =>
 GdP t74 false (fun k => Dv P false (Instr.loadAt 30 t10) w.drew k) fun t76 =>
 Gd t74 false (fun k => Cl P 22 #[(.int .i64 0), (.int .i64 1)] w.drew (Pk R) k) w.drew fun t77 w =>
 Kg t74 false P (Instr.loadAt 30 t10) t76 w <|
 GdP t74 false (fun k => Dv P false (bn .neq 30 false t76 t77) w k) fun t78 =>
 PickP t74 (.bool true) t78 fun t79 =>
 GdP t79 false (fun k => Dv P false (Instr.loadAt 30 t12) w k) fun t81 =>
 Gd t79 false (fun k => Cl P 22 #[(.int .i64 0), (.int .i64 1)] w (Pk R) k) w fun t82 w =>
 Kg t79 false P (Instr.loadAt 30 t12) t81 w <|
 GdP t79 false (fun k => Dv P false (bn .neq 30 false t81 t82) w k) fun t83 =>
 PickP t79 (.bool true) t83 fun t84 =>
 If t84
 (R (.returned (.bool false)) w)
 (Bt P .len #[23] 3 #[t30] w fun t87 w =>
 Bn P .add 3 true t87 (.int .i64 1) w fun t88 w =>
 Cl P 23 #[t1, t88] w (Pk R) fun t89 w =>
 Dv P true (Instr.sliceAt 23 t30 none (some t89) none) w.drew fun t93 =>
 Dv P true (Instr.sliceAt 23 t30 (some t89) none none) w.drew fun t100 =>
 Bs P 23 0 [] w.drew fun t90 w =>
 Bt P .append #[23, 23] 23 #[t90, t93] w fun t94 w =>
 Cl P 22 #[(.int .i64 0), (.int .i64 1)] w (Pk R) fun t95 w =>
 Bs P 23 1 [(0, t95)] w fun t96 w =>
 Bt P .append #[23, 23] 23 #[t94, t96] w fun t97 w =>
 Bt P .append #[23, 23] 23 #[t97, t100] w fun t101 w =>
 Dv P true (Instr.sliceAt 23 t31 none (some t89) none) w.drew fun t105 =>
 Dv P true (Instr.sliceAt 23 t31 (some t89) none none) w.drew fun t112 =>
 Bs P 23 0 [] w.drew fun t102 w =>
 Bt P .append #[23, 23] 23 #[t102, t105] w fun t106 w =>
 Cl P 22 #[(.int .i64 1), (.int .i64 3)] w (Pk R) fun t107 w =>
 Bs P 23 1 [(0, t107)] w fun t108 w =>
 Bt P .append #[23, 23] 23 #[t106, t108] w fun t109 w =>
 Bt P .append #[23, 23] 23 #[t109, t112] w fun t113 w =>
 Cl P 14 #[t30, t31] w (Pk R) fun t117 w =>
 Ex t117 0 w fun t118 w =>
 Ex t117 1 w fun t119 w =>
 Ex t117 2 w fun t120 w =>
 Al P 30 w fun t19 w =>
 Al P 30 w fun t20 w =>
 Sto P 30 t19 t118 w fun w =>
 Sto P 30 t20 t119 w fun w =>
 Cl P 14 #[t101, t113] w (Pk R) fun t124 w =>
 Ex t124 0 w fun t125 w =>
 Ex t124 1 w fun t126 w =>
 Ex t124 2 w fun t127 w =>
 Al P 30 w fun t22 w =>
 Al P 30 w fun t23 w =>
 Sto P 30 t22 t125 w fun w =>
 Sto P 30 t23 t126 w fun w =>
 Bn P .eql 31 true t120 (.int .i64 0) w fun t129 w =>
 Gd t129 true (fun k => k t127 w) w fun t131 w =>
 Gd t129 true (fun k => Bn P .eql 31 true t131 (.int .i64 0) w k) w fun t132 w =>
 Pick t129 t132 (.bool false) w fun t133 w =>
 Gd t133 true (fun k => Ld P 30 t19 w k) w fun t135 w =>
 Gd t133 true (fun k => Ld P 30 t22 w k) w fun t136 w =>
 Gd t133 true (fun k => Bn P .eql 30 false t135 t136 w k) w fun t137 w =>
 Pick t133 t137 (.bool false) w fun t138 w =>
 Gd t138 true (fun k => Ld P 30 t20 w k) w fun t140 w =>
 Gd t138 true (fun k => Ld P 30 t23 w k) w fun t141 w =>
 Gd t138 true (fun k => Bn P .eql 30 false t140 t141 w k) w fun t142 w =>
 Pick t138 t142 (.bool false) w fun t143 w =>
 R (.returned t143) w))))
theorem e_law16_EstimateExact {t0 t1 : Value} {w : World} {R : Ending → World → Prop} (h : s_law16_EstimateExact Tryz.prog t0 t1 w R) : Calls Tryz.prog 8 #[t0, t1] w R :=
 enter (h := (.sq .z (.sq (.sq .z (.cd (.sq .z .z) .z)) (.sq .z (.sq .z (.sq (.sq .z (.bk (.lp [7, 8] [32, 33, 34, 35, 36, 37, 38, 39, 40, 41] (.sq (.sq .z (.cd .z .z)) (.sq (.bk .z) .z))))) (.sq .z (.sq .z (.sq .z (.sq (.sq (.dr (.pur true 0 (.pur true 1 (.pur true 2 (.pur true 3 (.pur true 4 (.pur true 5 (.pur true 6 (.pur true 7 (.pur true 8 (.pur true 9 (.pur true 10 (.pur false 11 (.pur false 12 (.pur false 13 (.pur true 14 (.pur true 15 (.pur false 16 (.eff 17 [16] (.pur false 18 (.pur true 19 (.pur true 20 (.pur false 21 (.eff 22 [21] (.pur false 23 (.pur true 24 .done)))))))))))))))))))))))))) (.cd (.sq .z .z) .z)) (.sq .z (.sq (.dr (.pur true 1 (.pur true 2 (.pur true 3 (.pur true 8 (.pur true 9 (.pur true 10 (.eff 0 [] (.eff 4 [] (.eff 5 [] (.eff 6 [] (.eff 7 [] (.eff 11 [] (.pur true 12 .done)))))))))))))) (.sq (.dr (.pur true 1 (.pur true 2 (.pur true 3 (.pur true 8 (.pur true 9 (.pur true 10 (.eff 0 [] (.eff 4 [] (.eff 5 [] (.eff 6 [] (.eff 7 [] (.eff 11 [] (.pur true 12 .done)))))))))))))) (.sq .z (.sq .z (.sq .z .z)))))))))))))))) (args := [t0, t1]) Tryz.func8 (by kernel_rfl) (by kernel_rfl) (by kernel_rfl) (Eq.mp (by kernel_rfl) h)
end Go.Proofs.YtnocjgmmglmfiaaGreatDoor
