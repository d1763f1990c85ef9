/-
  Formulas of functions. By an AI agent.
-/
import Derived.Test.YtnocjgmmglmfiaaGreatDoorEng
import Derived.Test.YtnocjgmmglmfiaaGreatDoorProg
set_option linter.unusedSimpArgs false
set_option linter.unusedVariables false
set_option linter.unusedSectionVars false
namespace Go.Proofs.YtnocjgmmglmfiaaGreatDoor
open Go Go.Eng Go.Shelf
set_option maxRecDepth 100000
set_option linter.unusedVariables false
def s_law16_sane (P : Program) (w : World) (R : Ending → World → Prop) : Prop :=
 Cl P 22 #[(.int .i64 3), (.int .i64 1)] w (Pk R) fun t21 w =>
 Cl P 22 #[(.int .i64 5), (.int .i64 1)] w (Pk R) fun t22 w =>
 Bs P 23 2 [(0, t21), (1, t22)] w fun t23 w =>
 Cl P 22 #[(.int .i64 1), (.int .i64 2)] w (Pk R) fun t24 w =>
 Cl P 22 #[(.int .i64 1), (.int .i64 4)] w (Pk R) fun t25 w =>
 Bs P 23 2 [(0, t24), (1, t25)] w fun t26 w =>
 Cl P 14 #[t23, t26] w (Pk R) fun t30 w =>
 Ex t30 0 w fun t31 w =>
 Ex t30 1 w fun t32 w =>
 Ex t30 2 w fun t33 w =>
 Al P 30 w fun t3 w =>
 Al P 30 w fun t4 w =>
 Sto P 30 t3 t31 w fun w =>
 Sto P 30 t4 t32 w fun w =>
 Cl P 16 #[t23, t26] w (Pk R) fun t37 w =>
 Ex t37 0 w fun t38 w =>
 Ex t37 1 w fun t39 w =>
 Al P 30 w fun t6 w =>
 Sto P 30 t6 t38 w fun w =>
 Cl P 18 #[t23, t26] w (Pk R) fun t43 w =>
 Ex t43 0 w fun t44 w =>
 Ex t43 1 w fun t45 w =>
 Ex t43 2 w fun t46 w =>
 Ex t43 3 w fun t47 w =>
 Al P 30 w fun t8 w =>
 Al P 30 w fun t9 w =>
 Al P 30 w fun t10 w =>
 Sto P 30 t8 t44 w fun w =>
 Sto P 30 t9 t45 w fun w =>
 Sto P 30 t10 t46 w fun w =>
 Cl P 14 #[(.slice none 0 0), (.slice none 0 0)] w (Pk R) fun t49 w =>
 Ex t49 0 w fun t50 w =>
 Ex t49 1 w fun t51 w =>
 Ex t49 2 w fun t52 w =>
 Al P 30 w fun t12 w =>
 Al P 30 w fun t13 w =>
 Sto P 30 t12 t50 w fun w =>
 Sto P 30 t13 t51 w fun w =>
 Jn1 (fun k1 =>
 Dv P true (Instr.sliceAt 23 t23 none (some (.int .i64 1)) none) w.drew fun t55 =>
 (Cl P 22 #[(.int .i64 0), (.int .i64 1)] w.drew (Pk R) fun t56 w =>
 (Bs P 23 1 [(0, t56)] w fun t57 w =>
 (Cl P 14 #[t55, t57] w (Pk R) fun t58 w =>
 ExP t58 0 fun t59 =>
 ExP t58 1 fun t60 =>
 ExP t58 2 fun t61 =>
 (Al P 30 w fun t15 w =>
 Al P 30 w fun t16 w =>
 Sto P 30 t15 t59 w fun w =>
 Sto P 30 t16 t60 w fun w =>
 k1 t61 w) ∧
 (Al P 30 w fun t16x1 w =>
 Al P 30 w fun t15x1 w =>
 Sto P 30 t15x1 t59 w fun w =>
 Sto P 30 t16x1 t60 w fun w =>
 k1 t61 w)) ∧
 ((Al P 30 w fun t15x2 w =>
 (Cl P 14 #[t55, t57] w (Pk R) fun t58x1 w =>
 ExP t58x1 0 fun t59x1 =>
 ExP t58x1 1 fun t60x1 =>
 ExP t58x1 2 fun t61x1 =>
 Al P 30 w fun t16x2 w =>
 Sto P 30 t15x2 t59x1 w fun w =>
 Sto P 30 t16x2 t60x1 w fun w =>
 k1 t61x1 w) ∧
 (Al P 30 w fun t16x3 w =>
 Cl P 14 #[t55, t57] w (Pk R) fun t58x2 w =>
 ExP t58x2 0 fun t59x2 =>
 ExP t58x2 1 fun t60x2 =>
 ExP t58x2 2 fun t61x2 =>
 Sto P 30 t15x2 t59x2 w fun w =>
 Sto P 30 t16x3 t60x2 w fun w =>
 k1 t61x2 w)) ∧
 (Al P 30 w fun t16x4 w =>
 (Cl P 14 #[t55, t57] w (Pk R) fun t58x3 w =>
 ExP t58x3 0 fun t59x3 =>
 ExP t58x3 1 fun t60x3 =>
 ExP t58x3 2 fun t61x3 =>
 Al P 30 w fun t15x3 w =>
 Sto P 30 t15x3 t59x3 w fun w =>
 Sto P 30 t16x4 t60x3 w fun w =>
 k1 t61x3 w) ∧
 (Al P 30 w fun t15x4 w =>
 Cl P 14 #[t55, t57] w (Pk R) fun t58x4 w =>
 ExP t58x4 0 fun t59x4 =>
 ExP t58x4 1 fun t60x4 =>
 ExP t58x4 2 fun t61x4 =>
 Sto P 30 t15x4 t59x4 w fun w =>
 Sto P 30 t16x4 t60x4 w fun w =>
 k1 t61x4 w)))) ∧
 ((Al P 30 w fun t15x5 w =>
 (Bs P 23 1 [(0, t56)] w fun t57x1 w =>
 (Cl P 14 #[t55, t57x1] w (Pk R) fun t58x5 w =>
 ExP t58x5 0 fun t59x5 =>
 ExP t58x5 1 fun t60x5 =>
 ExP t58x5 2 fun t61x5 =>
 Al P 30 w fun t16x5 w =>
 Sto P 30 t15x5 t59x5 w fun w =>
 Sto P 30 t16x5 t60x5 w fun w =>
 k1 t61x5 w) ∧
 (Al P 30 w fun t16x6 w =>
 Cl P 14 #[t55, t57x1] w (Pk R) fun t58x6 w =>
 ExP t58x6 0 fun t59x6 =>
 ExP t58x6 1 fun t60x6 =>
 ExP t58x6 2 fun t61x6 =>
 Sto P 30 t15x5 t59x6 w fun w =>
 Sto P 30 t16x6 t60x6 w fun w =>
 k1 t61x6 w)) ∧
 (Al P 30 w fun t16x7 w =>
 Bs P 23 1 [(0, t56)] w fun t57x2 w =>
 Cl P 14 #[t55, t57x2] w (Pk R) fun t58x7 w =>
 ExP t58x7 0 fun t59x7 =>
 ExP t58x7 1 fun t60x7 =>
 ExP t58x7 2 fun t61x7 =>
 Sto P 30 t15x5 t59x7 w fun w =>
 Sto P 30 t16x7 t60x7 w fun w =>
 k1 t61x7 w)) ∧
 (Al P 30 w fun t16x8 w =>
 (Bs P 23 1 [(0, t56)] w fun t57x3 w =>
 (Cl P 14 #[t55, t57x3] w (Pk R) fun t58x8 w =>
 ExP t58x8 0 fun t59x8 =>
 ExP t58x8 1 fun t60x8 =>
 ExP t58x8 2 fun t61x8 =>
 Al P 30 w fun t15x6 w =>
 Sto P 30 t15x6 t59x8 w fun w =>
 Sto P 30 t16x8 t60x8 w fun w =>
 k1 t61x8 w) ∧
 (Al P 30 w fun t15x7 w =>
 Cl P 14 #[t55, t57x3] w (Pk R) fun t58x9 w =>
 ExP t58x9 0 fun t59x9 =>
 ExP t58x9 1 fun t60x9 =>
 ExP t58x9 2 fun t61x9 =>
 Sto P 30 t15x7 t59x9 w fun w =>
 Sto P 30 t16x8 t60x9 w fun w =>
 k1 t61x9 w)) ∧
 (Al P 30 w fun t15x8 w =>
 Bs P 23 1 [(0, t56)] w fun t57x4 w =>
 Cl P 14 #[t55, t57x4] w (Pk R) fun t58x10 w =>
 ExP t58x10 0 fun t59x10 =>
 ExP t58x10 1 fun t60x10 =>
 ExP t58x10 2 fun t61x10 =>
 Sto P 30 t15x8 t59x10 w fun w =>
 Sto P 30 t16x8 t60x10 w fun w =>
 k1 t61x10 w)))) ∧
 ((Al P 30 w.drew fun t15x9 w =>
 (Cl P 22 #[(.int .i64 0), (.int .i64 1)] w (Pk R) fun t56x1 w =>
 (Bs P 23 1 [(0, t56x1)] w fun t57x5 w =>
 (Cl P 14 #[t55, t57x5] w (Pk R) fun t58x11 w =>
 ExP t58x11 0 fun t59x11 =>
 ExP t58x11 1 fun t60x11 =>
 ExP t58x11 2 fun t61x11 =>
 Al P 30 w fun t16x9 w =>
 Sto P 30 t15x9 t59x11 w fun w =>
 Sto P 30 t16x9 t60x11 w fun w =>
 k1 t61x11 w) ∧
 (Al P 30 w fun t16x10 w =>
 Cl P 14 #[t55, t57x5] w (Pk R) fun t58x12 w =>
 ExP t58x12 0 fun t59x12 =>
 ExP t58x12 1 fun t60x12 =>
 ExP t58x12 2 fun t61x12 =>
 Sto P 30 t15x9 t59x12 w fun w =>
 Sto P 30 t16x10 t60x12 w fun w =>
 k1 t61x12 w)) ∧
 (Al P 30 w fun t16x11 w =>
 Bs P 23 1 [(0, t56x1)] w fun t57x6 w =>
 Cl P 14 #[t55, t57x6] w (Pk R) fun t58x13 w =>
 ExP t58x13 0 fun t59x13 =>
 ExP t58x13 1 fun t60x13 =>
 ExP t58x13 2 fun t61x13 =>
 Sto P 30 t15x9 t59x13 w fun w =>
 Sto P 30 t16x11 t60x13 w fun w =>
 k1 t61x13 w)) ∧
 (Al P 30 w fun t16x12 w =>
 Cl P 22 #[(.int .i64 0), (.int .i64 1)] w (Pk R) fun t56x2 w =>
 Bs P 23 1 [(0, t56x2)] w fun t57x7 w =>
 Cl P 14 #[t55, t57x7] w (Pk R) fun t58x14 w =>
 ExP t58x14 0 fun t59x14 =>
 ExP t58x14 1 fun t60x14 =>
 ExP t58x14 2 fun t61x14 =>
 Sto P 30 t15x9 t59x14 w fun w =>
 Sto P 30 t16x12 t60x14 w fun w =>
 k1 t61x14 w)) ∧
 (Al P 30 w.drew fun t16x13 w =>
 (Cl P 22 #[(.int .i64 0), (.int .i64 1)] w (Pk R) fun t56x3 w =>
 (Bs P 23 1 [(0, t56x3)] w fun t57x8 w =>
 (Cl P 14 #[t55, t57x8] w (Pk R) fun t58x15 w =>
 ExP t58x15 0 fun t59x15 =>
 ExP t58x15 1 fun t60x15 =>
 ExP t58x15 2 fun t61x15 =>
 Al P 30 w fun t15x10 w =>
 Sto P 30 t15x10 t59x15 w fun w =>
 Sto P 30 t16x13 t60x15 w fun w =>
 k1 t61x15 w) ∧
 (Al P 30 w fun t15x11 w =>
 Cl P 14 #[t55, t57x8] w (Pk R) fun t58x16 w =>
 ExP t58x16 0 fun t59x16 =>
 ExP t58x16 1 fun t60x16 =>
 ExP t58x16 2 fun t61x16 =>
 Sto P 30 t15x11 t59x16 w fun w =>
 Sto P 30 t16x13 t60x16 w fun w =>
 k1 t61x16 w)) ∧
 (Al P 30 w fun t15x12 w =>
 Bs P 23 1 [(0, t56x3)] w fun t57x9 w =>
 Cl P 14 #[t55, t57x9] w (Pk R) fun t58x17 w =>
 ExP t58x17 0 fun t59x17 =>
 ExP t58x17 1 fun t60x17 =>
 ExP t58x17 2 fun t61x17 =>
 Sto P 30 t15x12 t59x17 w fun w =>
 Sto P 30 t16x13 t60x17 w fun w =>
 k1 t61x17 w)) ∧
 (Al P 30 w fun t15x13 w =>
 Cl P 22 #[(.int .i64 0), (.int .i64 1)] w (Pk R) fun t56x4 w =>
 Bs P 23 1 [(0, t56x4)] w fun t57x10 w =>
 Cl P 14 #[t55, t57x10] w (Pk R) fun t58x18 w =>
 ExP t58x18 0 fun t59x18 =>
 ExP t58x18 1 fun t60x18 =>
 ExP t58x18 2 fun t61x18 =>
 Sto P 30 t15x13 t59x18 w fun w =>
 Sto P 30 t16x13 t60x18 w fun w =>
 k1 t61x18 w))))
 (fun t17 w =>
 Sc P 23 t26 none (some (.int .i64 1)) none w fun t65 w =>
 Cl P 16 #[t23, t65] w (Pk R) fun t66 w =>
 Ex t66 0 w fun t67 w =>
 Ex t66 1 w fun t68 w =>
 Al P 30 w fun t18 w =>
 Sto P 30 t18 t67 w fun w =>
 Bn P .eql 31 true t33 (.int .i64 0) w fun t70 w =>
 Gd t70 true (fun k => k t39 w) w fun t72 w =>
 Gd t70 true (fun k => Bn P .eql 31 true t72 (.int .i64 0) w k) w fun t73 w =>
 Pick t70 t73 (.bool false) w fun t74 w =>
 Gd t74 true (fun k => k t47 w) w fun t76 w =>
 Gd t74 true (fun k => Bn P .eql 31 true t76 (.int .i64 0) w k) w fun t77 w =>
 Pick t74 t77 (.bool false) w fun t78 w =>
 Gd t78 true (fun k => k t52 w) w fun t80 w =>
 Gd t78 true (fun k => Bn P .eql 31 true t80 (.int .i64 0) w k) w fun t81 w =>
 Pick t78 t81 (.bool false) w fun t82 w =>
 Gd t82 true (fun k => k t17 w) w fun t84 w =>
 Gd t82 true (fun k => Bn P .eql 31 true t84 (.int .i64 160) w k) w fun t85 w =>
 Pick t82 t85 (.bool false) w fun t86 w =>
 Gd t86 true (fun k => k t68 w) w fun t88 w =>
 Gd t86 true (fun k => Bn P .eql 31 true t88 (.int .i64 160) w k) w fun t89 w =>
 Pick t86 t89 (.bool false) w fun t90 w =>
 GdP t90 true (fun k => Dv P false (Instr.loadAt 30 t3) w.drew k) fun t93 =>
 Gd t90 true (fun k => Cl P 22 #[(.int .i64 26), (.int .i64 1)] w.drew (Pk R) k) w.drew fun t94 w =>
 Kg t90 true P (Instr.loadAt 30 t3) t93 w <|
 GdP t90 true (fun k => Dv P false (bn .eql 30 false t93 t94) w k) fun t95 =>
 PickP t90 t95 (.bool false) fun t96 =>
 GdP t96 true (fun k => Dv P false (Instr.loadAt 30 t4) w k) fun t98 =>
 Gd t96 true (fun k => Cl P 22 #[(.int .i64 318), (.int .i64 1)] w (Pk R) k) w fun t99 w =>
 Kg t96 true P (Instr.loadAt 30 t4) t98 w <|
 GdP t96 true (fun k => Dv P false (bn .eql 30 false t98 t99) w k) fun t100 =>
 PickP t96 t100 (.bool false) fun t101 =>
 GdP t101 true (fun k => Dv P false (Instr.loadAt 30 t6) w k) fun t103 =>
 Gd t101 true (fun k => Cl P 22 #[(.int .i64 84), (.int .i64 1)] w (Pk R) k) w fun t104 w =>
 Kg t101 true P (Instr.loadAt 30 t6) t103 w <|
 GdP t101 true (fun k => Dv P false (bn .eql 30 false t103 t104) w k) fun t105 =>
 PickP t101 t105 (.bool false) fun t106 =>
 GdP t106 true (fun k => Dv P false (Instr.loadAt 30 t8) w k) fun t108 =>
 Gd t106 true (fun k => Cl P 22 #[(.int .i64 8), (.int .i64 1)] w (Pk R) k) w fun t109 w =>
 Kg t106 true P (Instr.loadAt 30 t8) t108 w <|
 GdP t106 true (fun k => Dv P false (bn .eql 30 false t108 t109) w k) fun t110 =>
 PickP t106 t110 (.bool false) fun t111 =>
 GdP t111 true (fun k => Dv P false (Instr.loadAt 30 t9) w k) fun t113 =>
 Gd t111 true (fun k => Cl P 22 #[(.int .i64 84), (.int .i64 1)] w (Pk R) k) w fun t114 w =>
 Kg t111 true P (Instr.loadAt 30 t9) t113 w <|
 GdP t111 true (fun k => Dv P false (bn .eql 30 false t113 t114) w k) fun t115 =>
 PickP t111 t115 (.bool false) fun t116 =>
 GdP t116 true (fun k => Dv P false (Instr.loadAt 30 t10) w k) fun t118 =>
 Gd t116 true (fun k => Cl P 22 #[(.int .i64 84), (.int .i64 1)] w (Pk R) k) w fun t119 w =>
 Kg t116 true P (Instr.loadAt 30 t10) t118 w <|
 GdP t116 true (fun k => Dv P false (bn .eql 30 false t118 t119) w k) fun t120 =>
 PickP t116 t120 (.bool false) fun t121 =>
 GdP t121 true (fun k => Dv P false (Instr.loadAt 30 t12) w k) fun t123 =>
 Gd t121 true (fun k => Cl P 22 #[(.int .i64 0), (.int .i64 1)] w (Pk R) k) w fun t124 w =>
 Kg t121 true P (Instr.loadAt 30 t12) t123 w <|
 GdP t121 true (fun k => Dv P false (bn .eql 30 false t123 t124) w k) fun t125 =>
 PickP t121 t125 (.bool false) fun t126 =>
 GdP t126 true (fun k => Dv P false (Instr.loadAt 30 t13) w k) fun t128 =>
 Gd t126 true (fun k => Cl P 22 #[(.int .i64 0), (.int .i64 1)] w (Pk R) k) w fun t129 w =>
 Kg t126 true P (Instr.loadAt 30 t13) t128 w <|
 GdP t126 true (fun k => Dv P false (bn .eql 30 false t128 t129) w k) fun t130 =>
 PickP t126 t130 (.bool false) fun t131 =>
 GdP t131 true (fun k => Dv P false (Instr.loadAt 30 t3) w k) fun t133 =>
 Gd t131 true (fun k => Cl P 28 #[t133] w (Pk R) k) w fun t134 w =>
 PickP t131 t134 (.bool false) fun t135 =>
 R (.returned t135) w)
theorem e_law16_sane {w : World} {R : Ending → World → Prop} (h : s_law16_sane Tryz.prog  w R) : Calls Tryz.prog 11 #[] w R :=
 enter (h := (.sq .z (.sq .z (.sq .z (.sq .z (.sq .z (.sq .z (.sq .z (.jn [17] [15, 16, 53, 54, 55, 56, 57, 58, 59, 60, 61] (.dr (.pur true 0 (.pur true 1 (.alt (.eff 2 [] (.alt (.eff 3 [] (.alt (.eff 4 [] (.pur true 5 (.pur true 6 (.pur true 7 (.pur true 8 (.alt (.eff 9 [] (.eff 10 [] (.eff 11 [] (.eff 12 [] (.pur true 13 .done))))) (.eff 10 [] (.eff 9 [] (.eff 11 [] (.eff 12 [] (.pur true 13 .done))))))))))) (.alt (.eff 9 [] (.alt (.eff 4 [] (.pur true 5 (.pur true 6 (.pur true 7 (.pur true 8 (.eff 10 [] (.eff 11 [] (.eff 12 [] (.pur true 13 .done))))))))) (.eff 10 [] (.eff 4 [] (.pur true 5 (.pur true 6 (.pur true 7 (.pur true 8 (.eff 11 [] (.eff 12 [] (.pur true 13 .done))))))))))) (.eff 10 [] (.alt (.eff 4 [] (.pur true 5 (.pur true 6 (.pur true 7 (.pur true 8 (.eff 9 [] (.eff 11 [] (.eff 12 [] (.pur true 13 .done))))))))) (.eff 9 [] (.eff 4 [] (.pur true 5 (.pur true 6 (.pur true 7 (.pur true 8 (.eff 11 [] (.eff 12 [] (.pur true 13 .done)))))))))))))) (.alt (.eff 9 [] (.alt (.eff 3 [] (.alt (.eff 4 [] (.pur true 5 (.pur true 6 (.pur true 7 (.pur true 8 (.eff 10 [] (.eff 11 [] (.eff 12 [] (.pur true 13 .done))))))))) (.eff 10 [] (.eff 4 [] (.pur true 5 (.pur true 6 (.pur true 7 (.pur true 8 (.eff 11 [] (.eff 12 [] (.pur true 13 .done))))))))))) (.eff 10 [] (.eff 3 [] (.eff 4 [] (.pur true 5 (.pur true 6 (.pur true 7 (.pur true 8 (.eff 11 [] (.eff 12 [] (.pur true 13 .done)))))))))))) (.eff 10 [] (.alt (.eff 3 [] (.alt (.eff 4 [] (.pur true 5 (.pur true 6 (.pur true 7 (.pur true 8 (.eff 9 [] (.eff 11 [] (.eff 12 [] (.pur true 13 .done))))))))) (.eff 9 [] (.eff 4 [] (.pur true 5 (.pur true 6 (.pur true 7 (.pur true 8 (.eff 11 [] (.eff 12 [] (.pur true 13 .done))))))))))) (.eff 9 [] (.eff 3 [] (.eff 4 [] (.pur true 5 (.pur true 6 (.pur true 7 (.pur true 8 (.eff 11 [] (.eff 12 [] (.pur true 13 .done))))))))))))))) (.alt (.eff 9 [] (.alt (.eff 2 [] (.alt (.eff 3 [] (.alt (.eff 4 [] (.pur true 5 (.pur true 6 (.pur true 7 (.pur true 8 (.eff 10 [] (.eff 11 [] (.eff 12 [] (.pur true 13 .done))))))))) (.eff 10 [] (.eff 4 [] (.pur true 5 (.pur true 6 (.pur true 7 (.pur true 8 (.eff 11 [] (.eff 12 [] (.pur true 13 .done))))))))))) (.eff 10 [] (.eff 3 [] (.eff 4 [] (.pur true 5 (.pur true 6 (.pur true 7 (.pur true 8 (.eff 11 [] (.eff 12 [] (.pur true 13 .done)))))))))))) (.eff 10 [] (.eff 2 [] (.eff 3 [] (.eff 4 [] (.pur true 5 (.pur true 6 (.pur true 7 (.pur true 8 (.eff 11 [] (.eff 12 [] (.pur true 13 .done))))))))))))) (.eff 10 [] (.alt (.eff 2 [] (.alt (.eff 3 [] (.alt (.eff 4 [] (.pur true 5 (.pur true 6 (.pur true 7 (.pur true 8 (.eff 9 [] (.eff 11 [] (.eff 12 [] (.pur true 13 .done))))))))) (.eff 9 [] (.eff 4 [] (.pur true 5 (.pur true 6 (.pur true 7 (.pur true 8 (.eff 11 [] (.eff 12 [] (.pur true 13 .done))))))))))) (.eff 9 [] (.eff 3 [] (.eff 4 [] (.pur true 5 (.pur true 6 (.pur true 7 (.pur true 8 (.eff 11 [] (.eff 12 [] (.pur true 13 .done)))))))))))) (.eff 9 [] (.eff 2 [] (.eff 3 [] (.eff 4 [] (.pur true 5 (.pur true 6 (.pur true 7 (.pur true 8 (.eff 11 [] (.eff 12 [] (.pur true 13 .done)))))))))))))))))) (.sq .z (.sq .z (.sq (.dr (.pur true 0 (.pur true 1 (.pur false 2 (.eff 3 [2] (.pur false 4 (.pur true 5 (.pur true 6 (.pur false 7 (.eff 8 [7] (.pur false 9 (.pur true 10 (.pur true 11 (.pur false 12 (.eff 13 [12] (.pur false 14 (.pur true 15 (.pur true 16 (.pur false 17 (.eff 18 [17] (.pur false 19 (.pur true 20 (.pur true 21 (.pur false 22 (.eff 23 [22] (.pur false 24 (.pur true 25 (.pur true 26 (.pur false 27 (.eff 28 [27] (.pur false 29 (.pur true 30 (.pur true 31 (.pur false 32 (.eff 33 [32] (.pur false 34 (.pur true 35 (.pur true 36 (.pur false 37 (.eff 38 [37] (.pur false 39 (.pur true 40 (.pur true 41 (.pur false 42 (.eff 43 [] (.pur true 44 (.pur true 45 .done))))))))))))))))))))))))))))))))))))))))))))))) .z)))))))))))) (args := []) Tryz.func11 (by kernel_rfl) (by kernel_rfl) (by kernel_rfl) (Eq.mp (by kernel_rfl) h)
theorem n_law16_sane : Enters Tryz.prog 11 := enters_of Tryz.func11 (by kernel_rfl) rfl
def s_ref16_Made (P : Program) (t0 t1 : Value) (w : World) (R : Ending → World → Prop) : Prop :=
 Lp3 (.slice none 0 0) (.slice none 0 0) (.int .i64 0) w (fun t6 t7 t8 w k1 =>
 Bt P .len #[22] 3 #[t0] w fun t16 w =>
 Bn P .lss 3 false t8 t16 w fun t17 w =>
 Gd t17 true (fun k => k t8 w) w fun t19 w =>
 Gd t17 true (fun k => k t1 w) w fun t20 w =>
 Gd t17 true (fun k => Bn P .lss 3 false t19 t20 w k) w fun t21 w =>
 Pick t17 t21 (.bool false) w fun t22 w =>
 If t22
 (Ia P 22 t0 t8 w fun t27 w =>
 Ia P 53 t27 (.int .i64 1) w fun t28 w =>
 Ld P 3 t28 w fun t29 w =>
 Cl P 29 #[t29, (.int .i64 10)] w (Pk R) fun t30 w =>
 Bn P .add 3 true (.int .i64 1) t30 w fun t31 w =>
 Jn2 (fun k2 =>
 Dv P true (Instr.indexAt 22 t0 t8) w.drew fun t35 =>
 Dv P true (Instr.indexAt 53 t35 (.int .i64 0)) w.drew fun t36 =>
 Dv P false (Instr.loadAt 3 t36) w.drew fun t37 =>
 Dv P true (Instr.indexAt 22 t0 t8) w.drew fun t42 =>
 Dv P true (Instr.indexAt 53 t42 (.int .i64 0)) w.drew fun t43 =>
 Dv P false (Instr.loadAt 3 t43) w.drew fun t44 =>
 Dv P true (bn .quo 3 true t44 (.int .i64 41)) w.drew fun t45 =>
 (Cl P 29 #[t37, (.int .i64 41)] w.drew (Pk R) fun t38 w =>
 Ke P (Instr.loadAt 3 t43) t44 w <|
 Dv P true (bn .sub 3 true t38 (.int .i64 10)) w fun t39 =>
 (Cl P 29 #[t45, (.int .i64 3)] w (Pk R) fun t46 w =>
 Dv P true (bn .add 3 true (.int .i64 1) t46) w fun t47 =>
 (Cl P 30 #[t39, t47] w (Pk R) fun t48 w =>
 ExP t48 0 fun t49 =>
 ExP t48 1 fun t50 =>
 Al P 30 w fun t10 w =>
 Ke P (Instr.loadAt 3 t36) t37 w <|
 Ke P (Instr.loadAt 3 t43) t44 w <|
 Sto P 30 t10 t49 w fun w =>
 k2 t10 t50 w) ∧
 (Al P 30 w fun t10x1 w =>
 Ke P (Instr.loadAt 3 t36) t37 w <|
 Ke P (Instr.loadAt 3 t43) t44 w <|
 Cl P 30 #[t39, t47] w (Pk R) fun t48x1 w =>
 ExP t48x1 0 fun t49x1 =>
 ExP t48x1 1 fun t50x1 =>
 Sto P 30 t10x1 t49x1 w fun w =>
 k2 t10x1 t50x1 w)) ∧
 (Al P 30 w fun t10x2 w =>
 Ke P (Instr.loadAt 3 t36) t37 w <|
 Ke P (Instr.loadAt 3 t43) t44 w <|
 Cl P 29 #[t45, (.int .i64 3)] w (Pk R) fun t46x1 w =>
 Dv P true (bn .add 3 true (.int .i64 1) t46x1) w fun t47x1 =>
 Cl P 30 #[t39, t47x1] w (Pk R) fun t48x2 w =>
 ExP t48x2 0 fun t49x2 =>
 ExP t48x2 1 fun t50x2 =>
 Sto P 30 t10x2 t49x2 w fun w =>
 k2 t10x2 t50x2 w)) ∧
 (Al P 30 w.drew fun t10x3 w =>
 Ke P (Instr.loadAt 3 t36) t37 w <|
 Ke P (Instr.loadAt 3 t43) t44 w <|
 Cl P 29 #[t37, (.int .i64 41)] w (Pk R) fun t38x1 w =>
 Ke P (Instr.loadAt 3 t43) t44 w <|
 Dv P true (bn .sub 3 true t38x1 (.int .i64 10)) w fun t39x1 =>
 Cl P 29 #[t45, (.int .i64 3)] w (Pk R) fun t46x2 w =>
 Dv P true (bn .add 3 true (.int .i64 1) t46x2) w fun t47x2 =>
 Cl P 30 #[t39x1, t47x2] w (Pk R) fun t48x3 w =>
 ExP t48x3 0 fun t49x3 =>
 ExP t48x3 1 fun t50x3 =>
 Sto P 30 t10x3 t49x3 w fun w =>
 k2 t10x3 t50x3 w))
 (fun t10x4 t11 w =>
 Ia P 22 t0 t8 w fun t54 w =>
 Ia P 53 t54 (.int .i64 2) w fun t55 w =>
 Ld P 3 t55 w fun t56 w =>
 Cl P 29 #[t56, t31] w (Pk R) fun t58 w =>
 Bn P .add 3 true (.int .i64 1) t58 w fun t59 w =>
 Cl P 30 #[t59, t31] w (Pk R) fun t61 w =>
 Ex t61 0 w fun t62 w =>
 Ex t61 1 w fun t63 w =>
 Al P 30 w fun t12 w =>
 Sto P 30 t12 t62 w fun w =>
 Bn P .eql 31 true t11 (.int .i64 0) w fun t65 w =>
 Gd t65 true (fun k => k t63 w) w fun t67 w =>
 Gd t65 true (fun k => Bn P .eql 31 true t67 (.int .i64 0) w k) w fun t68 w =>
 Pick t65 t68 (.bool false) w fun t69 w =>
 If t69
 (Ld P 30 t10x4 w fun t71 w =>
 Bs P 23 1 [(0, t71)] w fun t72 w =>
 Bt P .append #[23, 23] 23 #[t6, t72] w fun t73 w =>
 Ld P 30 t12 w fun t75 w =>
 Bs P 23 1 [(0, t75)] w fun t76 w =>
 Bt P .append #[23, 23] 23 #[t7, t76] w fun t77 w =>
 Bn P .add 3 true t8 (.int .i64 1) w fun t24 w =>
 k1 t73 t77 t24 w)
 (Bn P .add 3 true t8 (.int .i64 1) w fun t24x1 w =>
 k1 t6 t7 t24x1 w)))
 (R (.returned (.tuple #[t6, t7])) w))
theorem e_ref16_Made {t0 t1 : Value} {w : World} {R : Ending → World → Prop} (h : s_ref16_Made Tryz.prog t0 t1 w R) : Calls Tryz.prog 12 #[t0, t1] w R :=
 enter (h := (.sq .z (.sq .z (.sq .z (.sq (.sq .z (.bk (.lp [6, 7, 8] [9, 10, 11, 12, 13, 14, 15, 16, 17, 18, 19, 20, 21, 22, 23, 24, 25, 26, 27, 28, 29, 30, 31, 32, 33, 34, 35, 36, 37, 38, 39, 40, 41, 42, 43, 44, 45, 46, 47, 48, 49, 50, 51, 52, 53, 54, 55, 56, 57, 58, 59, 60, 61, 62, 63, 64, 65, 66, 67, 68, 69, 70, 71, 72, 73, 74, 75, 76, 77] (.sq (.sq .z (.cd .z .z)) (.sq (.bk (.sq .z (.jn [10, 11] [32, 33, 34, 35, 36, 37, 38, 39, 40, 41, 42, 43, 44, 45, 46, 47, 48, 49, 50] (.dr (.pur true 0 (.pur true 1 (.pur true 2 (.pur true 3 (.pur false 4 (.pur true 7 (.pur true 8 (.pur true 9 (.pur true 10 (.pur false 11 (.pur true 12 (.alt (.eff 5 [11] (.pur true 6 (.alt (.eff 13 [] (.pur true 14 (.alt (.eff 15 [] (.pur true 16 (.pur true 17 (.pur true 18 (.eff 19 [4, 11] (.eff 20 [] (.pur true 21 .done))))))) (.eff 19 [4, 11] (.eff 15 [] (.pur true 16 (.pur true 17 (.pur true 18 (.eff 20 [] (.pur true 21 .done)))))))))) (.eff 19 [4, 11] (.eff 13 [] (.pur true 14 (.eff 15 [] (.pur true 16 (.pur true 17 (.pur true 18 (.eff 20 [] (.pur true 21 .done)))))))))))) (.eff 19 [4, 11] (.eff 5 [11] (.pur true 6 (.eff 13 [] (.pur true 14 (.eff 15 [] (.pur true 16 (.pur true 17 (.pur true 18 (.eff 20 [] (.pur true 21 .done)))))))))))))))))))))))) (.sq .z (.sq .z (.cd (.sq .z .z) .z)))))) .z))))) (.sq .z .z)))))) (args := [t0, t1]) Tryz.func12 (by kernel_rfl) (by kernel_rfl) (by kernel_rfl) (Eq.mp (by kernel_rfl) h)
theorem n_ref16_Made : Enters Tryz.prog 12 := enters_of Tryz.func12 (by kernel_rfl) rfl
def s_law16_short (P : Program) (t0 : Value) (w : World) (R : Ending → World → Prop) : Prop :=
 Lp2 (.slice none 0 0) (.int .i64 0) w (fun t3 t4 w k1 =>
 Bt P .len #[23] 3 #[t0] w fun t7 w =>
 Bn P .lss 3 false t4 t7 w fun t8 w =>
 Gd t8 true (fun k => k t4 w) w fun t10 w =>
 Gd t8 true (fun k => Bn P .lss 3 true t10 (.int .i64 12) w k) w fun t11 w =>
 Pick t8 t11 (.bool false) w fun t12 w =>
 If t12
 (Dv P true (Instr.indexAt 23 t0 t4) w.drew fun t18 =>
 Dv P true (Instr.fieldAt 30 t18 0) w.drew fun t19 =>
 Dv P false (Instr.loadAt 9 t19) w.drew fun t20 =>
 Dv P true (Instr.indexAt 23 t0 t4) w.drew fun t23 =>
 Dv P true (Instr.fieldAt 30 t23 0) w.drew fun t24 =>
 Dv P false (Instr.loadAt 9 t24) w.drew fun t25 =>
 Dv P true (bV .len #[9] 3 #[t25]) w.drew fun t26 =>
 Dv P true (bV .min #[3, 3] 3 #[t26, (.int .i64 40)]) w.drew fun t27 =>
 Dv P true (Instr.sliceAt 9 t20 none (some t27) none) w.drew fun t28 =>
 Dv P true (Instr.indexAt 23 t0 t4) w.drew fun t31 =>
 Dv P true (Instr.fieldAt 30 t31 1) w.drew fun t32 =>
 Dv P false (Instr.loadAt 9 t32) w.drew fun t33 =>
 Dv P true (Instr.indexAt 23 t0 t4) w.drew fun t36 =>
 Dv P true (Instr.fieldAt 30 t36 1) w.drew fun t37 =>
 Dv P false (Instr.loadAt 9 t37) w.drew fun t38 =>
 Dv P true (bV .len #[9] 3 #[t38]) w.drew fun t39 =>
 Dv P true (bV .min #[3, 3] 3 #[t39, (.int .i64 40)]) w.drew fun t40 =>
 Dv P true (Instr.sliceAt 9 t33 none (some t40) none) w.drew fun t41 =>
 Dv P true (Instr.build 30 #[(0, t28), (1, t41)]) w.drew fun t42 =>
 Bs P 23 1 [(0, t42)] w.drew fun t43 w =>
 Bt P .append #[23, 23] 23 #[t3, t43] w fun t44 w =>
 Bn P .add 3 true t4 (.int .i64 1) w fun t14 w =>
 k1 t44 t14 w)
 (R (.returned t3) w))
theorem e_law16_short {t0 : Value} {w : World} {R : Ending → World → Prop} (h : s_law16_short Tryz.prog t0 w R) : Calls Tryz.prog 13 #[t0] w R :=
 enter (h := (.sq .z (.sq .z (.sq (.sq .z (.bk (.lp [3, 4] [5, 6, 7, 8, 9, 10, 11, 12, 13, 14, 15, 16, 17, 18, 19, 20, 21, 22, 23, 24, 25, 26, 27, 28, 29, 30, 31, 32, 33, 34, 35, 36, 37, 38, 39, 40, 41, 42, 43, 44] (.sq (.sq .z (.cd .z .z)) (.sq (.bk (.dr (.pur true 0 (.pur true 1 (.pur true 2 (.pur true 3 (.pur true 4 (.pur false 5 (.pur true 6 (.pur true 7 (.pur true 8 (.pur true 9 (.pur false 10 (.pur true 11 (.pur true 12 (.pur true 13 (.pur true 14 (.pur true 15 (.pur true 16 (.pur true 17 (.pur false 18 (.pur true 19 (.pur true 20 (.pur true 21 (.pur true 22 (.pur false 23 (.pur true 24 (.pur true 25 (.pur true 26 (.pur true 27 (.eff 28 [] (.eff 29 [] (.pur true 30 .done))))))))))))))))))))))))))))))))) .z))))) (.sq .z .z))))) (args := [t0]) Tryz.func13 (by kernel_rfl) (by kernel_rfl) (by kernel_rfl) (Eq.mp (by kernel_rfl) h)
theorem n_law16_short : Enters Tryz.prog 13 := enters_of Tryz.func13 (by kernel_rfl) rfl
def s_estimate_Total (P : Program) (t0 t1 : Value) (w : World) (R : Ending → World → Prop) : Prop :=
 Al P 30 w fun t4 w =>
 Al P 30 w fun t5 w =>
 Cl P 31 #[t0, t1] w (Pk R) fun t15 w =>
 Ex t15 0 w fun t16 w =>
 Ex t15 1 w fun t17 w =>
 Al P 61 w fun t9 w =>
 Cl P 32 #[t9, t16] w (Pk R) fun t19 w =>
 Cl P 33 #[t9, t16] w (Pk R) fun t21 w =>
 Al P 30 w fun t10 w =>
 Al P 30 w fun t11 w =>
 Sto P 30 t10 t19 w fun w =>
 Sto P 30 t11 t21 w fun w =>
 Un P .not t17 w fun t23 w =>
 Gd t23 false (fun k => Fa P 61 t9 0 w k) w fun t25 w =>
 Gd t23 false (fun k => Fa P 59 t25 0 w k) w fun t26 w =>
 Gd t23 false (fun k => Ld P 4 t26 w k) w fun t27 w =>
 Pick t23 (.bool true) t27 w fun t28 w =>
 If t28
 (Bd P 30 [] w fun t29 w =>
 Bd P 30 [] w fun t30 w =>
 Sto P 30 t4 t29 w fun w =>
 Sto P 30 t5 t30 w fun w =>
 Rc P 30 t4 w fun r0 =>
 Rc P 30 t5 w fun r1 =>
 R (.returned (.tuple #[r0, r1, (.int .i64 160)])) w)
 (Dv P false (Instr.loadAt 30 t10) w.drew fun t31 =>
 Dv P false (Instr.loadAt 30 t11) w.drew fun t32 =>
 Sto P 30 t4 t31 w.drew fun w =>
 Ke P (Instr.loadAt 30 t11) t32 w <|
 Sto P 30 t5 t32 w fun w =>
 Rc P 30 t4 w fun r0 =>
 Rc P 30 t5 w fun r1 =>
 R (.returned (.tuple #[r0, r1, (.int .i64 0)])) w)
theorem e_estimate_Total {t0 t1 : Value} {w : World} {R : Ending → World → Prop} (h : s_estimate_Total Tryz.prog t0 t1 w R) : Calls Tryz.prog 14 #[t0, t1] w R :=
 enter (h := (.sq .z (.sq .z (.sq .z (.sq .z (.sq (.sq .z (.cd (.sq .z .z) .z)) (.sq (.dr (.pur false 0 (.pur false 1 (.eff 2 [1] (.eff 3 [] (.pur true 4 .done)))))) .z))))))) (args := [t0, t1]) Tryz.func14 (by kernel_rfl) (by kernel_rfl) (by kernel_rfl) (Eq.mp (by kernel_rfl) h)
theorem n_estimate_Total : Enters Tryz.prog 14 := enters_of Tryz.func14 (by kernel_rfl) rfl
def s_ref16_Total (P : Program) (t0 t1 : Value) (w : World) (R : Ending → World → Prop) : Prop :=
 Al P 30 w fun t4 w =>
 Al P 30 w fun t5 w =>
 Cl P 34 #[t0, t1] w (Pk R) fun t11 w =>
 Un P .not t11 w fun t12 w =>
 If t12
 (Bd P 30 [] w fun t13 w =>
 Bd P 30 [] w fun t14 w =>
 Sto P 30 t4 t13 w fun w =>
 Sto P 30 t5 t14 w fun w =>
 Rc P 30 t4 w fun r0 =>
 Rc P 30 t5 w fun r1 =>
 R (.returned (.tuple #[r0, r1, (.int .i64 160)])) w)
 (Cl P 35 #[t0, t1] w (Pk R) fun t18 w =>
 Ex t18 0 w fun t19 w =>
 Ex t18 1 w fun t20 w =>
 Al P 30 w fun t7 w =>
 Al P 30 w fun t8 w =>
 Sto P 30 t7 t19 w fun w =>
 Sto P 30 t8 t20 w fun w =>
 Ld P 30 t7 w fun t21 w =>
 Cl P 36 #[t21] w (Pk R) fun t22 w =>
 Un P .not t22 w fun t23 w =>
 Gd t23 false (fun k => Ld P 30 t8 w k) w fun t25 w =>
 Gd t23 false (fun k => Cl P 36 #[t25] w (Pk R) k) w fun t26 w =>
 Gd t23 false (fun k => Un P .not t26 w k) w fun t27 w =>
 Pick t23 (.bool true) t27 w fun t28 w =>
 If t28
 (Bd P 30 [] w fun t29 w =>
 Bd P 30 [] w fun t30 w =>
 Sto P 30 t4 t29 w fun w =>
 Sto P 30 t5 t30 w fun w =>
 Rc P 30 t4 w fun r0 =>
 Rc P 30 t5 w fun r1 =>
 R (.returned (.tuple #[r0, r1, (.int .i64 160)])) w)
 (Dv P false (Instr.loadAt 30 t7) w.drew fun t31 =>
 Dv P false (Instr.loadAt 30 t8) w.drew fun t32 =>
 Sto P 30 t4 t31 w.drew fun w =>
 Ke P (Instr.loadAt 30 t8) t32 w <|
 Sto P 30 t5 t32 w fun w =>
 Rc P 30 t4 w fun r0 =>
 Rc P 30 t5 w fun r1 =>
 R (.returned (.tuple #[r0, r1, (.int .i64 0)])) w))
theorem e_ref16_Total {t0 t1 : Value} {w : World} {R : Ending → World → Prop} (h : s_ref16_Total Tryz.prog t0 t1 w R) : Calls Tryz.prog 15 #[t0, t1] w R :=
 enter (h := (.sq .z (.sq (.sq .z (.cd (.sq .z .z) .z)) (.sq .z (.sq (.sq .z (.cd (.sq .z .z) .z)) (.sq (.dr (.pur false 0 (.pur false 1 (.eff 2 [1] (.eff 3 [] (.pur true 4 .done)))))) .z)))))) (args := [t0, t1]) Tryz.func15 (by kernel_rfl) (by kernel_rfl) (by kernel_rfl) (Eq.mp (by kernel_rfl) h)
theorem n_ref16_Total : Enters Tryz.prog 15 := enters_of Tryz.func15 (by kernel_rfl) rfl
def s_estimate_Variance (P : Program) (t0 t1 : Value) (w : World) (R : Ending → World → Prop) : Prop :=
 Al P 30 w fun t4 w =>
 Cl P 31 #[t0, t1] w (Pk R) fun t13 w =>
 Ex t13 0 w fun t14 w =>
 Ex t13 1 w fun t15 w =>
 Al P 61 w fun t8 w =>
 Ld P 30 (.pointer (some ⟨0, 0, none⟩)) w fun t17 w =>
 Cl P 37 #[t14, t17, t8, (.func (.func 38) #[] #[t8])] w (Pk R) fun t19 w =>
 Al P 30 w fun t9 w =>
 Sto P 30 t9 t19 w fun w =>
 Un P .not t15 w fun t21 w =>
 Gd t21 false (fun k => Fa P 61 t8 0 w k) w fun t23 w =>
 Gd t21 false (fun k => Fa P 59 t23 0 w k) w fun t24 w =>
 Gd t21 false (fun k => Ld P 4 t24 w k) w fun t25 w =>
 Pick t21 (.bool true) t25 w fun t26 w =>
 If t26
 (Bd P 30 [] w fun t27 w =>
 Sto P 30 t4 t27 w fun w =>
 Rc P 30 t4 w fun r0 =>
 R (.returned (.tuple #[r0, (.int .i64 160)])) w)
 (Ld P 30 t9 w fun t28 w =>
 Sto P 30 t4 t28 w fun w =>
 Rc P 30 t4 w fun r0 =>
 R (.returned (.tuple #[r0, (.int .i64 0)])) w)
theorem e_estimate_Variance {t0 t1 : Value} {w : World} {R : Ending → World → Prop} (h : s_estimate_Variance Tryz.prog t0 t1 w R) : Calls Tryz.prog 16 #[t0, t1] w R :=
 enter (h := (.sq .z (.sq .z (.sq .z (.sq .z (.sq (.sq .z (.cd (.sq .z .z) .z)) (.sq .z .z))))))) (args := [t0, t1]) Tryz.func16 (by kernel_rfl) (by kernel_rfl) (by kernel_rfl) (Eq.mp (by kernel_rfl) h)
theorem n_estimate_Variance : Enters Tryz.prog 16 := enters_of Tryz.func16 (by kernel_rfl) rfl
def s_ref16_Variance (P : Program) (t0 t1 : Value) (w : World) (R : Ending → World → Prop) : Prop :=
 Al P 30 w fun t4 w =>
 Cl P 34 #[t0, t1] w (Pk R) fun t10 w =>
 Un P .not t10 w fun t11 w =>
 If t11
 (Bd P 30 [] w fun t12 w =>
 Sto P 30 t4 t12 w fun w =>
 Rc P 30 t4 w fun r0 =>
 R (.returned (.tuple #[r0, (.int .i64 160)])) w)
 (Cl P 41 #[(.int .i64 0)] w (Pk R) fun t13 w =>
 Al P 30 w fun t6 w =>
 Sto P 30 t6 t13 w fun w =>
 Lp1 (.int .i64 0) w (fun t7 w k1 =>
 Bt P .len #[23] 3 #[t0] w fun t16 w =>
 Bn P .lss 3 false t7 t16 w fun t17 w =>
 If t17
 (Dv P false (Instr.loadAt 30 t6) w.drew fun t20 =>
 Dv P true (Instr.indexAt 23 t0 t7) w.drew fun t23 =>
 Dv P false (Instr.loadAt 30 t23) w.drew fun t24 =>
 Dv P true (Instr.indexAt 23 t0 t7) w.drew fun t27 =>
 Dv P false (Instr.loadAt 30 t27) w.drew fun t28 =>
 Dv P true (Instr.indexAt 23 t1 t7) w.drew fun t33 =>
 Dv P false (Instr.loadAt 30 t33) w.drew fun t34 =>
 Dv P true (Instr.indexAt 23 t1 t7) w.drew fun t39 =>
 Dv P false (Instr.loadAt 30 t39) w.drew fun t40 =>
 Cl P 44 #[t24, t28] w.drew (Pk R) fun t29 w =>
 Ke P (Instr.loadAt 30 t6) t20 w <|
 Ke P (Instr.loadAt 30 t33) t34 w <|
 Ke P (Instr.loadAt 30 t39) t40 w <|
 Cl P 41 #[(.int .i64 1)] w (Pk R) fun t30 w =>
 Ke P (Instr.loadAt 30 t6) t20 w <|
 Ke P (Instr.loadAt 30 t33) t34 w <|
 Ke P (Instr.loadAt 30 t39) t40 w <|
 Cl P 45 #[t30, t34] w (Pk R) fun t35 w =>
 Ke P (Instr.loadAt 30 t6) t20 w <|
 Ke P (Instr.loadAt 30 t39) t40 w <|
 Cl P 44 #[t29, t35] w (Pk R) fun t36 w =>
 Ke P (Instr.loadAt 30 t6) t20 w <|
 Ke P (Instr.loadAt 30 t39) t40 w <|
 Cl P 43 #[t36, t40] w (Pk R) fun t41 w =>
 Ke P (Instr.loadAt 30 t6) t20 w <|
 Cl P 42 #[t20, t41] w (Pk R) fun t42 w =>
 Sto P 30 t6 t42 w fun w =>
 Bn P .add 3 true t7 (.int .i64 1) w fun t19 w =>
 k1 t19 w)
 (Ld P 30 t6 w fun t43 w =>
 Cl P 36 #[t43] w (Pk R) fun t44 w =>
 Un P .not t44 w fun t45 w =>
 If t45
 (Bd P 30 [] w fun t46 w =>
 Sto P 30 t4 t46 w fun w =>
 Rc P 30 t4 w fun r0 =>
 R (.returned (.tuple #[r0, (.int .i64 160)])) w)
 (Ld P 30 t6 w fun t47 w =>
 Sto P 30 t4 t47 w fun w =>
 Rc P 30 t4 w fun r0 =>
 R (.returned (.tuple #[r0, (.int .i64 0)])) w))))
theorem e_ref16_Variance {t0 t1 : Value} {w : World} {R : Ending → World → Prop} (h : s_ref16_Variance Tryz.prog t0 t1 w R) : Calls Tryz.prog 17 #[t0, t1] w R :=
 enter (h := (.sq .z (.sq (.sq .z (.cd (.sq .z .z) .z)) (.sq .z (.sq (.sq .z (.bk (.lp [7] [14, 15, 16, 17, 18, 19, 20, 21, 22, 23, 24, 25, 26, 27, 28, 29, 30, 31, 32, 33, 34, 35, 36, 37, 38, 39, 40, 41, 42] (.sq (.sq .z (.cd .z .z)) (.sq (.bk (.dr (.pur false 0 (.pur true 1 (.pur true 2 (.pur true 3 (.pur false 4 (.pur true 5 (.pur true 6 (.pur true 7 (.pur false 8 (.pur true 11 (.pur true 12 (.pur true 13 (.pur false 14 (.pur true 17 (.pur true 18 (.pur true 19 (.pur false 20 (.eff 9 [0, 14, 20] (.eff 10 [0, 14, 20] (.eff 15 [0, 20] (.eff 16 [0, 20] (.eff 21 [0] (.eff 22 [] (.eff 23 [] .done)))))))))))))))))))))))))) .z))))) (.sq (.sq .z (.cd (.sq .z .z) .z)) (.sq .z .z))))))) (args := [t0, t1]) Tryz.func17 (by kernel_rfl) (by kernel_rfl) (by kernel_rfl) (Eq.mp (by kernel_rfl) h)
theorem n_ref16_Variance : Enters Tryz.prog 17 := enters_of Tryz.func17 (by kernel_rfl) rfl
def s_estimate_Expect (P : Program) (t0 t1 : Value) (w : World) (R : Ending → World → Prop) : Prop :=
 Al P 30 w fun t4 w =>
 Al P 30 w fun t5 w =>
 Al P 30 w fun t6 w =>
 Cl P 31 #[t0, t1] w (Pk R) fun t22 w =>
 Ex t22 0 w fun t23 w =>
 Ex t22 1 w fun t24 w =>
 Un P .not t24 w fun t26 w =>
 Gd t26 false (fun k => k t23 w) w fun t28 w =>
 Gd t26 false (fun k => Bt P .len #[55] 3 #[t28] w k) w fun t29 w =>
 Gd t26 false (fun k => Bn P .gtr 3 true t29 (.int .i64 10) w k) w fun t30 w =>
 Pick t26 (.bool true) t30 w fun t31 w =>
 If t31
 (Bd P 30 [] w fun t32 w =>
 Bd P 30 [] w fun t33 w =>
 Bd P 30 [] w fun t34 w =>
 Sto P 30 t4 t32 w fun w =>
 Sto P 30 t5 t33 w fun w =>
 Sto P 30 t6 t34 w fun w =>
 Rc P 30 t4 w fun r0 =>
 Rc P 30 t5 w fun r1 =>
 Rc P 30 t6 w fun r2 =>
 R (.returned (.tuple #[r0, r1, r2, (.int .i64 160)])) w)
 (Al P 61 w fun t10 w =>
 Jn3 (fun k1 =>
 Dv P false (Instr.loadAt 30 (.pointer (some ⟨0, 0, none⟩))) w.drew fun t35 =>
 Dv P false (Instr.loadAt 30 (.pointer (some ⟨0, 0, none⟩))) w.drew fun t36 =>
 Dv P false (Instr.loadAt 30 (.pointer (some ⟨0, 0, none⟩))) w.drew fun t37 =>
 (Al P 30 w.drew fun t11 w =>
 Ke P (Instr.loadAt 30 (.pointer (some ⟨0, 0, none⟩))) t35 w <|
 Ke P (Instr.loadAt 30 (.pointer (some ⟨0, 0, none⟩))) t36 w <|
 Ke P (Instr.loadAt 30 (.pointer (some ⟨0, 0, none⟩))) t37 w <|
 (Al P 30 w fun t12 w =>
 Ke P (Instr.loadAt 30 (.pointer (some ⟨0, 0, none⟩))) t35 w <|
 Ke P (Instr.loadAt 30 (.pointer (some ⟨0, 0, none⟩))) t36 w <|
 Ke P (Instr.loadAt 30 (.pointer (some ⟨0, 0, none⟩))) t37 w <|
 Al P 30 w fun t13 w =>
 Ke P (Instr.loadAt 30 (.pointer (some ⟨0, 0, none⟩))) t35 w <|
 Ke P (Instr.loadAt 30 (.pointer (some ⟨0, 0, none⟩))) t36 w <|
 Ke P (Instr.loadAt 30 (.pointer (some ⟨0, 0, none⟩))) t37 w <|
 Sto P 30 t11 t35 w fun w =>
 Ke P (Instr.loadAt 30 (.pointer (some ⟨0, 0, none⟩))) t36 w <|
 Ke P (Instr.loadAt 30 (.pointer (some ⟨0, 0, none⟩))) t37 w <|
 Sto P 30 t12 t36 w fun w =>
 Ke P (Instr.loadAt 30 (.pointer (some ⟨0, 0, none⟩))) t37 w <|
 Sto P 30 t13 t37 w fun w =>
 k1 t11 t12 t13 w) ∧
 (Al P 30 w fun t13x1 w =>
 Ke P (Instr.loadAt 30 (.pointer (some ⟨0, 0, none⟩))) t35 w <|
 Ke P (Instr.loadAt 30 (.pointer (some ⟨0, 0, none⟩))) t36 w <|
 Ke P (Instr.loadAt 30 (.pointer (some ⟨0, 0, none⟩))) t37 w <|
 Al P 30 w fun t12x1 w =>
 Ke P (Instr.loadAt 30 (.pointer (some ⟨0, 0, none⟩))) t35 w <|
 Ke P (Instr.loadAt 30 (.pointer (some ⟨0, 0, none⟩))) t36 w <|
 Ke P (Instr.loadAt 30 (.pointer (some ⟨0, 0, none⟩))) t37 w <|
 Sto P 30 t11 t35 w fun w =>
 Ke P (Instr.loadAt 30 (.pointer (some ⟨0, 0, none⟩))) t36 w <|
 Ke P (Instr.loadAt 30 (.pointer (some ⟨0, 0, none⟩))) t37 w <|
 Sto P 30 t12x1 t36 w fun w =>
 Ke P (Instr.loadAt 30 (.pointer (some ⟨0, 0, none⟩))) t37 w <|
 Sto P 30 t13x1 t37 w fun w =>
 k1 t11 t12x1 t13x1 w)) ∧
 ((Al P 30 w.drew fun t12x2 w =>
 Ke P (Instr.loadAt 30 (.pointer (some ⟨0, 0, none⟩))) t35 w <|
 Ke P (Instr.loadAt 30 (.pointer (some ⟨0, 0, none⟩))) t36 w <|
 Ke P (Instr.loadAt 30 (.pointer (some ⟨0, 0, none⟩))) t37 w <|
 (Al P 30 w fun t11x1 w =>
 Ke P (Instr.loadAt 30 (.pointer (some ⟨0, 0, none⟩))) t35 w <|
 Ke P (Instr.loadAt 30 (.pointer (some ⟨0, 0, none⟩))) t36 w <|
 Ke P (Instr.loadAt 30 (.pointer (some ⟨0, 0, none⟩))) t37 w <|
 Al P 30 w fun t13x2 w =>
 Ke P (Instr.loadAt 30 (.pointer (some ⟨0, 0, none⟩))) t35 w <|
 Ke P (Instr.loadAt 30 (.pointer (some ⟨0, 0, none⟩))) t36 w <|
 Ke P (Instr.loadAt 30 (.pointer (some ⟨0, 0, none⟩))) t37 w <|
 Sto P 30 t11x1 t35 w fun w =>
 Ke P (Instr.loadAt 30 (.pointer (some ⟨0, 0, none⟩))) t36 w <|
 Ke P (Instr.loadAt 30 (.pointer (some ⟨0, 0, none⟩))) t37 w <|
 Sto P 30 t12x2 t36 w fun w =>
 Ke P (Instr.loadAt 30 (.pointer (some ⟨0, 0, none⟩))) t37 w <|
 Sto P 30 t13x2 t37 w fun w =>
 k1 t11x1 t12x2 t13x2 w) ∧
 (Al P 30 w fun t13x3 w =>
 Ke P (Instr.loadAt 30 (.pointer (some ⟨0, 0, none⟩))) t35 w <|
 Ke P (Instr.loadAt 30 (.pointer (some ⟨0, 0, none⟩))) t36 w <|
 Ke P (Instr.loadAt 30 (.pointer (some ⟨0, 0, none⟩))) t37 w <|
 Al P 30 w fun t11x2 w =>
 Ke P (Instr.loadAt 30 (.pointer (some ⟨0, 0, none⟩))) t35 w <|
 Ke P (Instr.loadAt 30 (.pointer (some ⟨0, 0, none⟩))) t36 w <|
 Ke P (Instr.loadAt 30 (.pointer (some ⟨0, 0, none⟩))) t37 w <|
 Sto P 30 t11x2 t35 w fun w =>
 Ke P (Instr.loadAt 30 (.pointer (some ⟨0, 0, none⟩))) t36 w <|
 Ke P (Instr.loadAt 30 (.pointer (some ⟨0, 0, none⟩))) t37 w <|
 Sto P 30 t12x2 t36 w fun w =>
 Ke P (Instr.loadAt 30 (.pointer (some ⟨0, 0, none⟩))) t37 w <|
 Sto P 30 t13x3 t37 w fun w =>
 k1 t11x2 t12x2 t13x3 w)) ∧
 (Al P 30 w.drew fun t13x4 w =>
 Ke P (Instr.loadAt 30 (.pointer (some ⟨0, 0, none⟩))) t35 w <|
 Ke P (Instr.loadAt 30 (.pointer (some ⟨0, 0, none⟩))) t36 w <|
 Ke P (Instr.loadAt 30 (.pointer (some ⟨0, 0, none⟩))) t37 w <|
 (Al P 30 w fun t11x3 w =>
 Ke P (Instr.loadAt 30 (.pointer (some ⟨0, 0, none⟩))) t35 w <|
 Ke P (Instr.loadAt 30 (.pointer (some ⟨0, 0, none⟩))) t36 w <|
 Ke P (Instr.loadAt 30 (.pointer (some ⟨0, 0, none⟩))) t37 w <|
 Al P 30 w fun t12x3 w =>
 Ke P (Instr.loadAt 30 (.pointer (some ⟨0, 0, none⟩))) t35 w <|
 Ke P (Instr.loadAt 30 (.pointer (some ⟨0, 0, none⟩))) t36 w <|
 Ke P (Instr.loadAt 30 (.pointer (some ⟨0, 0, none⟩))) t37 w <|
 Sto P 30 t11x3 t35 w fun w =>
 Ke P (Instr.loadAt 30 (.pointer (some ⟨0, 0, none⟩))) t36 w <|
 Ke P (Instr.loadAt 30 (.pointer (some ⟨0, 0, none⟩))) t37 w <|
 Sto P 30 t12x3 t36 w fun w =>
 Ke P (Instr.loadAt 30 (.pointer (some ⟨0, 0, none⟩))) t37 w <|
 Sto P 30 t13x4 t37 w fun w =>
 k1 t11x3 t12x3 t13x4 w) ∧
 (Al P 30 w fun t12x4 w =>
 Ke P (Instr.loadAt 30 (.pointer (some ⟨0, 0, none⟩))) t35 w <|
 Ke P (Instr.loadAt 30 (.pointer (some ⟨0, 0, none⟩))) t36 w <|
 Ke P (Instr.loadAt 30 (.pointer (some ⟨0, 0, none⟩))) t37 w <|
 Al P 30 w fun t11x4 w =>
 Ke P (Instr.loadAt 30 (.pointer (some ⟨0, 0, none⟩))) t35 w <|
 Ke P (Instr.loadAt 30 (.pointer (some ⟨0, 0, none⟩))) t36 w <|
 Ke P (Instr.loadAt 30 (.pointer (some ⟨0, 0, none⟩))) t37 w <|
 Sto P 30 t11x4 t35 w fun w =>
 Ke P (Instr.loadAt 30 (.pointer (some ⟨0, 0, none⟩))) t36 w <|
 Ke P (Instr.loadAt 30 (.pointer (some ⟨0, 0, none⟩))) t37 w <|
 Sto P 30 t12x4 t36 w fun w =>
 Ke P (Instr.loadAt 30 (.pointer (some ⟨0, 0, none⟩))) t37 w <|
 Sto P 30 t13x4 t37 w fun w =>
 k1 t11x4 t12x4 t13x4 w))))
 (fun t11x5 t12x5 t13x5 w =>
 Cl P 46 #[t10, t23] w (Pk R) fun t39 w =>
 Rf2 P t39 w (fun t40 t41 w next lv =>
 Mid w fun w mid =>
 Al P 30 w fun t14 w =>
 Sto P 30 t14 t40 w fun w =>
 mid w fun w =>
 Dv P false (Instr.loadAt 30 t11x5) w.drew fun t42 =>
 Dv P false (Instr.loadAt 30 t14) w.drew fun t43 =>
 Cl P 32 #[t10, t41] w.drew (fun _ _ => False) fun t45 w =>
 Ke P (Instr.loadAt 30 t11x5) t42 w <|
 Ke P (Instr.loadAt 30 t14) t43 w <|
 Cl P 48 #[t10, t43, t45] w (fun _ _ => False) fun t46 w =>
 Ke P (Instr.loadAt 30 t11x5) t42 w <|
 Cl P 47 #[t10, t42, t46] w (fun _ _ => False) fun t47 w =>
 Sto P 30 t11x5 t47 w fun w =>
 Dv P false (Instr.loadAt 30 t12x5) w.drew fun t48 =>
 Dv P false (Instr.loadAt 30 t14) w.drew fun t49 =>
 Cl P 33 #[t10, t41] w.drew (fun _ _ => False) fun t51 w =>
 Ke P (Instr.loadAt 30 t12x5) t48 w <|
 Ke P (Instr.loadAt 30 t14) t49 w <|
 Cl P 48 #[t10, t49, t51] w (fun _ _ => False) fun t52 w =>
 Ke P (Instr.loadAt 30 t12x5) t48 w <|
 Cl P 47 #[t10, t48, t52] w (fun _ _ => False) fun t53 w =>
 Sto P 30 t12x5 t53 w fun w =>
 next w)
 (fun D1 w =>
 Cl P 46 #[t10, t23] w (fun c w => Tk P D1 w fun w => R (.panicked c) w) fun t55 w =>
 Rf2 P t55 w (fun t56 t57 w next lv =>
 Mid w fun w mid =>
 Al P 30 w fun t16 w =>
 Sto P 30 t16 t56 w fun w =>
 mid w fun w =>
 Jn1 (fun k2 =>
 Dv P false (Instr.loadAt 30 t11x5) w.drew fun t60 =>
 (Cl P 32 #[t10, t57] w.drew (fun _ _ => False) fun t59 w =>
 Ke P (Instr.loadAt 30 t11x5) t60 w <|
 (Cl P 49 #[t10, t59, t60] w (fun _ _ => False) fun t61 w =>
 Al P 30 w fun t18 w =>
 Ke P (Instr.loadAt 30 t11x5) t60 w <|
 Sto P 30 t18 t61 w fun w =>
 k2 t18 w) ∧
 (Al P 30 w fun t18x1 w =>
 Ke P (Instr.loadAt 30 t11x5) t60 w <|
 Cl P 49 #[t10, t59, t60] w (fun _ _ => False) fun t61x1 w =>
 Sto P 30 t18x1 t61x1 w fun w =>
 k2 t18x1 w)) ∧
 (Al P 30 w.drew fun t18x2 w =>
 Ke P (Instr.loadAt 30 t11x5) t60 w <|
 Cl P 32 #[t10, t57] w (fun _ _ => False) fun t59x1 w =>
 Ke P (Instr.loadAt 30 t11x5) t60 w <|
 Cl P 49 #[t10, t59x1, t60] w (fun _ _ => False) fun t61x2 w =>
 Sto P 30 t18x2 t61x2 w fun w =>
 k2 t18x2 w))
 (fun t18x3 w =>
 Dv P false (Instr.loadAt 30 t13x5) w.drew fun t62 =>
 Dv P false (Instr.loadAt 30 t16) w.drew fun t63 =>
 Dv P false (Instr.loadAt 30 t18x3) w.drew fun t64 =>
 Dv P false (Instr.loadAt 30 t18x3) w.drew fun t65 =>
 Cl P 48 #[t10, t64, t65] w.drew (fun _ _ => False) fun t66 w =>
 Ke P (Instr.loadAt 30 t13x5) t62 w <|
 Ke P (Instr.loadAt 30 t16) t63 w <|
 Cl P 48 #[t10, t63, t66] w (fun _ _ => False) fun t67 w =>
 Ke P (Instr.loadAt 30 t13x5) t62 w <|
 Cl P 47 #[t10, t62, t67] w (fun _ _ => False) fun t68 w =>
 Sto P 30 t13x5 t68 w fun w =>
 next w))
 (fun D2 w =>
 Fa P 61 t10 0 w fun t69 w =>
 Fa P 59 t69 0 w fun t70 w =>
 Ld P 4 t70 w fun t71 w =>
 If t71
 (Bd P 30 [] w fun t72 w =>
 Bd P 30 [] w fun t73 w =>
 Bd P 30 [] w fun t74 w =>
 Sto P 30 t4 t72 w fun w =>
 Sto P 30 t5 t73 w fun w =>
 Sto P 30 t6 t74 w fun w =>
 Tk P D2 w fun w =>
 Tk P D1 w fun w =>
 Rc P 30 t4 w fun r0 =>
 Rc P 30 t5 w fun r1 =>
 Rc P 30 t6 w fun r2 =>
 R (.returned (.tuple #[r0, r1, r2, (.int .i64 160)])) w)
 (Dv P false (Instr.loadAt 30 t11x5) w.drew fun t75 =>
 Dv P false (Instr.loadAt 30 t13x5) w.drew fun t76 =>
 Dv P false (Instr.loadAt 30 t12x5) w.drew fun t77 =>
 Sto P 30 t4 t75 w.drew fun w =>
 Ke P (Instr.loadAt 30 t13x5) t76 w <|
 Ke P (Instr.loadAt 30 t12x5) t77 w <|
 Sto P 30 t5 t76 w fun w =>
 Ke P (Instr.loadAt 30 t12x5) t77 w <|
 Sto P 30 t6 t77 w fun w =>
 Tk P D2 w fun w =>
 Tk P D1 w fun w =>
 Rc P 30 t4 w fun r0 =>
 Rc P 30 t5 w fun r1 =>
 Rc P 30 t6 w fun r2 =>
 R (.returned (.tuple #[r0, r1, r2, (.int .i64 0)])) w))
 (fun D2 w =>
 Tk P D2 w fun w =>
 Tk P D1 w fun w =>
 Rc P 30 t4 w fun r0 =>
 Rc P 30 t5 w fun r1 =>
 Rc P 30 t6 w fun r2 =>
 R (.returned (.tuple #[r0, r1, r2, (.int .i64 0)])) w) [])
 (fun D1 w =>
 Tk P D1 w fun w =>
 Rc P 30 t4 w fun r0 =>
 Rc P 30 t5 w fun r1 =>
 Rc P 30 t6 w fun r2 =>
 R (.returned (.tuple #[r0, r1, r2, (.int .i64 0)])) w) []))
theorem e_estimate_Expect {t0 t1 : Value} {w : World} {R : Ending → World → Prop} (h : s_estimate_Expect Tryz.prog t0 t1 w R) : Calls Tryz.prog 18 #[t0, t1] w R :=
 enter (h := (.sq .z (.sq .z (.sq (.sq .z (.cd (.sq .z .z) .z)) (.sq .z (.jn [11, 12, 13] [35, 36, 37] (.dr (.pur false 0 (.pur false 1 (.pur false 2 (.alt (.eff 3 [0, 1, 2] (.alt (.eff 4 [0, 1, 2] (.eff 5 [0, 1, 2] (.eff 6 [1, 2] (.eff 7 [2] (.eff 8 [] .done))))) (.eff 5 [0, 1, 2] (.eff 4 [0, 1, 2] (.eff 6 [1, 2] (.eff 7 [2] (.eff 8 [] .done))))))) (.alt (.eff 4 [0, 1, 2] (.alt (.eff 3 [0, 1, 2] (.eff 5 [0, 1, 2] (.eff 6 [1, 2] (.eff 7 [2] (.eff 8 [] .done))))) (.eff 5 [0, 1, 2] (.eff 3 [0, 1, 2] (.eff 6 [1, 2] (.eff 7 [2] (.eff 8 [] .done))))))) (.eff 5 [0, 1, 2] (.alt (.eff 3 [0, 1, 2] (.eff 4 [0, 1, 2] (.eff 6 [1, 2] (.eff 7 [2] (.eff 8 [] .done))))) (.eff 4 [0, 1, 2] (.eff 3 [0, 1, 2] (.eff 6 [1, 2] (.eff 7 [2] (.eff 8 [] .done))))))))))))) (.sq (.sq .z (.bk (.rf (.sq (.sq .z .z) (.bk (.sq (.dr (.pur false 0 (.pur false 1 (.pur true 2 (.eff 3 [0, 1] (.eff 4 [0] (.eff 5 [] (.eff 6 [] .done)))))))) (.dr (.pur false 0 (.pur false 1 (.pur true 2 (.eff 3 [0, 1] (.eff 4 [0] (.eff 5 [] (.eff 6 [] .done))))))))))) []))) (.sq (.sq .z (.bk (.rf (.sq (.sq .z .z) (.bk (.jn [18] [58, 59, 60, 61] (.dr (.pur true 0 (.pur false 2 (.alt (.eff 1 [2] (.alt (.eff 3 [] (.eff 4 [2] (.eff 5 [] .done))) (.eff 4 [2] (.eff 3 [] (.eff 5 [] .done))))) (.eff 4 [2] (.eff 1 [2] (.eff 3 [] (.eff 5 [] .done)))))))) (.dr (.pur false 0 (.pur false 1 (.pur false 2 (.pur false 3 (.eff 4 [0, 1] (.eff 5 [0] (.eff 6 [] (.eff 7 [] .done)))))))))))) []))) (.sq (.sq .z (.cd (.sq .z .z) .z)) (.sq (.dr (.pur false 0 (.pur false 1 (.pur false 2 (.eff 3 [1, 2] (.eff 4 [2] (.eff 5 [] (.pur true 6 .done)))))))) .z)))))))))) (args := [t0, t1]) Tryz.func18 (by kernel_rfl) (by kernel_rfl) (by kernel_rfl) (Eq.mp (by kernel_rfl) h)
theorem n_estimate_Expect : Enters Tryz.prog 18 := enters_of Tryz.func18 (by kernel_rfl) rfl
def s_ref16_Expect (P : Program) (t0 t1 : Value) (w : World) (R : Ending → World → Prop) : Prop :=
 Al P 30 w fun t4 w =>
 Al P 30 w fun t5 w =>
 Al P 30 w fun t6 w =>
 Cl P 34 #[t0, t1] w (Pk R) fun t22 w =>
 Un P .not t22 w fun t23 w =>
 Gd t23 false (fun k => k t0 w) w fun t25 w =>
 Gd t23 false (fun k => Bt P .len #[23] 3 #[t25] w k) w fun t26 w =>
 Gd t23 false (fun k => Bn P .gtr 3 true t26 (.int .i64 10) w k) w fun t27 w =>
 Pick t23 (.bool true) t27 w fun t28 w =>
 If t28
 (Bd P 30 [] w fun t29 w =>
 Bd P 30 [] w fun t30 w =>
 Bd P 30 [] w fun t31 w =>
 Sto P 30 t4 t29 w fun w =>
 Sto P 30 t5 t30 w fun w =>
 Sto P 30 t6 t31 w fun w =>
 Rc P 30 t4 w fun r0 =>
 Rc P 30 t5 w fun r1 =>
 Rc P 30 t6 w fun r2 =>
 R (.returned (.tuple #[r0, r1, r2, (.int .i64 160)])) w)
 (Cl P 41 #[(.int .i64 0)] w (Pk R) fun t32 w =>
 Al P 30 w fun t8 w =>
 Sto P 30 t8 t32 w fun w =>
 Cl P 41 #[(.int .i64 0)] w (Pk R) fun t33 w =>
 Al P 30 w fun t9 w =>
 Sto P 30 t9 t33 w fun w =>
 Lp1 (.int .i64 0) w (fun t10 w k1 =>
 Bt P .len #[23] 3 #[t0] w fun t36 w =>
 Bn P .shl 3 true (.int .i64 1) t36 w fun t37 w =>
 Bn P .lss 3 false t10 t37 w fun t38 w =>
 If t38
 (Cl P 50 #[t0, t1, t10] w (Pk R) fun t45 w =>
 Ex t45 0 w fun t46 w =>
 Ex t45 1 w fun t47 w =>
 Ex t45 2 w fun t48 w =>
 Al P 30 w fun t11 w =>
 Al P 30 w fun t12 w =>
 Al P 30 w fun t13 w =>
 Sto P 30 t11 t46 w fun w =>
 Sto P 30 t12 t47 w fun w =>
 Sto P 30 t13 t48 w fun w =>
 Dv P false (Instr.loadAt 30 t8) w.drew fun t49 =>
 Dv P false (Instr.loadAt 30 t11) w.drew fun t50 =>
 Dv P false (Instr.loadAt 30 t12) w.drew fun t51 =>
 Cl P 44 #[t50, t51] w.drew (Pk R) fun t52 w =>
 Ke P (Instr.loadAt 30 t8) t49 w <|
 Cl P 42 #[t49, t52] w (Pk R) fun t53 w =>
 Sto P 30 t8 t53 w fun w =>
 Dv P false (Instr.loadAt 30 t9) w.drew fun t54 =>
 Dv P false (Instr.loadAt 30 t11) w.drew fun t55 =>
 Dv P false (Instr.loadAt 30 t13) w.drew fun t56 =>
 Cl P 44 #[t55, t56] w.drew (Pk R) fun t57 w =>
 Ke P (Instr.loadAt 30 t9) t54 w <|
 Cl P 42 #[t54, t57] w (Pk R) fun t58 w =>
 Sto P 30 t9 t58 w fun w =>
 Bn P .add 3 true t10 (.int .i64 1) w fun t40 w =>
 k1 t40 w)
 (Cl P 41 #[(.int .i64 0)] w (Pk R) fun t59 w =>
 Al P 30 w fun t14 w =>
 Sto P 30 t14 t59 w fun w =>
 Lp1 (.int .i64 0) w (fun t15 w k2 =>
 Bt P .len #[23] 3 #[t0] w fun t62 w =>
 Bn P .shl 3 true (.int .i64 1) t62 w fun t63 w =>
 Bn P .lss 3 false t15 t63 w fun t64 w =>
 If t64
 (Cl P 50 #[t0, t1, t15] w (Pk R) fun t71 w =>
 Ex t71 0 w fun t72 w =>
 Ex t71 1 w fun t73 w =>
 Ex t71 2 w fun t74 w =>
 Al P 30 w fun t16 w =>
 Al P 30 w fun t17 w =>
 Al P 30 w fun t18 w =>
 Sto P 30 t16 t72 w fun w =>
 Sto P 30 t17 t73 w fun w =>
 Sto P 30 t18 t74 w fun w =>
 Ld P 30 t17 w fun t75 w =>
 Ld P 30 t8 w fun t76 w =>
 Cl P 45 #[t75, t76] w (Pk R) fun t77 w =>
 Al P 30 w fun t19 w =>
 Sto P 30 t19 t77 w fun w =>
 Dv P false (Instr.loadAt 30 t14) w.drew fun t78 =>
 Dv P false (Instr.loadAt 30 t16) w.drew fun t79 =>
 Dv P false (Instr.loadAt 30 t19) w.drew fun t80 =>
 Dv P false (Instr.loadAt 30 t19) w.drew fun t81 =>
 Cl P 44 #[t80, t81] w.drew (Pk R) fun t82 w =>
 Ke P (Instr.loadAt 30 t14) t78 w <|
 Ke P (Instr.loadAt 30 t16) t79 w <|
 Cl P 44 #[t79, t82] w (Pk R) fun t83 w =>
 Ke P (Instr.loadAt 30 t14) t78 w <|
 Cl P 42 #[t78, t83] w (Pk R) fun t84 w =>
 Sto P 30 t14 t84 w fun w =>
 Bn P .add 3 true t15 (.int .i64 1) w fun t66 w =>
 k2 t66 w)
 (Ld P 30 t8 w fun t85 w =>
 Cl P 36 #[t85] w (Pk R) fun t86 w =>
 Un P .not t86 w fun t87 w =>
 Gd t87 false (fun k => Ld P 30 t14 w k) w fun t89 w =>
 Gd t87 false (fun k => Cl P 36 #[t89] w (Pk R) k) w fun t90 w =>
 Gd t87 false (fun k => Un P .not t90 w k) w fun t91 w =>
 Pick t87 (.bool true) t91 w fun t92 w =>
 Gd t92 false (fun k => Ld P 30 t9 w k) w fun t94 w =>
 Gd t92 false (fun k => Cl P 36 #[t94] w (Pk R) k) w fun t95 w =>
 Gd t92 false (fun k => Un P .not t95 w k) w fun t96 w =>
 Pick t92 (.bool true) t96 w fun t97 w =>
 If t97
 (Bd P 30 [] w fun t98 w =>
 Bd P 30 [] w fun t99 w =>
 Bd P 30 [] w fun t100 w =>
 Sto P 30 t4 t98 w fun w =>
 Sto P 30 t5 t99 w fun w =>
 Sto P 30 t6 t100 w fun w =>
 Rc P 30 t4 w fun r0 =>
 Rc P 30 t5 w fun r1 =>
 Rc P 30 t6 w fun r2 =>
 R (.returned (.tuple #[r0, r1, r2, (.int .i64 160)])) w)
 (Dv P false (Instr.loadAt 30 t8) w.drew fun t101 =>
 Dv P false (Instr.loadAt 30 t14) w.drew fun t102 =>
 Dv P false (Instr.loadAt 30 t9) w.drew fun t103 =>
 Sto P 30 t4 t101 w.drew fun w =>
 Ke P (Instr.loadAt 30 t14) t102 w <|
 Ke P (Instr.loadAt 30 t9) t103 w <|
 Sto P 30 t5 t102 w fun w =>
 Ke P (Instr.loadAt 30 t9) t103 w <|
 Sto P 30 t6 t103 w fun w =>
 Rc P 30 t4 w fun r0 =>
 Rc P 30 t5 w fun r1 =>
 Rc P 30 t6 w fun r2 =>
 R (.returned (.tuple #[r0, r1, r2, (.int .i64 0)])) w))))))
theorem e_ref16_Expect {t0 t1 : Value} {w : World} {R : Ending → World → Prop} (h : s_ref16_Expect Tryz.prog t0 t1 w R) : Calls Tryz.prog 19 #[t0, t1] w R :=
 enter (h := (.sq .z (.sq (.sq .z (.cd (.sq .z .z) .z)) (.sq .z (.sq .z (.sq (.sq .z (.bk (.lp [10] [11, 12, 13, 34, 35, 36, 37, 38, 39, 40, 41, 42, 43, 44, 45, 46, 47, 48, 49, 50, 51, 52, 53, 54, 55, 56, 57, 58] (.sq (.sq .z (.cd .z .z)) (.sq (.bk (.sq .z (.sq (.dr (.pur false 0 (.pur false 1 (.pur false 2 (.eff 3 [0] (.eff 4 [] (.eff 5 [] .done))))))) (.dr (.pur false 0 (.pur false 1 (.pur false 2 (.eff 3 [0] (.eff 4 [] (.eff 5 [] .done)))))))))) .z))))) (.sq .z (.sq (.sq .z (.bk (.lp [15] [16, 17, 18, 19, 60, 61, 62, 63, 64, 65, 66, 67, 68, 69, 70, 71, 72, 73, 74, 75, 76, 77, 78, 79, 80, 81, 82, 83, 84] (.sq (.sq .z (.cd .z .z)) (.sq (.bk (.sq .z (.sq .z (.dr (.pur false 0 (.pur false 1 (.pur false 2 (.pur false 3 (.eff 4 [0, 1] (.eff 5 [0] (.eff 6 [] (.eff 7 [] .done)))))))))))) .z))))) (.sq (.sq .z (.cd (.sq .z .z) .z)) (.sq (.dr (.pur false 0 (.pur false 1 (.pur false 2 (.eff 3 [1, 2] (.eff 4 [2] (.eff 5 [] (.pur true 6 .done)))))))) .z)))))))))) (args := [t0, t1]) Tryz.func19 (by kernel_rfl) (by kernel_rfl) (by kernel_rfl) (Eq.mp (by kernel_rfl) h)
theorem n_ref16_Expect : Enters Tryz.prog 19 := enters_of Tryz.func19 (by kernel_rfl) rfl
def s_rational_Compare (P : Program) (t0 t1 : Value) (w : World) (R : Ending → World → Prop) : Prop :=
 Bx P 30 t0 w fun t2 w =>
 Bx P 30 t1 w fun t3 w =>
 Ld P 30 t2 w fun t13 w =>
 Cl P 28 #[t13] w (Pk R) fun t14 w =>
 Un P .not t14 w fun t15 w =>
 Gd t15 false (fun k => Ld P 30 t3 w k) w fun t17 w =>
 Gd t15 false (fun k => Cl P 28 #[t17] w (Pk R) k) w fun t18 w =>
 Gd t15 false (fun k => Un P .not t18 w k) w fun t19 w =>
 Pick t15 (.bool true) t19 w fun t20 w =>
 If t20
 (R (.returned (.int .i64 0)) w)
 (Lp1 (.int .i64 1) w (fun t5 w k1 =>
 Fa P 30 t2 0 w fun t22 w =>
 Ld P 9 t22 w fun t23 w =>
 Fa P 30 t2 1 w fun t24 w =>
 Ld P 9 t24 w fun t25 w =>
 Cl P 51 #[t23, t25] w (Pk R) fun t26 w =>
 Ex t26 0 w fun t27 w =>
 Ex t26 1 w fun t28 w =>
 Ex t26 2 w fun t29 w =>
 Fa P 30 t3 0 w fun t31 w =>
 Ld P 9 t31 w fun t32 w =>
 Fa P 30 t3 1 w fun t33 w =>
 Ld P 9 t33 w fun t34 w =>
 Cl P 51 #[t32, t34] w (Pk R) fun t35 w =>
 Ex t35 0 w fun t36 w =>
 Ex t35 1 w fun t37 w =>
 Ex t35 2 w fun t38 w =>
 Cl P 52 #[t27, t36] w (Pk R) fun t41 w =>
 Bn P .neq 3 true t41 (.int .i64 0) w fun t44 w =>
 If t44
 (Bn P .mul 3 false t5 t41 w fun t47 w =>
 R (.returned t47) w)
 (Bn P .eql 9 true t28 (str [48]) w fun t50 w =>
 Gd t50 true (fun k => k t37 w) w fun t52 w =>
 Gd t50 true (fun k => Bn P .eql 9 true t52 (str [48]) w k) w fun t53 w =>
 Pick t50 t53 (.bool false) w fun t54 w =>
 If t54
 (R (.returned (.int .i64 0)) w)
 (Bn P .eql 9 true t28 (str [48]) w fun t57 w =>
 If t57
 (Un P .neg t5 w fun t59 w =>
 R (.returned t59) w)
 (Bn P .eql 9 true t37 (str [48]) w fun t62 w =>
 If t62
 (R (.returned t5) w)
 (Dv P true (Instr.fieldAt 30 t2 1) w.drew fun t64 =>
 Dv P false (Instr.loadAt 9 t64) w.drew fun t65 =>
 Dv P true (Instr.build 30 #[(0, t65), (1, t28)]) w.drew fun t67 =>
 Dv P true (Instr.fieldAt 30 t3 1) w.drew fun t68 =>
 Dv P false (Instr.loadAt 9 t68) w.drew fun t69 =>
 Dv P true (Instr.build 30 #[(0, t69), (1, t37)]) w.drew fun t71 =>
 Dv P true (Op.unary .neg t5) w.drew fun t73 =>
 Sto P 30 t2 t67 w.drew fun w =>
 Ke P (Instr.loadAt 9 t68) t69 w <|
 Sto P 30 t3 t71 w fun w =>
 k1 t73 w))))))
theorem e_rational_Compare {t0 t1 : Value} {w : World} {R : Ending → World → Prop} (h : s_rational_Compare Tryz.prog t0 t1 w R) : Calls Tryz.prog 21 #[t0, t1] w R :=
 enter (h := (.sq .z (.sc [5] [4, 6, 7, 8, 9, 10, 11, 12, 21, 22, 23, 24, 25, 26, 27, 28, 29, 30, 31, 32, 33, 34, 35, 36, 37, 38, 39, 40, 41, 42, 43, 44, 45, 46, 47, 48, 49, 50, 51, 52, 53, 54, 55, 56, 57, 58, 59, 60, 61, 62, 63, 64, 65, 66, 67, 68, 69, 70, 71, 72, 73] (.sq .z (.cd (.sq .z .z) .z)) .z (.sq .z (.sq .z (.sq (.sq .z (.bk (.sq .z (.cd (.sq .z .z) (.sq .z (.cd (.sq .z .z) (.sq .z (.cd (.sq .z .z) (.sq .z (.cd (.sq .z .z) .z)))))))))) (.sq (.dr (.pur true 0 (.pur false 1 (.pur true 2 (.pur true 3 (.pur true 4 (.pur false 5 (.pur true 6 (.pur true 7 (.pur true 8 (.pur true 9 (.eff 10 [5] (.eff 11 [] (.pur true 12 .done)))))))))))))) .z))))))) (args := [t0, t1]) Tryz.func21 (by kernel_rfl) (by kernel_rfl) (by kernel_rfl) (Eq.mp (by kernel_rfl) h)
theorem n_rational_Compare : Enters Tryz.prog 21 := enters_of Tryz.func21 (by kernel_rfl) rfl
def s_law16_of (P : Program) (t0 t1 : Value) (w : World) (R : Ending → World → Prop) : Prop :=
 Al P 30 w fun t4 w =>
 Cl P 53 #[t0, t1] w (Pk R) fun t10 w =>
 Ex t10 0 w fun t11 w =>
 Ex t10 1 w fun t12 w =>
 Al P 30 w fun t5 w =>
 Sto P 30 t5 t11 w fun w =>
 Bn P .neq 31 true t12 (.int .i64 0) w fun t14 w =>
 If t14
 (Bd P 30 [] w fun t15 w =>
 Sto P 30 t4 t15 w fun w =>
 Rc P 30 t4 w fun r0 =>
 R (.returned r0) w)
 (Ld P 30 t5 w fun t16 w =>
 Sto P 30 t4 t16 w fun w =>
 Rc P 30 t4 w fun r0 =>
 R (.returned r0) w)
theorem e_law16_of {t0 t1 : Value} {w : World} {R : Ending → World → Prop} (h : s_law16_of Tryz.prog t0 t1 w R) : Calls Tryz.prog 22 #[t0, t1] w R :=
 enter (h := (.sq .z (.sq .z (.sq (.sq .z (.cd (.sq .z .z) .z)) (.sq .z .z))))) (args := [t0, t1]) Tryz.func22 (by kernel_rfl) (by kernel_rfl) (by kernel_rfl) (Eq.mp (by kernel_rfl) h)
theorem n_law16_of : Enters Tryz.prog 22 := enters_of Tryz.func22 (by kernel_rfl) rfl
def s_rational_Mul (P : Program) (t0 t1 : Value) (w : World) (R : Ending → World → Prop) : Prop :=
 Bx P 30 t0 w fun t2 w =>
 Bx P 30 t1 w fun t3 w =>
 Al P 30 w fun t4 w =>
 Bd P 83 [] w fun t8 w =>
 Bx P 83 t8 w fun t9 w =>
 Ld P 30 t2 w fun t11 w =>
 Ld P 30 t3 w fun t12 w =>
 Bs P 23 2 [(0, t11), (1, t12)] w fun t13 w =>
 Cl P 54 #[t9, t13] w (Pk R) fun t14 w =>
 Fa P 30 t2 0 w fun t16 w =>
 Ld P 9 t16 w fun t17 w =>
 Fa P 30 t3 0 w fun t18 w =>
 Ld P 9 t18 w fun t19 w =>
 Cl P 55 #[t9, t17, t19] w (Pk R) fun t20 w =>
 Fa P 30 t2 1 w fun t24 w =>
 Ld P 9 t24 w fun t25 w =>
 Fa P 30 t3 1 w fun t26 w =>
 Ld P 9 t26 w fun t27 w =>
 Cl P 55 #[t9, t25, t27] w (Pk R) fun t28 w =>
 Cl P 56 #[t9, t20, t28] w (Pk R) fun t29 w =>
 Ex t29 0 w fun t30 w =>
 Ex t29 1 w fun t31 w =>
 Sto P 30 t4 t30 w fun w =>
 Rc P 30 t4 w fun r0 =>
 R (.returned (.tuple #[r0, t31])) w
theorem e_rational_Mul {t0 t1 : Value} {w : World} {R : Ending → World → Prop} (h : s_rational_Mul Tryz.prog t0 t1 w R) : Calls Tryz.prog 24 #[t0, t1] w R :=
 enter (h := (.sq .z (.sq .z (.sq .z (.sq .z (.sq .z .z)))))) (args := [t0, t1]) Tryz.func24 (by kernel_rfl) (by kernel_rfl) (by kernel_rfl) (Eq.mp (by kernel_rfl) h)
theorem n_rational_Mul : Enters Tryz.prog 24 := enters_of Tryz.func24 (by kernel_rfl) rfl
def s_rational_Add (P : Program) (t0 t1 : Value) (w : World) (R : Ending → World → Prop) : Prop :=
 Bx P 30 t0 w fun t2 w =>
 Bx P 30 t1 w fun t3 w =>
 Al P 30 w fun t4 w =>
 Ld P 30 t2 w fun t6 w =>
 Ld P 30 t3 w fun t7 w =>
 Cl P 57 #[(.func (.func 58) #[] #[]), t6, t7] w (Pk R) fun t8 w =>
 Ex t8 0 w fun t9 w =>
 Ex t8 1 w fun t10 w =>
 Sto P 30 t4 t9 w fun w =>
 Rc P 30 t4 w fun r0 =>
 R (.returned (.tuple #[r0, t10])) w
theorem e_rational_Add {t0 t1 : Value} {w : World} {R : Ending → World → Prop} (h : s_rational_Add Tryz.prog t0 t1 w R) : Calls Tryz.prog 25 #[t0, t1] w R :=
 enter (h := (.sq .z (.sq .z .z))) (args := [t0, t1]) Tryz.func25 (by kernel_rfl) (by kernel_rfl) (by kernel_rfl) (Eq.mp (by kernel_rfl) h)
theorem n_rational_Add : Enters Tryz.prog 25 := enters_of Tryz.func25 (by kernel_rfl) rfl
def s_rational_Div (P : Program) (t0 t1 : Value) (w : World) (R : Ending → World → Prop) : Prop :=
 Bx P 30 t0 w fun t2 w =>
 Bx P 30 t1 w fun t3 w =>
 Al P 30 w fun t4 w =>
 Bd P 83 [] w fun t8 w =>
 Bx P 83 t8 w fun t9 w =>
 Ld P 30 t2 w fun t11 w =>
 Ld P 30 t3 w fun t12 w =>
 Bs P 23 2 [(0, t11), (1, t12)] w fun t13 w =>
 Cl P 54 #[t9, t13] w (Pk R) fun t14 w =>
 Fa P 30 t2 0 w fun t16 w =>
 Ld P 9 t16 w fun t17 w =>
 Fa P 30 t3 1 w fun t18 w =>
 Ld P 9 t18 w fun t19 w =>
 Cl P 55 #[t9, t17, t19] w (Pk R) fun t20 w =>
 Fa P 30 t2 1 w fun t24 w =>
 Ld P 9 t24 w fun t25 w =>
 Fa P 30 t3 0 w fun t26 w =>
 Ld P 9 t26 w fun t27 w =>
 Cl P 55 #[t9, t25, t27] w (Pk R) fun t28 w =>
 Cl P 56 #[t9, t20, t28] w (Pk R) fun t29 w =>
 Ex t29 0 w fun t30 w =>
 Ex t29 1 w fun t31 w =>
 Sto P 30 t4 t30 w fun w =>
 Rc P 30 t4 w fun r0 =>
 R (.returned (.tuple #[r0, t31])) w
theorem e_rational_Div {t0 t1 : Value} {w : World} {R : Ending → World → Prop} (h : s_rational_Div Tryz.prog t0 t1 w R) : Calls Tryz.prog 26 #[t0, t1] w R :=
 enter (h := (.sq .z (.sq .z (.sq .z (.sq .z (.sq .z .z)))))) (args := [t0, t1]) Tryz.func26 (by kernel_rfl) (by kernel_rfl) (by kernel_rfl) (Eq.mp (by kernel_rfl) h)
theorem n_rational_Div : Enters Tryz.prog 26 := enters_of Tryz.func26 (by kernel_rfl) rfl
def s_rational_Sub (P : Program) (t0 t1 : Value) (w : World) (R : Ending → World → Prop) : Prop :=
 Bx P 30 t0 w fun t2 w =>
 Bx P 30 t1 w fun t3 w =>
 Al P 30 w fun t4 w =>
 Ld P 30 t2 w fun t6 w =>
 Ld P 30 t3 w fun t7 w =>
 Cl P 57 #[(.func (.func 59) #[] #[]), t6, t7] w (Pk R) fun t8 w =>
 Ex t8 0 w fun t9 w =>
 Ex t8 1 w fun t10 w =>
 Sto P 30 t4 t9 w fun w =>
 Rc P 30 t4 w fun r0 =>
 R (.returned (.tuple #[r0, t10])) w
theorem e_rational_Sub {t0 t1 : Value} {w : World} {R : Ending → World → Prop} (h : s_rational_Sub Tryz.prog t0 t1 w R) : Calls Tryz.prog 27 #[t0, t1] w R :=
 enter (h := (.sq .z (.sq .z .z))) (args := [t0, t1]) Tryz.func27 (by kernel_rfl) (by kernel_rfl) (by kernel_rfl) (Eq.mp (by kernel_rfl) h)
theorem n_rational_Sub : Enters Tryz.prog 27 := enters_of Tryz.func27 (by kernel_rfl) rfl
def s_rational_Valid (P : Program) (t0 : Value) (w : World) (R : Ending → World → Prop) : Prop :=
 Bx P 30 t0 w fun t1 w =>
 Fa P 30 t1 0 w fun t5 w =>
 Ld P 9 t5 w fun t6 w =>
 Cl P 60 #[t6] w (Pk R) fun t7 w =>
 Un P .not t7 w fun t8 w =>
 Gd t8 false (fun k => Fa P 30 t1 1 w k) w fun t10 w =>
 Gd t8 false (fun k => Ld P 9 t10 w k) w fun t11 w =>
 Gd t8 false (fun k => Cl P 60 #[t11] w (Pk R) k) w fun t12 w =>
 Gd t8 false (fun k => Un P .not t12 w k) w fun t13 w =>
 Pick t8 (.bool true) t13 w fun t14 w =>
 Gd t14 false (fun k => Fa P 30 t1 1 w k) w fun t16 w =>
 Gd t14 false (fun k => Ld P 9 t16 w k) w fun t17 w =>
 Gd t14 false (fun k => Cl P 52 #[t17, (str [48])] w (Pk R) k) w fun t18 w =>
 Gd t14 false (fun k => Bn P .leq 3 true t18 (.int .i64 0) w k) w fun t19 w =>
 Pick t14 (.bool true) t19 w fun t20 w =>
 If t20
 (R (.returned (.bool false)) w)
 (Fa P 30 t1 0 w fun t22 w =>
 Ld P 9 t22 w fun t23 w =>
 Fa P 30 t1 1 w fun t24 w =>
 Ld P 9 t24 w fun t25 w =>
 Cl P 61 #[t23, t25] w (Pk R) fun t26 w =>
 Ex t26 0 w fun t27 w =>
 Ex t26 1 w fun t28 w =>
 Bn P .eql 31 true t28 (.int .i64 0) w fun t30 w =>
 Gd t30 true (fun k => k t27 w) w fun t32 w =>
 Gd t30 true (fun k => Bn P .eql 9 true t32 (str [49]) w k) w fun t33 w =>
 Pick t30 t33 (.bool false) w fun t34 w =>
 R (.returned t34) w)
theorem e_rational_Valid {t0 : Value} {w : World} {R : Ending → World → Prop} (h : s_rational_Valid Tryz.prog t0 w R) : Calls Tryz.prog 28 #[t0] w R :=
 enter (h := (.sq .z (.sq (.sq .z (.cd (.sq .z .z) .z)) (.sq .z (.sq .z .z))))) (args := [t0]) Tryz.func28 (by kernel_rfl) (by kernel_rfl) (by kernel_rfl) (Eq.mp (by kernel_rfl) h)
theorem n_rational_Valid : Enters Tryz.prog 28 := enters_of Tryz.func28 (by kernel_rfl) rfl
def s_ref16_pick (P : Program) (t0 t1 : Value) (w : World) (R : Ending → World → Prop) : Prop :=
 Bn P .lss 3 true t0 (.int .i64 0) w fun t6 w =>
 If t6
 (Bn P .add 3 true t0 (.int .i64 1) w fun t8 w =>
 Un P .neg t8 w fun t9 w =>
 Bn P .rem 3 false t9 t1 w fun t12 w =>
 R (.returned t12) w)
 (Bn P .rem 3 false t0 t1 w fun t12x1 w =>
 R (.returned t12x1) w)
theorem e_ref16_pick {t0 t1 : Value} {w : World} {R : Ending → World → Prop} (h : s_ref16_pick Tryz.prog t0 t1 w R) : Calls Tryz.prog 29 #[t0, t1] w R :=
 enter (h := (.sq .z (.sq (.sq .z (.cd .z .z)) (.sq .z .z)))) (args := [t0, t1]) Tryz.func29 (by kernel_rfl) (by kernel_rfl) (by kernel_rfl) (Eq.mp (by kernel_rfl) h)
theorem n_ref16_pick : Enters Tryz.prog 29 := enters_of Tryz.func29 (by kernel_rfl) rfl
def s_ref04_Of (P : Program) (t0 t1 : Value) (w : World) (R : Ending → World → Prop) : Prop :=
 Al P 30 w fun t4 w =>
 Cl P 63 #[t0] w (Pk R) fun t7 w =>
 Cl P 63 #[t1] w (Pk R) fun t9 w =>
 Cl P 62 #[t7, t9] w (Pk R) fun t10 w =>
 Ex t10 0 w fun t11 w =>
 Ex t10 1 w fun t12 w =>
 Sto P 30 t4 t11 w fun w =>
 Rc P 30 t4 w fun r0 =>
 R (.returned (.tuple #[r0, t12])) w
theorem e_ref04_Of {t0 t1 : Value} {w : World} {R : Ending → World → Prop} (h : s_ref04_Of Tryz.prog t0 t1 w R) : Calls Tryz.prog 30 #[t0, t1] w R :=
 enter (h := (.sq .z (.sq .z .z))) (args := [t0, t1]) Tryz.func30 (by kernel_rfl) (by kernel_rfl) (by kernel_rfl) (Eq.mp (by kernel_rfl) h)
theorem n_ref04_Of : Enters Tryz.prog 30 := enters_of Tryz.func30 (by kernel_rfl) rfl
def s_estimate_elements (P : Program) (t0 t1 : Value) (w : World) (R : Ending → World → Prop) : Prop :=
 Bt P .len #[23] 3 #[t0] w fun t9 w =>
 Bt P .len #[23] 3 #[t1] w fun t11 w =>
 Bn P .neq 3 false t9 t11 w fun t12 w =>
 Gd t12 false (fun k => k t0 w) w fun t14 w =>
 Gd t12 false (fun k => Bt P .len #[23] 3 #[t14] w k) w fun t15 w =>
 Gd t12 false (fun k => Bn P .gtr 3 true t15 (.int .i64 400) w k) w fun t16 w =>
 Pick t12 (.bool true) t16 w fun t17 w =>
 If t17
 (R (.returned (.tuple #[(.slice none 0 0), (.bool false)])) w)
 (Bt P .len #[23] 3 #[t0] w fun t19 w =>
 Lp2 (.slice none 0 0) (.int .i64 0) w (fun t6 t20 w k1 =>
 Bn P .lss 3 false t20 t19 w fun t21 w =>
 If t21
 (Dv P true (Instr.indexAt 23 t0 t20) w.drew fun t25 =>
 Dv P false (Instr.loadAt 30 t25) w.drew fun t26 =>
 Cl P 28 #[t26] w.drew (Pk R) fun t27 w =>
 Dv P true (Op.unary .not t27) w fun t28 =>
 GdP t28 false (fun k => k t1) fun t30 =>
 GdP t28 false (fun k => k t20) fun t31 =>
 GdP t28 false (fun k => Dv P true (Instr.indexAt 23 t30 t31) w k) fun t32 =>
 GdP t28 false (fun k => Dv P false (Instr.loadAt 30 t32) w k) fun t33 =>
 Gd t28 false (fun k => Cl P 28 #[t33] w (Pk R) k) w fun t34 w =>
 GdP t28 false (fun k => Dv P true (Op.unary .not t34) w k) fun t35 =>
 PickP t28 (.bool true) t35 fun t36 =>
 GdP t36 false (fun k => k t1) fun t38 =>
 GdP t36 false (fun k => k t20) fun t39 =>
 GdP t36 false (fun k => Dv P true (Instr.indexAt 23 t38 t39) w k) fun t40 =>
 GdP t36 false (fun k => Dv P false (Instr.loadAt 30 t40) w k) fun t41 =>
 GdP t36 false (fun k => Dv P false (Instr.loadAt 30 (.pointer (some ⟨0, 0, none⟩))) w k) fun t42 =>
 Gd t36 false (fun k => Cl P 21 #[t41, t42] w (Pk R) k) w fun t43 w =>
 GdP t36 false (fun k => Dv P true (bn .leq 3 true t43 (.int .i64 0)) w k) fun t44 =>
 PickP t36 (.bool true) t44 fun t45 =>
 GdP t45 false (fun k => k t1) fun t47 =>
 GdP t45 false (fun k => k t20) fun t48 =>
 GdP t45 false (fun k => Dv P true (Instr.indexAt 23 t47 t48) w k) fun t49 =>
 GdP t45 false (fun k => Dv P false (Instr.loadAt 30 t49) w k) fun t50 =>
 GdP t45 false (fun k => Dv P false (Instr.loadAt 30 (.pointer (some ⟨1, 0, none⟩))) w k) fun t51 =>
 Gd t45 false (fun k => Cl P 21 #[t50, t51] w (Pk R) k) w fun t52 w =>
 GdP t45 false (fun k => Dv P true (bn .gtr 3 true t52 (.int .i64 0)) w k) fun t53 =>
 PickP t45 (.bool true) t53 fun t54 =>
 If t54
 (R (.returned (.tuple #[(.slice none 0 0), (.bool false)])) w)
 (Dv P true (Instr.indexAt 23 t0 t20) w.drew fun t58 =>
 Dv P false (Instr.loadAt 30 t58) w.drew fun t59 =>
 Dv P true (Instr.indexAt 23 t1 t20) w.drew fun t62 =>
 Dv P false (Instr.loadAt 30 t62) w.drew fun t63 =>
 Dv P true (Instr.build 68 #[(0, t59), (1, t63)]) w.drew fun t64 =>
 Bs P 55 1 [(0, t64)] w.drew fun t65 w =>
 Bt P .append #[55, 55] 55 #[t6, t65] w fun t66 w =>
 Bn P .add 3 true t20 (.int .i64 1) w fun t67 w =>
 k1 t66 t67 w))
 (R (.returned (.tuple #[t6, (.bool true)])) w)))
theorem e_estimate_elements {t0 t1 : Value} {w : World} {R : Ending → World → Prop} (h : s_estimate_elements Tryz.prog t0 t1 w R) : Calls Tryz.prog 31 #[t0, t1] w R :=
 enter (h := (.sq .z (.sq (.sq .z (.cd (.sq .z .z) .z)) (.sq .z (.sq (.sq .z (.bk (.lp [6, 20] [4, 5, 7, 21, 22, 23, 24, 25, 26, 27, 28, 29, 30, 31, 32, 33, 34, 35, 36, 37, 38, 39, 40, 41, 42, 43, 44, 45, 46, 47, 48, 49, 50, 51, 52, 53, 54, 55, 56, 57, 58, 59, 60, 61, 62, 63, 64, 65, 66, 67] (.sq .z (.sq (.cd .z .z) (.sq (.bk (.sq .z (.sq (.sq (.dr (.pur true 0 (.pur true 1 (.pur true 2 (.pur false 3 (.eff 4 [] (.pur true 5 (.pur true 6 (.pur true 7 (.pur true 8 (.pur true 9 (.pur false 10 (.eff 11 [] (.pur true 12 (.pur true 13 (.pur true 14 (.pur true 15 (.pur true 16 (.pur true 17 (.pur false 18 (.pur false 19 (.eff 20 [] (.pur true 21 (.pur true 22 (.pur true 23 (.pur true 24 (.pur true 25 (.pur true 26 (.pur false 27 (.pur false 28 (.eff 29 [] (.pur true 30 (.pur true 31 .done))))))))))))))))))))))))))))))))) (.cd (.sq .z .z) .z)) (.dr (.pur true 0 (.pur true 1 (.pur true 2 (.pur true 3 (.pur false 4 (.pur true 5 (.pur true 6 (.pur true 7 (.pur false 8 (.pur true 9 (.eff 10 [] (.eff 11 [] (.pur true 12 .done))))))))))))))))) .z)))))) (.sq .z .z)))))) (args := [t0, t1]) Tryz.func31 (by kernel_rfl) (by kernel_rfl) (by kernel_rfl) (Eq.mp (by kernel_rfl) h)
theorem n_estimate_elements : Enters Tryz.prog 31 := enters_of Tryz.func31 (by kernel_rfl) rfl
def s_estimate_calculator_estimate (P : Program) (t0 t1 : Value) (w : World) (R : Ending → World → Prop) : Prop :=
 Bx P 69 t0 w fun t2 w =>
 Al P 30 w fun t4 w =>
 Ld P 30 (.pointer (some ⟨0, 0, none⟩)) w fun t6 w =>
 Ld P 69 t2 w fun t7 w =>
 Cl P 37 #[t1, t6, t7, (.func (.func 64) #[] #[t2])] w (Pk R) fun t9 w =>
 Sto P 30 t4 t9 w fun w =>
 Rc P 30 t4 w fun r0 =>
 R (.returned r0) w
theorem e_estimate_calculator_estimate {t0 t1 : Value} {w : World} {R : Ending → World → Prop} (h : s_estimate_calculator_estimate Tryz.prog t0 t1 w R) : Calls Tryz.prog 32 #[t0, t1] w R :=
 enter (h := (.sq .z (.sq .z .z))) (args := [t0, t1]) Tryz.func32 (by kernel_rfl) (by kernel_rfl) (by kernel_rfl) (Eq.mp (by kernel_rfl) h)
theorem n_estimate_calculator_estimate : Enters Tryz.prog 32 := enters_of Tryz.func32 (by kernel_rfl) rfl
def s_estimate_calculator_estimated (P : Program) (t0 t1 : Value) (w : World) (R : Ending → World → Prop) : Prop :=
 Bx P 69 t0 w fun t2 w =>
 Al P 30 w fun t4 w =>
 Ld P 30 (.pointer (some ⟨0, 0, none⟩)) w fun t6 w =>
 Ld P 69 t2 w fun t7 w =>
 Cl P 37 #[t1, t6, t7, (.func (.func 65) #[] #[t2])] w (Pk R) fun t9 w =>
 Sto P 30 t4 t9 w fun w =>
 Rc P 30 t4 w fun r0 =>
 R (.returned r0) w
theorem e_estimate_calculator_estimated {t0 t1 : Value} {w : World} {R : Ending → World → Prop} (h : s_estimate_calculator_estimated Tryz.prog t0 t1 w R) : Calls Tryz.prog 33 #[t0, t1] w R :=
 enter (h := (.sq .z (.sq .z .z))) (args := [t0, t1]) Tryz.func33 (by kernel_rfl) (by kernel_rfl) (by kernel_rfl) (Eq.mp (by kernel_rfl) h)
theorem n_estimate_calculator_estimated : Enters Tryz.prog 33 := enters_of Tryz.func33 (by kernel_rfl) rfl
def s_ref16_Elements (P : Program) (t0 t1 : Value) (w : World) (R : Ending → World → Prop) : Prop :=
 Bt P .len #[23] 3 #[t0] w fun t9 w =>
 Bt P .len #[23] 3 #[t1] w fun t11 w =>
 Bn P .neq 3 false t9 t11 w fun t12 w =>
 Gd t12 false (fun k => k t0 w) w fun t14 w =>
 Gd t12 false (fun k => Bt P .len #[23] 3 #[t14] w k) w fun t15 w =>
 Gd t12 false (fun k => Bn P .gtr 3 true t15 (.int .i64 400) w k) w fun t16 w =>
 Pick t12 (.bool true) t16 w fun t17 w =>
 If t17
 (R (.returned (.bool false)) w)
 (Lp1 (.int .i64 0) w (fun t5 w k1 =>
 Bt P .len #[23] 3 #[t0] w fun t20 w =>
 Bn P .lss 3 false t5 t20 w fun t21 w =>
 If t21
 (Ia P 23 t0 t5 w fun t26 w =>
 Ld P 30 t26 w fun t27 w =>
 Cl P 36 #[t27] w (Pk R) fun t28 w =>
 Un P .not t28 w fun t29 w =>
 Gd t29 false (fun k => k t1 w) w fun t31 w =>
 Gd t29 false (fun k => k t5 w) w fun t32 w =>
 Gd t29 false (fun k => Ia P 23 t31 t32 w k) w fun t33 w =>
 Gd t29 false (fun k => Ld P 30 t33 w k) w fun t34 w =>
 Gd t29 false (fun k => Cl P 36 #[t34] w (Pk R) k) w fun t35 w =>
 Gd t29 false (fun k => Un P .not t35 w k) w fun t36 w =>
 Pick t29 (.bool true) t36 w fun t37 w =>
 If t37
 (R (.returned (.bool false)) w)
 (Dv P true (Instr.indexAt 23 t1 t5) w.drew fun t40 =>
 Dv P false (Instr.loadAt 30 t40) w.drew fun t41 =>
 Cl P 41 #[(.int .i64 0)] w.drew (Pk R) fun t42 w =>
 Ke P (Instr.loadAt 30 t40) t41 w <|
 Cl P 66 #[t41, t42] w (Pk R) fun t43 w =>
 Dv P true (Instr.indexAt 23 t1 t5) w.drew fun t46 =>
 Dv P false (Instr.loadAt 30 t46) w.drew fun t47 =>
 Cl P 41 #[(.int .i64 1)] w.drew (Pk R) fun t48 w =>
 Ke P (Instr.loadAt 30 t46) t47 w <|
 Cl P 66 #[t47, t48] w (Pk R) fun t49 w =>
 Bn P .leq 3 true t43 (.int .i64 0) w fun t51 w =>
 Gd t51 false (fun k => k t49 w) w fun t53 w =>
 Gd t51 false (fun k => Bn P .gtr 3 true t53 (.int .i64 0) w k) w fun t54 w =>
 Pick t51 (.bool true) t54 w fun t55 w =>
 If t55
 (R (.returned (.bool false)) w)
 (Bn P .add 3 true t5 (.int .i64 1) w fun t23 w =>
 k1 t23 w)))
 (R (.returned (.bool true)) w)))
theorem e_ref16_Elements {t0 t1 : Value} {w : World} {R : Ending → World → Prop} (h : s_ref16_Elements Tryz.prog t0 t1 w R) : Calls Tryz.prog 34 #[t0, t1] w R :=
 enter (h := (.sq .z (.sq (.sq .z (.cd (.sq .z .z) .z)) (.sq (.sq .z (.bk (.lp [5] [4, 6, 7, 18, 19, 20, 21, 22, 23, 24, 25, 26, 27, 28, 29, 30, 31, 32, 33, 34, 35, 36, 37, 38, 39, 40, 41, 42, 43, 44, 45, 46, 47, 48, 49, 50, 51, 52, 53, 54, 55] (.sq (.sq .z (.cd .z .z)) (.sq (.bk (.sq (.sq .z (.cd (.sq .z .z) .z)) (.sq (.dr (.pur true 0 (.pur true 1 (.pur true 2 (.pur false 3 (.eff 4 [3] (.eff 5 [] (.pur true 6 .done)))))))) (.sq (.dr (.pur true 0 (.pur true 1 (.pur true 2 (.pur false 3 (.eff 4 [3] (.eff 5 [] (.pur true 6 .done)))))))) (.sq .z (.cd (.sq .z .z) .z)))))) .z))))) (.sq .z .z))))) (args := [t0, t1]) Tryz.func34 (by kernel_rfl) (by kernel_rfl) (by kernel_rfl) (Eq.mp (by kernel_rfl) h)
theorem n_ref16_Elements : Enters Tryz.prog 34 := enters_of Tryz.func34 (by kernel_rfl) rfl
def s_ref16_total (P : Program) (t0 t1 : Value) (w : World) (R : Ending → World → Prop) : Prop :=
 Al P 30 w fun t4 w =>
 Al P 30 w fun t5 w =>
 Cl P 41 #[(.int .i64 0)] w (Pk R) fun t9 w =>
 Al P 30 w fun t6 w =>
 Sto P 30 t6 t9 w fun w =>
 Cl P 41 #[(.int .i64 0)] w (Pk R) fun t10 w =>
 Al P 30 w fun t7 w =>
 Sto P 30 t7 t10 w fun w =>
 Lp1 (.int .i64 0) w (fun t8 w k1 =>
 Bt P .len #[23] 3 #[t0] w fun t13 w =>
 Bn P .lss 3 false t8 t13 w fun t14 w =>
 If t14
 (Dv P false (Instr.loadAt 30 t6) w.drew fun t17 =>
 Dv P true (Instr.indexAt 23 t0 t8) w.drew fun t20 =>
 Dv P false (Instr.loadAt 30 t20) w.drew fun t21 =>
 Dv P true (Instr.indexAt 23 t1 t8) w.drew fun t24 =>
 Dv P false (Instr.loadAt 30 t24) w.drew fun t25 =>
 Cl P 43 #[t21, t25] w.drew (Pk R) fun t26 w =>
 Ke P (Instr.loadAt 30 t6) t17 w <|
 Cl P 42 #[t17, t26] w (Pk R) fun t27 w =>
 Sto P 30 t6 t27 w fun w =>
 Dv P false (Instr.loadAt 30 t7) w.drew fun t28 =>
 Dv P true (Instr.indexAt 23 t0 t8) w.drew fun t31 =>
 Dv P false (Instr.loadAt 30 t31) w.drew fun t32 =>
 Dv P true (Instr.indexAt 23 t0 t8) w.drew fun t35 =>
 Dv P false (Instr.loadAt 30 t35) w.drew fun t36 =>
 Dv P true (Instr.indexAt 23 t1 t8) w.drew fun t41 =>
 Dv P false (Instr.loadAt 30 t41) w.drew fun t42 =>
 Dv P true (Instr.indexAt 23 t1 t8) w.drew fun t47 =>
 Dv P false (Instr.loadAt 30 t47) w.drew fun t48 =>
 Dv P true (Instr.indexAt 23 t1 t8) w.drew fun t51 =>
 Dv P false (Instr.loadAt 30 t51) w.drew fun t52 =>
 Cl P 44 #[t32, t36] w.drew (Pk R) fun t37 w =>
 Ke P (Instr.loadAt 30 t7) t28 w <|
 Ke P (Instr.loadAt 30 t41) t42 w <|
 Ke P (Instr.loadAt 30 t47) t48 w <|
 Ke P (Instr.loadAt 30 t51) t52 w <|
 Cl P 41 #[(.int .i64 1)] w (Pk R) fun t38 w =>
 Ke P (Instr.loadAt 30 t7) t28 w <|
 Ke P (Instr.loadAt 30 t41) t42 w <|
 Ke P (Instr.loadAt 30 t47) t48 w <|
 Ke P (Instr.loadAt 30 t51) t52 w <|
 Cl P 45 #[t38, t42] w (Pk R) fun t43 w =>
 Ke P (Instr.loadAt 30 t7) t28 w <|
 Ke P (Instr.loadAt 30 t47) t48 w <|
 Ke P (Instr.loadAt 30 t51) t52 w <|
 Cl P 44 #[t37, t43] w (Pk R) fun t44 w =>
 Ke P (Instr.loadAt 30 t7) t28 w <|
 Ke P (Instr.loadAt 30 t47) t48 w <|
 Ke P (Instr.loadAt 30 t51) t52 w <|
 Cl P 44 #[t48, t52] w (Pk R) fun t53 w =>
 Ke P (Instr.loadAt 30 t7) t28 w <|
 Cl P 43 #[t44, t53] w (Pk R) fun t54 w =>
 Ke P (Instr.loadAt 30 t7) t28 w <|
 Cl P 42 #[t28, t54] w (Pk R) fun t55 w =>
 Sto P 30 t7 t55 w fun w =>
 Bn P .add 3 true t8 (.int .i64 1) w fun t16 w =>
 k1 t16 w)
 (Dv P false (Instr.loadAt 30 t6) w.drew fun t56 =>
 Dv P false (Instr.loadAt 30 t7) w.drew fun t57 =>
 Sto P 30 t4 t56 w.drew fun w =>
 Ke P (Instr.loadAt 30 t7) t57 w <|
 Sto P 30 t5 t57 w fun w =>
 Rc P 30 t4 w fun r0 =>
 Rc P 30 t5 w fun r1 =>
 R (.returned (.tuple #[r0, r1])) w))
theorem e_ref16_total {t0 t1 : Value} {w : World} {R : Ending → World → Prop} (h : s_ref16_total Tryz.prog t0 t1 w R) : Calls Tryz.prog 35 #[t0, t1] w R :=
 enter (h := (.sq .z (.sq .z (.sq .z (.sq (.sq .z (.bk (.lp [8] [11, 12, 13, 14, 15, 16, 17, 18, 19, 20, 21, 22, 23, 24, 25, 26, 27, 28, 29, 30, 31, 32, 33, 34, 35, 36, 37, 38, 39, 40, 41, 42, 43, 44, 45, 46, 47, 48, 49, 50, 51, 52, 53, 54, 55] (.sq (.sq .z (.cd .z .z)) (.sq (.bk (.sq (.dr (.pur false 0 (.pur true 1 (.pur true 2 (.pur true 3 (.pur false 4 (.pur true 5 (.pur true 6 (.pur true 7 (.pur false 8 (.eff 9 [0] (.eff 10 [] (.eff 11 [] .done))))))))))))) (.dr (.pur false 0 (.pur true 1 (.pur true 2 (.pur true 3 (.pur false 4 (.pur true 5 (.pur true 6 (.pur true 7 (.pur false 8 (.pur true 11 (.pur true 12 (.pur true 13 (.pur false 14 (.pur true 17 (.pur true 18 (.pur true 19 (.pur false 20 (.pur true 21 (.pur true 22 (.pur true 23 (.pur false 24 (.eff 9 [0, 14, 20, 24] (.eff 10 [0, 14, 20, 24] (.eff 15 [0, 20, 24] (.eff 16 [0, 20, 24] (.eff 25 [0] (.eff 26 [0] (.eff 27 [] (.eff 28 [] .done)))))))))))))))))))))))))))))))) .z))))) (.sq (.dr (.pur false 0 (.pur false 1 (.eff 2 [1] (.eff 3 [] .done))))) .z)))))) (args := [t0, t1]) Tryz.func35 (by kernel_rfl) (by kernel_rfl) (by kernel_rfl) (Eq.mp (by kernel_rfl) h)
theorem n_ref16_total : Enters Tryz.prog 35 := enters_of Tryz.func35 (by kernel_rfl) rfl
def s_ref04_Valid (P : Program) (t0 : Value) (w : World) (R : Ending → World → Prop) : Prop :=
 Bx P 30 t0 w fun t1 w =>
 Fa P 30 t1 0 w fun t7 w =>
 Ld P 9 t7 w fun t8 w =>
 Cl P 67 #[t8] w (Pk R) fun t9 w =>
 Fa P 30 t1 1 w fun t10 w =>
 Ld P 9 t10 w fun t11 w =>
 Cl P 67 #[t11] w (Pk R) fun t12 w =>
 Un P .not t9 w fun t14 w =>
 Gd t14 false (fun k => k t12 w) w fun t16 w =>
 Gd t14 false (fun k => Un P .not t16 w k) w fun t17 w =>
 Pick t14 (.bool true) t17 w fun t18 w =>
 Gd t18 false (fun k => Fa P 30 t1 1 w k) w fun t20 w =>
 Gd t18 false (fun k => Ld P 9 t20 w k) w fun t21 w =>
 Gd t18 false (fun k => Cl P 68 #[t21, (str [48])] w (Pk R) k) w fun t22 w =>
 Gd t18 false (fun k => Bn P .leq 3 true t22 (.int .i64 0) w k) w fun t23 w =>
 Pick t18 (.bool true) t23 w fun t24 w =>
 If t24
 (R (.returned (.bool false)) w)
 (Fa P 30 t1 0 w fun t26 w =>
 Ld P 9 t26 w fun t27 w =>
 Fa P 30 t1 1 w fun t28 w =>
 Ld P 9 t28 w fun t29 w =>
 Cl P 69 #[t27, t29] w (Pk R) fun t30 w =>
 Ex t30 0 w fun t31 w =>
 Ex t30 1 w fun t32 w =>
 Bn P .eql 31 true t32 (.int .i64 0) w fun t34 w =>
 Gd t34 true (fun k => k t31 w) w fun t36 w =>
 Gd t34 true (fun k => Bn P .eql 9 true t36 (str [49]) w k) w fun t37 w =>
 Pick t34 t37 (.bool false) w fun t38 w =>
 R (.returned t38) w)
theorem e_ref04_Valid {t0 : Value} {w : World} {R : Ending → World → Prop} (h : s_ref04_Valid Tryz.prog t0 w R) : Calls Tryz.prog 36 #[t0] w R :=
 enter (h := (.sq .z (.sq .z (.sq .z (.sq (.sq .z (.cd (.sq .z .z) .z)) (.sq .z (.sq .z .z))))))) (args := [t0]) Tryz.func36 (by kernel_rfl) (by kernel_rfl) (by kernel_rfl) (Eq.mp (by kernel_rfl) h)
theorem n_ref04_Valid : Enters Tryz.prog 36 := enters_of Tryz.func36 (by kernel_rfl) rfl
def s_estimate_fold_estimate_element (P : Program) (t0 t1 t2 t3 : Value) (w : World) (R : Ending → World → Prop) : Prop :=
 Bx P 30 t1 w fun t5 w =>
 Al P 30 w fun t8 w =>
 Bt P .len #[55] 3 #[t0] w fun t12 w =>
 Lp1 (.int .i64 0) w (fun t13 w k1 =>
 Bn P .lss 3 false t13 t12 w fun t14 w =>
 If t14
 (Ia P 55 t0 t13 w fun t15 w =>
 Ld P 68 t15 w fun t16 w =>
 Al P 68 w fun t10 w =>
 Sto P 68 t10 t16 w fun w =>
 Dv P false (Instr.loadAt 30 t5) w.drew fun t18 =>
 Dv P false (Instr.loadAt 68 t10) w.drew fun t20 =>
 Cw P t3 #[t20] w.drew (Pk R) fun t21 w =>
 Ke P (Instr.loadAt 30 t5) t18 w <|
 Cl P 47 #[t2, t18, t21] w (Pk R) fun t22 w =>
 Sto P 30 t5 t22 w fun w =>
 Bn P .add 3 true t13 (.int .i64 1) w fun t23 w =>
 k1 t23 w)
 (Ld P 30 t5 w fun t24 w =>
 Sto P 30 t8 t24 w fun w =>
 Rc P 30 t8 w fun r0 =>
 R (.returned r0) w))
theorem e_estimate_fold_estimate_element {t0 t1 t2 t3 : Value} {w : World} {R : Ending → World → Prop} (h : s_estimate_fold_estimate_element Tryz.prog t0 t1 t2 t3 w R) : Calls Tryz.prog 37 #[t0, t1, t2, t3] w R :=
 enter (h := (.sq .z (.sq (.sq .z (.bk (.lp [13] [10, 14, 15, 16, 17, 18, 19, 20, 21, 22, 23] (.sq .z (.sq (.cd .z .z) (.sq (.bk (.sq .z (.dr (.pur true 0 (.pur false 1 (.pur true 2 (.pur false 3 (.eff 4 [1] (.eff 5 [] (.eff 6 [] .done)))))))))) .z)))))) (.sq .z .z)))) (args := [t0, t1, t2, t3]) Tryz.func37 (by kernel_rfl) (by kernel_rfl) (by kernel_rfl) (Eq.mp (by kernel_rfl) h)
theorem n_estimate_fold_estimate_element : Enters Tryz.prog 37 := enters_of Tryz.func37 (by kernel_rfl) rfl
def s_estimate_Variance_1 (P : Program) (t0 t1 : Value) (w : World) (R : Ending → World → Prop) : Prop :=
 Bx P 68 t0 w fun t2 w =>
 Al P 30 w fun t3 w =>
 Dv P false (Instr.loadAt 68 t2) w.drew fun t4 =>
 Dv P true (Instr.fieldAt 68 t2 1) w.drew fun t6 =>
 Dv P false (Instr.loadAt 30 t6) w.drew fun t7 =>
 Cl P 40 #[t1, t4] w.drew (Pk R) fun t5 w =>
 Ke P (Instr.loadAt 30 t6) t7 w <|
 Cl P 39 #[t1, t5, t7] w (Pk R) fun t8 w =>
 Sto P 30 t3 t8 w fun w =>
 Rc P 30 t3 w fun r0 =>
 R (.returned r0) w
theorem e_estimate_Variance_1 {t0 t1 : Value} {w : World} {R : Ending → World → Prop} (h : s_estimate_Variance_1 Tryz.prog t0 t1 w R) : Calls Tryz.prog 38 #[t0, t1] w R :=
 enter (h := (.sq .z (.sq (.dr (.pur false 0 (.pur true 2 (.pur false 3 (.eff 1 [3] (.eff 4 [] (.eff 5 [] .done))))))) .z))) (args := [t0, t1]) Tryz.func38 (by kernel_rfl) (by kernel_rfl) (by kernel_rfl) (Eq.mp (by kernel_rfl) h)
theorem n_estimate_Variance_1 : Enters Tryz.prog 38 := enters_of Tryz.func38 (by kernel_rfl) rfl
def s_estimate_calculator_div (P : Program) (t0 t1 t2 : Value) (w : World) (R : Ending → World → Prop) : Prop :=
 Bx P 30 t1 w fun t4 w =>
 Bx P 30 t2 w fun t5 w =>
 Al P 30 w fun t6 w =>
 NcP t0 fun t8 =>
 Dv P true (Instr.fieldAt 61 t8 0) w.drew fun t9 =>
 Dv P false (Instr.loadAt 30 t4) w.drew fun t10 =>
 Dv P false (Instr.loadAt 30 t5) w.drew fun t11 =>
 Cl P 26 #[t10, t11] w.drew (Pk R) fun t12 w =>
 ExP t12 0 fun t13 =>
 ExP t12 1 fun t14 =>
 Cl P 70 #[t9, t13, t14] w (Pk R) fun t15 w =>
 Sto P 30 t6 t15 w fun w =>
 Rc P 30 t6 w fun r0 =>
 R (.returned r0) w
theorem e_estimate_calculator_div {t0 t1 t2 : Value} {w : World} {R : Ending → World → Prop} (h : s_estimate_calculator_div Tryz.prog t0 t1 t2 w R) : Calls Tryz.prog 39 #[t0, t1, t2] w R :=
 enter (h := (.sq .z (.sq (.dr (.pur true 0 (.pur true 1 (.pur true 2 (.pur false 3 (.pur false 4 (.eff 5 [] (.pur true 6 (.pur true 7 (.eff 8 [] (.eff 9 [] .done))))))))))) .z))) (args := [t0, t1, t2]) Tryz.func39 (by kernel_rfl) (by kernel_rfl) (by kernel_rfl) (Eq.mp (by kernel_rfl) h)
theorem n_estimate_calculator_div : Enters Tryz.prog 39 := enters_of Tryz.func39 (by kernel_rfl) rfl
def s_estimate_calculator_rest (P : Program) (t0 t1 : Value) (w : World) (R : Ending → World → Prop) : Prop :=
 Bx P 68 t1 w fun t3 w =>
 Al P 30 w fun t4 w =>
 Dv P true (Instr.fieldAt 68 t3 0) w.drew fun t7 =>
 Dv P false (Instr.loadAt 30 t7) w.drew fun t8 =>
 Dv P true (Instr.fieldAt 68 t3 0) w.drew fun t9 =>
 Dv P false (Instr.loadAt 30 t9) w.drew fun t10 =>
 Dv P false (Instr.loadAt 30 (.pointer (some ⟨1, 0, none⟩))) w.drew fun t13 =>
 Dv P true (Instr.fieldAt 68 t3 1) w.drew fun t14 =>
 Dv P false (Instr.loadAt 30 t14) w.drew fun t15 =>
 Cl P 48 #[t0, t8, t10] w.drew (Pk R) fun t11 w =>
 Ke P (Instr.loadAt 30 (.pointer (some ⟨1, 0, none⟩))) t13 w <|
 Ke P (Instr.loadAt 30 t14) t15 w <|
 Cl P 49 #[t0, t13, t15] w (Pk R) fun t16 w =>
 Cl P 48 #[t0, t11, t16] w (Pk R) fun t17 w =>
 Sto P 30 t4 t17 w fun w =>
 Rc P 30 t4 w fun r0 =>
 R (.returned r0) w
theorem e_estimate_calculator_rest {t0 t1 : Value} {w : World} {R : Ending → World → Prop} (h : s_estimate_calculator_rest Tryz.prog t0 t1 w R) : Calls Tryz.prog 40 #[t0, t1] w R :=
 enter (h := (.sq .z (.sq (.dr (.pur true 0 (.pur true 1 (.pur true 2 (.pur false 3 (.pur true 4 (.pur false 5 (.pur true 7 (.pur false 8 (.pur true 9 (.pur false 10 (.eff 6 [8, 10] (.eff 11 [] (.eff 12 [] (.eff 13 [] .done))))))))))))))) .z))) (args := [t0, t1]) Tryz.func40 (by kernel_rfl) (by kernel_rfl) (by kernel_rfl) (Eq.mp (by kernel_rfl) h)
theorem n_estimate_calculator_rest : Enters Tryz.prog 40 := enters_of Tryz.func40 (by kernel_rfl) rfl
def s_ref16_whole (P : Program) (t0 : Value) (w : World) (R : Ending → World → Prop) : Prop :=
 Al P 30 w fun t2 w =>
 Cl P 30 #[t0, (.int .i64 1)] w (Pk R) fun t7 w =>
 Ex t7 0 w fun t8 w =>
 Ex t7 1 w fun t9 w =>
 Al P 30 w fun t3 w =>
 Sto P 30 t3 t8 w fun w =>
 Bn P .neq 31 true t9 (.int .i64 0) w fun t11 w =>
 If t11
 (Bd P 30 [] w fun t12 w =>
 Sto P 30 t2 t12 w fun w =>
 Rc P 30 t2 w fun r0 =>
 R (.returned r0) w)
 (Ld P 30 t3 w fun t13 w =>
 Sto P 30 t2 t13 w fun w =>
 Rc P 30 t2 w fun r0 =>
 R (.returned r0) w)
theorem e_ref16_whole {t0 : Value} {w : World} {R : Ending → World → Prop} (h : s_ref16_whole Tryz.prog t0 w R) : Calls Tryz.prog 41 #[t0] w R :=
 enter (h := (.sq .z (.sq .z (.sq (.sq .z (.cd (.sq .z .z) .z)) (.sq .z .z))))) (args := [t0]) Tryz.func41 (by kernel_rfl) (by kernel_rfl) (by kernel_rfl) (Eq.mp (by kernel_rfl) h)
theorem n_ref16_whole : Enters Tryz.prog 41 := enters_of Tryz.func41 (by kernel_rfl) rfl
def s_ref16_add (P : Program) (t0 t1 : Value) (w : World) (R : Ending → World → Prop) : Prop :=
 Bx P 30 t0 w fun t2 w =>
 Bx P 30 t1 w fun t3 w =>
 Al P 30 w fun t4 w =>
 Ld P 30 t2 w fun t8 w =>
 Ld P 30 t3 w fun t9 w =>
 Cl P 71 #[t8, t9] w (Pk R) fun t10 w =>
 Ex t10 0 w fun t11 w =>
 Ex t10 1 w fun t12 w =>
 Al P 30 w fun t5 w =>
 Sto P 30 t5 t11 w fun w =>
 Bn P .neq 31 true t12 (.int .i64 0) w fun t14 w =>
 If t14
 (Bd P 30 [] w fun t15 w =>
 Sto P 30 t4 t15 w fun w =>
 Rc P 30 t4 w fun r0 =>
 R (.returned r0) w)
 (Ld P 30 t5 w fun t16 w =>
 Sto P 30 t4 t16 w fun w =>
 Rc P 30 t4 w fun r0 =>
 R (.returned r0) w)
theorem e_ref16_add {t0 t1 : Value} {w : World} {R : Ending → World → Prop} (h : s_ref16_add Tryz.prog t0 t1 w R) : Calls Tryz.prog 42 #[t0, t1] w R :=
 enter (h := (.sq .z (.sq .z (.sq (.sq .z (.cd (.sq .z .z) .z)) (.sq .z .z))))) (args := [t0, t1]) Tryz.func42 (by kernel_rfl) (by kernel_rfl) (by kernel_rfl) (Eq.mp (by kernel_rfl) h)
theorem n_ref16_add : Enters Tryz.prog 42 := enters_of Tryz.func42 (by kernel_rfl) rfl
def s_ref16_div (P : Program) (t0 t1 : Value) (w : World) (R : Ending → World → Prop) : Prop :=
 Bx P 30 t0 w fun t2 w =>
 Bx P 30 t1 w fun t3 w =>
 Al P 30 w fun t4 w =>
 Ld P 30 t2 w fun t8 w =>
 Ld P 30 t3 w fun t9 w =>
 Cl P 72 #[t8, t9] w (Pk R) fun t10 w =>
 Ex t10 0 w fun t11 w =>
 Ex t10 1 w fun t12 w =>
 Al P 30 w fun t5 w =>
 Sto P 30 t5 t11 w fun w =>
 Bn P .neq 31 true t12 (.int .i64 0) w fun t14 w =>
 If t14
 (Bd P 30 [] w fun t15 w =>
 Sto P 30 t4 t15 w fun w =>
 Rc P 30 t4 w fun r0 =>
 R (.returned r0) w)
 (Ld P 30 t5 w fun t16 w =>
 Sto P 30 t4 t16 w fun w =>
 Rc P 30 t4 w fun r0 =>
 R (.returned r0) w)
theorem e_ref16_div {t0 t1 : Value} {w : World} {R : Ending → World → Prop} (h : s_ref16_div Tryz.prog t0 t1 w R) : Calls Tryz.prog 43 #[t0, t1] w R :=
 enter (h := (.sq .z (.sq .z (.sq (.sq .z (.cd (.sq .z .z) .z)) (.sq .z .z))))) (args := [t0, t1]) Tryz.func43 (by kernel_rfl) (by kernel_rfl) (by kernel_rfl) (Eq.mp (by kernel_rfl) h)
theorem n_ref16_div : Enters Tryz.prog 43 := enters_of Tryz.func43 (by kernel_rfl) rfl
def s_ref16_mul (P : Program) (t0 t1 : Value) (w : World) (R : Ending → World → Prop) : Prop :=
 Bx P 30 t0 w fun t2 w =>
 Bx P 30 t1 w fun t3 w =>
 Al P 30 w fun t4 w =>
 Ld P 30 t2 w fun t8 w =>
 Ld P 30 t3 w fun t9 w =>
 Cl P 73 #[t8, t9] w (Pk R) fun t10 w =>
 Ex t10 0 w fun t11 w =>
 Ex t10 1 w fun t12 w =>
 Al P 30 w fun t5 w =>
 Sto P 30 t5 t11 w fun w =>
 Bn P .neq 31 true t12 (.int .i64 0) w fun t14 w =>
 If t14
 (Bd P 30 [] w fun t15 w =>
 Sto P 30 t4 t15 w fun w =>
 Rc P 30 t4 w fun r0 =>
 R (.returned r0) w)
 (Ld P 30 t5 w fun t16 w =>
 Sto P 30 t4 t16 w fun w =>
 Rc P 30 t4 w fun r0 =>
 R (.returned r0) w)
theorem e_ref16_mul {t0 t1 : Value} {w : World} {R : Ending → World → Prop} (h : s_ref16_mul Tryz.prog t0 t1 w R) : Calls Tryz.prog 44 #[t0, t1] w R :=
 enter (h := (.sq .z (.sq .z (.sq (.sq .z (.cd (.sq .z .z) .z)) (.sq .z .z))))) (args := [t0, t1]) Tryz.func44 (by kernel_rfl) (by kernel_rfl) (by kernel_rfl) (Eq.mp (by kernel_rfl) h)
theorem n_ref16_mul : Enters Tryz.prog 44 := enters_of Tryz.func44 (by kernel_rfl) rfl
def s_ref16_sub (P : Program) (t0 t1 : Value) (w : World) (R : Ending → World → Prop) : Prop :=
 Bx P 30 t0 w fun t2 w =>
 Bx P 30 t1 w fun t3 w =>
 Al P 30 w fun t4 w =>
 Ld P 30 t2 w fun t8 w =>
 Ld P 30 t3 w fun t9 w =>
 Cl P 74 #[t8, t9] w (Pk R) fun t10 w =>
 Ex t10 0 w fun t11 w =>
 Ex t10 1 w fun t12 w =>
 Al P 30 w fun t5 w =>
 Sto P 30 t5 t11 w fun w =>
 Bn P .neq 31 true t12 (.int .i64 0) w fun t14 w =>
 If t14
 (Bd P 30 [] w fun t15 w =>
 Sto P 30 t4 t15 w fun w =>
 Rc P 30 t4 w fun r0 =>
 R (.returned r0) w)
 (Ld P 30 t5 w fun t16 w =>
 Sto P 30 t4 t16 w fun w =>
 Rc P 30 t4 w fun r0 =>
 R (.returned r0) w)
theorem e_ref16_sub {t0 t1 : Value} {w : World} {R : Ending → World → Prop} (h : s_ref16_sub Tryz.prog t0 t1 w R) : Calls Tryz.prog 45 #[t0, t1] w R :=
 enter (h := (.sq .z (.sq .z (.sq (.sq .z (.cd (.sq .z .z) .z)) (.sq .z .z))))) (args := [t0, t1]) Tryz.func45 (by kernel_rfl) (by kernel_rfl) (by kernel_rfl) (Eq.mp (by kernel_rfl) h)
theorem n_ref16_sub : Enters Tryz.prog 45 := enters_of Tryz.func45 (by kernel_rfl) rfl
def s_estimate_calculator_choices (P : Program) (t0 t1 : Value) (w : World) (R : Ending → World → Prop) : Prop :=
 Bx P 69 t0 w fun t2 w =>
 Bx P 55 t1 w fun t3 w =>
 R (.returned (.func (.func 75) #[] #[t3, t2])) w
theorem e_estimate_calculator_choices {t0 t1 : Value} {w : World} {R : Ending → World → Prop} (h : s_estimate_calculator_choices Tryz.prog t0 t1 w R) : Calls Tryz.prog 46 #[t0, t1] w R :=
 enter (h := (.sq .z (.sq .z .z))) (args := [t0, t1]) Tryz.func46 (by kernel_rfl) (by kernel_rfl) (by kernel_rfl) (Eq.mp (by kernel_rfl) h)
theorem n_estimate_calculator_choices : Enters Tryz.prog 46 := enters_of Tryz.func46 (by kernel_rfl) rfl
def s_estimate_calculator_add (P : Program) (t0 t1 t2 : Value) (w : World) (R : Ending → World → Prop) : Prop :=
 Bx P 30 t1 w fun t4 w =>
 Bx P 30 t2 w fun t5 w =>
 Al P 30 w fun t6 w =>
 NcP t0 fun t8 =>
 Dv P true (Instr.fieldAt 61 t8 0) w.drew fun t9 =>
 Dv P false (Instr.loadAt 30 t4) w.drew fun t10 =>
 Dv P false (Instr.loadAt 30 t5) w.drew fun t11 =>
 Cl P 25 #[t10, t11] w.drew (Pk R) fun t12 w =>
 ExP t12 0 fun t13 =>
 ExP t12 1 fun t14 =>
 Cl P 70 #[t9, t13, t14] w (Pk R) fun t15 w =>
 Sto P 30 t6 t15 w fun w =>
 Rc P 30 t6 w fun r0 =>
 R (.returned r0) w
theorem e_estimate_calculator_add {t0 t1 t2 : Value} {w : World} {R : Ending → World → Prop} (h : s_estimate_calculator_add Tryz.prog t0 t1 t2 w R) : Calls Tryz.prog 47 #[t0, t1, t2] w R :=
 enter (h := (.sq .z (.sq (.dr (.pur true 0 (.pur true 1 (.pur true 2 (.pur false 3 (.pur false 4 (.eff 5 [] (.pur true 6 (.pur true 7 (.eff 8 [] (.eff 9 [] .done))))))))))) .z))) (args := [t0, t1, t2]) Tryz.func47 (by kernel_rfl) (by kernel_rfl) (by kernel_rfl) (Eq.mp (by kernel_rfl) h)
theorem n_estimate_calculator_add : Enters Tryz.prog 47 := enters_of Tryz.func47 (by kernel_rfl) rfl
def s_estimate_calculator_mul (P : Program) (t0 t1 t2 : Value) (w : World) (R : Ending → World → Prop) : Prop :=
 Bx P 30 t1 w fun t4 w =>
 Bx P 30 t2 w fun t5 w =>
 Al P 30 w fun t6 w =>
 NcP t0 fun t8 =>
 Dv P true (Instr.fieldAt 61 t8 0) w.drew fun t9 =>
 Dv P false (Instr.loadAt 30 t4) w.drew fun t10 =>
 Dv P false (Instr.loadAt 30 t5) w.drew fun t11 =>
 Cl P 24 #[t10, t11] w.drew (Pk R) fun t12 w =>
 ExP t12 0 fun t13 =>
 ExP t12 1 fun t14 =>
 Cl P 70 #[t9, t13, t14] w (Pk R) fun t15 w =>
 Sto P 30 t6 t15 w fun w =>
 Rc P 30 t6 w fun r0 =>
 R (.returned r0) w
theorem e_estimate_calculator_mul {t0 t1 t2 : Value} {w : World} {R : Ending → World → Prop} (h : s_estimate_calculator_mul Tryz.prog t0 t1 t2 w R) : Calls Tryz.prog 48 #[t0, t1, t2] w R :=
 enter (h := (.sq .z (.sq (.dr (.pur true 0 (.pur true 1 (.pur true 2 (.pur false 3 (.pur false 4 (.eff 5 [] (.pur true 6 (.pur true 7 (.eff 8 [] (.eff 9 [] .done))))))))))) .z))) (args := [t0, t1, t2]) Tryz.func48 (by kernel_rfl) (by kernel_rfl) (by kernel_rfl) (Eq.mp (by kernel_rfl) h)
theorem n_estimate_calculator_mul : Enters Tryz.prog 48 := enters_of Tryz.func48 (by kernel_rfl) rfl
def s_estimate_calculator_sub (P : Program) (t0 t1 t2 : Value) (w : World) (R : Ending → World → Prop) : Prop :=
 Bx P 30 t1 w fun t4 w =>
 Bx P 30 t2 w fun t5 w =>
 Al P 30 w fun t6 w =>
 NcP t0 fun t8 =>
 Dv P true (Instr.fieldAt 61 t8 0) w.drew fun t9 =>
 Dv P false (Instr.loadAt 30 t4) w.drew fun t10 =>
 Dv P false (Instr.loadAt 30 t5) w.drew fun t11 =>
 Cl P 27 #[t10, t11] w.drew (Pk R) fun t12 w =>
 ExP t12 0 fun t13 =>
 ExP t12 1 fun t14 =>
 Cl P 70 #[t9, t13, t14] w (Pk R) fun t15 w =>
 Sto P 30 t6 t15 w fun w =>
 Rc P 30 t6 w fun r0 =>
 R (.returned r0) w
theorem e_estimate_calculator_sub {t0 t1 t2 : Value} {w : World} {R : Ending → World → Prop} (h : s_estimate_calculator_sub Tryz.prog t0 t1 t2 w R) : Calls Tryz.prog 49 #[t0, t1, t2] w R :=
 enter (h := (.sq .z (.sq (.dr (.pur true 0 (.pur true 1 (.pur true 2 (.pur false 3 (.pur false 4 (.eff 5 [] (.pur true 6 (.pur true 7 (.eff 8 [] (.eff 9 [] .done))))))))))) .z))) (args := [t0, t1, t2]) Tryz.func49 (by kernel_rfl) (by kernel_rfl) (by kernel_rfl) (Eq.mp (by kernel_rfl) h)
theorem n_estimate_calculator_sub : Enters Tryz.prog 49 := enters_of Tryz.func49 (by kernel_rfl) rfl
def s_ref16_choice (P : Program) (t0 t1 t2 : Value) (w : World) (R : Ending → World → Prop) : Prop :=
 Al P 30 w fun t6 w =>
 Al P 30 w fun t7 w =>
 Al P 30 w fun t8 w =>
 Cl P 41 #[(.int .i64 1)] w (Pk R) fun t15 w =>
 Al P 30 w fun t9 w =>
 Sto P 30 t9 t15 w fun w =>
 Lp3 (.slice none 0 0) (.slice none 0 0) (.int .i64 0) w (fun t10 t11 t12 w k1 =>
 Bt P .len #[23] 3 #[t0] w fun t18 w =>
 Bn P .lss 3 false t12 t18 w fun t19 w =>
 If t19
 (Bn P .shr 3 false t2 t12 w fun t24 w =>
 Bn P .rem 3 true t24 (.int .i64 2) w fun t25 w =>
 Bn P .eql 3 true t25 (.int .i64 1) w fun t26 w =>
 If t26
 (Dv P false (Instr.loadAt 30 t9) w.drew fun t27 =>
 Dv P true (Instr.indexAt 23 t1 t12) w.drew fun t30 =>
 Dv P false (Instr.loadAt 30 t30) w.drew fun t31 =>
 Cl P 44 #[t27, t31] w.drew (Pk R) fun t32 w =>
 Sto P 30 t9 t32 w fun w =>
 Ia P 23 t0 t12 w fun t36 w =>
 Ld P 30 t36 w fun t37 w =>
 Bs P 23 1 [(0, t37)] w fun t38 w =>
 Bt P .append #[23, 23] 23 #[t10, t38] w fun t39 w =>
 Ia P 23 t1 t12 w fun t43 w =>
 Ld P 30 t43 w fun t44 w =>
 Bs P 23 1 [(0, t44)] w fun t45 w =>
 Bt P .append #[23, 23] 23 #[t11, t45] w fun t46 w =>
 Bn P .add 3 true t12 (.int .i64 1) w fun t21 w =>
 k1 t39 t46 t21 w)
 (Dv P false (Instr.loadAt 30 t9) w.drew fun t47 =>
 Dv P true (Instr.indexAt 23 t1 t12) w.drew fun t51 =>
 Dv P false (Instr.loadAt 30 t51) w.drew fun t52 =>
 Cl P 41 #[(.int .i64 1)] w.drew (Pk R) fun t48 w =>
 Ke P (Instr.loadAt 30 t9) t47 w <|
 Ke P (Instr.loadAt 30 t51) t52 w <|
 Cl P 45 #[t48, t52] w (Pk R) fun t53 w =>
 Ke P (Instr.loadAt 30 t9) t47 w <|
 Cl P 44 #[t47, t53] w (Pk R) fun t54 w =>
 Sto P 30 t9 t54 w fun w =>
 Bn P .add 3 true t12 (.int .i64 1) w fun t21x1 w =>
 k1 t10 t11 t21x1 w))
 (Cl P 35 #[t10, t11] w (Pk R) fun t58 w =>
 Ex t58 0 w fun t59 w =>
 Ex t58 1 w fun t60 w =>
 Al P 30 w fun t13 w =>
 Al P 30 w fun t14 w =>
 Sto P 30 t13 t59 w fun w =>
 Sto P 30 t14 t60 w fun w =>
 Dv P false (Instr.loadAt 30 t9) w.drew fun t61 =>
 Dv P false (Instr.loadAt 30 t13) w.drew fun t62 =>
 Dv P false (Instr.loadAt 30 t14) w.drew fun t63 =>
 Sto P 30 t6 t61 w.drew fun w =>
 Ke P (Instr.loadAt 30 t13) t62 w <|
 Ke P (Instr.loadAt 30 t14) t63 w <|
 Sto P 30 t7 t62 w fun w =>
 Ke P (Instr.loadAt 30 t14) t63 w <|
 Sto P 30 t8 t63 w fun w =>
 Rc P 30 t6 w fun r0 =>
 Rc P 30 t7 w fun r1 =>
 Rc P 30 t8 w fun r2 =>
 R (.returned (.tuple #[r0, r1, r2])) w))
theorem e_ref16_choice {t0 t1 t2 : Value} {w : World} {R : Ending → World → Prop} (h : s_ref16_choice Tryz.prog t0 t1 t2 w R) : Calls Tryz.prog 50 #[t0, t1, t2] w R :=
 enter (h := (.sq .z (.sq .z (.sq .z (.sq .z (.sq (.sq .z (.bk (.lp [10, 11, 12] [16, 17, 18, 19, 20, 21, 22, 23, 24, 25, 26, 27, 28, 29, 30, 31, 32, 33, 34, 35, 36, 37, 38, 39, 40, 41, 42, 43, 44, 45, 46, 47, 48, 49, 50, 51, 52, 53, 54] (.sq (.sq .z (.cd .z .z)) (.sq (.bk (.sq .z (.cd (.sq (.dr (.pur false 0 (.pur true 1 (.pur true 2 (.pur true 3 (.pur false 4 (.eff 5 [] (.eff 6 [] .done)))))))) (.sq .z .z)) (.dr (.pur false 0 (.pur true 2 (.pur true 3 (.pur true 4 (.pur false 5 (.eff 1 [0, 5] (.eff 6 [0] (.eff 7 [] (.eff 8 [] .done))))))))))))) .z))))) (.sq .z (.sq (.dr (.pur false 0 (.pur false 1 (.pur false 2 (.eff 3 [1, 2] (.eff 4 [2] (.eff 5 [] .done))))))) .z)))))))) (args := [t0, t1, t2]) Tryz.func50 (by kernel_rfl) (by kernel_rfl) (by kernel_rfl) (Eq.mp (by kernel_rfl) h)
theorem n_ref16_choice : Enters Tryz.prog 50 := enters_of Tryz.func50 (by kernel_rfl) rfl
def s_integer_Div (P : Program) (t0 t1 : Value) (w : World) (R : Ending → World → Prop) : Prop :=
 Cl P 76 #[t0, t1] w (Pk R) fun t19 w =>
 Ex t19 0 w fun t20 w =>
 Ex t19 1 w fun t21 w =>
 Ex t19 2 w fun t22 w =>
 Al P 96 w fun t7 w =>
 Al P 96 w fun t8 w =>
 Sto P 96 t7 t20 w fun w =>
 Sto P 96 t8 t21 w fun w =>
 Un P .not t22 w fun t24 w =>
 Gd t24 false (fun k => Fa P 96 t8 1 w k) w fun t26 w =>
 Gd t24 false (fun k => Ld P 94 t26 w k) w fun t27 w =>
 Gd t24 false (fun k => Bt P .len #[94] 3 #[t27] w k) w fun t28 w =>
 Gd t24 false (fun k => Bn P .eql 3 true t28 (.int .i64 0) w k) w fun t29 w =>
 Pick t24 (.bool true) t29 w fun t30 w =>
 If t30
 (R (.returned (.tuple #[(str []), (str []), (.int .i64 30)])) w)
 (Fa P 96 t7 1 w fun t32 w =>
 Ld P 94 t32 w fun t33 w =>
 Fa P 96 t8 1 w fun t34 w =>
 Ld P 94 t34 w fun t35 w =>
 Cl P 77 #[t33, t35] w (Pk R) fun t36 w =>
 Ex t36 0 w fun t37 w =>
 Ex t36 1 w fun t38 w =>
 Jn2 (fun k1 =>
 Fa P 96 t7 0 w fun t39 w =>
 Ld P 4 t39 w fun t40 w =>
 Gd t40 true (fun k => k t38 w) w fun t42 w =>
 Gd t40 true (fun k => Bt P .len #[94] 3 #[t42] w k) w fun t43 w =>
 Gd t40 true (fun k => Bn P .gtr 3 true t43 (.int .i64 0) w k) w fun t44 w =>
 Pick t40 t44 (.bool false) w fun t45 w =>
 If t45
 (Dv P true (Instr.fieldAt 96 t8 1) w.drew fun t49 =>
 Dv P false (Instr.loadAt 94 t49) w.drew fun t50 =>
 Cl P 79 #[] w.drew (Pk R) fun t47 w =>
 Ke P (Instr.loadAt 94 t49) t50 w <|
 Cl P 78 #[t37, t47] w (Pk R) fun t48 w =>
 Ke P (Instr.loadAt 94 t49) t50 w <|
 Cl P 80 #[t50, t38] w (Pk R) fun t52 w =>
 k1 t48 t52 w)
 (k1 t37 t38 w))
 (fun t10 t11 w =>
 Fa P 96 t7 0 w fun t54 w =>
 Ld P 4 t54 w fun t55 w =>
 Fa P 96 t8 0 w fun t56 w =>
 Ld P 4 t56 w fun t57 w =>
 Bn P .neq 4 false t55 t57 w fun t58 w =>
 Bd P 96 [(0, t58), (1, t10)] w fun t60 w =>
 Cl P 81 #[t60] w (Pk R) fun t61 w =>
 Ex t61 0 w fun t62 w =>
 Ex t61 1 w fun t63 w =>
 Bn P .neq 31 true t63 (.int .i64 0) w fun t65 w =>
 If t65
 (R (.returned (.tuple #[(str []), (str []), t63])) w)
 (Bd P 96 [(1, t11)] w fun t69 w =>
 Cl P 81 #[t69] w (Pk R) fun t70 w =>
 Ex t70 0 w fun t71 w =>
 Ex t70 1 w fun t72 w =>
 R (.returned (.tuple #[t62, t71, (.int .i64 0)])) w)))
theorem e_integer_Div {t0 t1 : Value} {w : World} {R : Ending → World → Prop} (h : s_integer_Div Tryz.prog t0 t1 w R) : Calls Tryz.prog 51 #[t0, t1] w R :=
 enter (h := (.sq .z (.sq .z (.sq (.sq .z (.cd (.sq .z .z) .z)) (.sq .z (.jn [10, 11] [39, 40, 41, 42, 43, 44, 45, 46, 47, 48, 49, 50, 51, 52] (.sq .z (.cd (.dr (.pur true 0 (.pur true 3 (.pur false 4 (.pur true 5 (.eff 1 [4] (.eff 2 [4] (.eff 6 [] (.pur true 7 (.pur true 8 .done)))))))))) .z)) (.sq .z (.sq (.sq .z (.cd (.sq .z .z) .z)) (.sq .z (.sq .z .z)))))))))) (args := [t0, t1]) Tryz.func51 (by kernel_rfl) (by kernel_rfl) (by kernel_rfl) (Eq.mp (by kernel_rfl) h)
theorem n_integer_Div : Enters Tryz.prog 51 := enters_of Tryz.func51 (by kernel_rfl) rfl
def s_integer_Compare (P : Program) (t0 t1 : Value) (w : World) (R : Ending → World → Prop) : Prop :=
 Cl P 76 #[t0, t1] w (Pk R) fun t11 w =>
 Ex t11 0 w fun t12 w =>
 Ex t11 1 w fun t13 w =>
 Ex t11 2 w fun t14 w =>
 Al P 96 w fun t5 w =>
 Al P 96 w fun t6 w =>
 Sto P 96 t5 t12 w fun w =>
 Sto P 96 t6 t13 w fun w =>
 Un P .not t14 w fun t17 w =>
 If t17
 (R (.returned (.int .i64 0)) w)
 (Fa P 96 t5 0 w fun t19 w =>
 Ld P 4 t19 w fun t20 w =>
 Gd t20 true (fun k => Fa P 96 t6 0 w k) w fun t22 w =>
 Gd t20 true (fun k => Ld P 4 t22 w k) w fun t23 w =>
 Pick t20 t23 (.bool false) w fun t24 w =>
 If t24
 (Fa P 96 t6 1 w fun t25 w =>
 Ld P 94 t25 w fun t26 w =>
 Fa P 96 t5 1 w fun t27 w =>
 Ld P 94 t27 w fun t28 w =>
 Cl P 82 #[t26, t28] w (Pk R) fun t29 w =>
 R (.returned t29) w)
 (Fa P 96 t5 0 w fun t31 w =>
 Ld P 4 t31 w fun t32 w =>
 If t32
 (R (.returned (.int .i64 (-1))) w)
 (Fa P 96 t6 0 w fun t34 w =>
 Ld P 4 t34 w fun t35 w =>
 If t35
 (R (.returned (.int .i64 1)) w)
 (Fa P 96 t5 1 w fun t36 w =>
 Ld P 94 t36 w fun t37 w =>
 Fa P 96 t6 1 w fun t38 w =>
 Ld P 94 t38 w fun t39 w =>
 Cl P 82 #[t37, t39] w (Pk R) fun t40 w =>
 R (.returned t40) w))))
theorem e_integer_Compare {t0 t1 : Value} {w : World} {R : Ending → World → Prop} (h : s_integer_Compare Tryz.prog t0 t1 w R) : Calls Tryz.prog 52 #[t0, t1] w R :=
 enter (h := (.sq .z (.sq .z (.sq (.bk (.sq .z (.cd (.sq .z .z) (.sq .z (.cd (.sq .z .z) (.sq .z (.cd (.sq .z .z) (.sq .z (.cd (.sq .z .z) .z))))))))) (.sq .z .z))))) (args := [t0, t1]) Tryz.func52 (by kernel_rfl) (by kernel_rfl) (by kernel_rfl) (Eq.mp (by kernel_rfl) h)
theorem n_integer_Compare : Enters Tryz.prog 52 := enters_of Tryz.func52 (by kernel_rfl) rfl
def s_rational_Of (P : Program) (t0 t1 : Value) (w : World) (R : Ending → World → Prop) : Prop :=
 Al P 30 w fun t4 w =>
 Cl P 84 #[t0] w (Pk R) fun t7 w =>
 Cl P 84 #[t1] w (Pk R) fun t9 w =>
 Cl P 83 #[t7, t9] w (Pk R) fun t10 w =>
 Ex t10 0 w fun t11 w =>
 Ex t10 1 w fun t12 w =>
 Sto P 30 t4 t11 w fun w =>
 Rc P 30 t4 w fun r0 =>
 R (.returned (.tuple #[r0, t12])) w
theorem e_rational_Of {t0 t1 : Value} {w : World} {R : Ending → World → Prop} (h : s_rational_Of Tryz.prog t0 t1 w R) : Calls Tryz.prog 53 #[t0, t1] w R :=
 enter (h := (.sq .z (.sq .z .z))) (args := [t0, t1]) Tryz.func53 (by kernel_rfl) (by kernel_rfl) (by kernel_rfl) (Eq.mp (by kernel_rfl) h)
theorem n_rational_Of : Enters Tryz.prog 53 := enters_of Tryz.func53 (by kernel_rfl) rfl
def s_rational_work_check (P : Program) (t0 t1 : Value) (w : World) (R : Ending → World → Prop) : Prop :=
 Bt P .len #[23] 3 #[t1] w fun t7 w =>
 Lp1 (.int .i64 0) w (fun t8 w k1 =>
 Bn P .lss 3 false t8 t7 w fun t9 w =>
 If t9
 (Ia P 23 t1 t8 w fun t10 w =>
 Ld P 30 t10 w fun t11 w =>
 Al P 30 w fun t5 w =>
 Sto P 30 t5 t11 w fun w =>
 Nc t0 w fun t14 w =>
 Fa P 83 t14 0 w fun t15 w =>
 Ld P 4 t15 w fun t16 w =>
 Gd t16 false (fun k => Ld P 30 t5 w k) w fun t18 w =>
 Gd t16 false (fun k => Cl P 28 #[t18] w (Pk R) k) w fun t19 w =>
 Gd t16 false (fun k => Un P .not t19 w k) w fun t20 w =>
 Pick t16 (.bool true) t20 w fun t21 w =>
 Nc t0 w fun t22 w =>
 Fa P 83 t22 0 w fun t23 w =>
 Sto P 4 t23 t21 w fun w =>
 Bn P .add 3 true t8 (.int .i64 1) w fun t24 w =>
 k1 t24 w)
 (R (.returned (.tuple #[])) w))
theorem e_rational_work_check {t0 t1 : Value} {w : World} {R : Ending → World → Prop} (h : s_rational_work_check Tryz.prog t0 t1 w R) : Calls Tryz.prog 54 #[t0, t1] w R :=
 enter (h := (.sq .z (.bk (.lp [8] [5, 9, 10, 11, 12, 13, 14, 15, 16, 17, 18, 19, 20, 21, 22, 23, 24] (.sq .z (.sq (.cd .z .z) (.sq (.bk (.sq .z .z)) .z))))))) (args := [t0, t1]) Tryz.func54 (by kernel_rfl) (by kernel_rfl) (by kernel_rfl) (Eq.mp (by kernel_rfl) h)
theorem n_rational_work_check : Enters Tryz.prog 54 := enters_of Tryz.func54 (by kernel_rfl) rfl
def s_rational_work_mul (P : Program) (t0 t1 t2 : Value) (w : World) (R : Ending → World → Prop) : Prop :=
 Cl P 85 #[t0, (.func (.func 86) #[] #[]), t1, t2] w (Pk R) fun t10 w =>
 R (.returned t10) w
theorem e_rational_work_mul {t0 t1 t2 : Value} {w : World} {R : Ending → World → Prop} (h : s_rational_work_mul Tryz.prog t0 t1 t2 w R) : Calls Tryz.prog 55 #[t0, t1, t2] w R :=
 enter (h := (.sq .z (.sq .z .z))) (args := [t0, t1, t2]) Tryz.func55 (by kernel_rfl) (by kernel_rfl) (by kernel_rfl) (Eq.mp (by kernel_rfl) h)
theorem n_rational_work_mul : Enters Tryz.prog 55 := enters_of Tryz.func55 (by kernel_rfl) rfl
def s_rational_work_reduced (P : Program) (t0 t1 t2 : Value) (w : World) (R : Ending → World → Prop) : Prop :=
 Al P 30 w fun t6 w =>
 Nc t0 w fun t11 w =>
 Fa P 83 t11 0 w fun t12 w =>
 Ld P 4 t12 w fun t13 w =>
 Gd t13 false (fun k => k t2 w) w fun t15 w =>
 Gd t13 false (fun k => Bn P .eql 9 true t15 (str [48]) w k) w fun t16 w =>
 Pick t13 (.bool true) t16 w fun t17 w =>
 If t17
 (Bd P 30 [] w fun t18 w =>
 Sto P 30 t6 t18 w fun w =>
 Rc P 30 t6 w fun r0 =>
 R (.returned (.tuple #[r0, (.int .i64 40)])) w)
 (Jn2 (fun k1 =>
 Cl P 52 #[t2, (str [48])] w (Pk R) fun t20 w =>
 Bn P .lss 3 true t20 (.int .i64 0) w fun t21 w =>
 If t21
 (Cl P 85 #[t0, (.func (.func 59) #[] #[]), (str [48]), t1] w (Pk R) fun t24 w =>
 Cl P 85 #[t0, (.func (.func 59) #[] #[]), (str [48]), t2] w (Pk R) fun t27 w =>
 k1 t24 t27 w)
 (k1 t1 t2 w))
 (fun t1x1 t2x1 w =>
 Cl P 85 #[t0, (.func (.func 61) #[] #[]), t1x1, t2x1] w (Pk R) fun t31 w =>
 Cl P 87 #[t0, t1x1, t31] w (Pk R) fun t35 w =>
 Cl P 87 #[t0, t2x1, t31] w (Pk R) fun t39 w =>
 Bd P 30 [(0, t35), (1, t39)] w fun t40 w =>
 Al P 30 w fun t9 w =>
 Sto P 30 t9 t40 w fun w =>
 Nc t0 w fun t42 w =>
 Fa P 83 t42 0 w fun t43 w =>
 Ld P 4 t43 w fun t44 w =>
 If t44
 (Bd P 30 [] w fun t45 w =>
 Sto P 30 t6 t45 w fun w =>
 Rc P 30 t6 w fun r0 =>
 R (.returned (.tuple #[r0, (.int .i64 40)])) w)
 (Ld P 30 t9 w fun t46 w =>
 Sto P 30 t6 t46 w fun w =>
 Rc P 30 t6 w fun r0 =>
 R (.returned (.tuple #[r0, (.int .i64 0)])) w)))
theorem e_rational_work_reduced {t0 t1 t2 : Value} {w : World} {R : Ending → World → Prop} (h : s_rational_work_reduced Tryz.prog t0 t1 t2 w R) : Calls Tryz.prog 56 #[t0, t1, t2] w R :=
 enter (h := (.sq .z (.sq (.sq .z (.cd (.sq .z .z) .z)) (.jn [1, 2] [19, 20, 21, 22, 23, 24, 25, 26, 27] (.sq .z (.cd .z .z)) (.sq .z (.sq .z (.sq (.sq .z (.cd (.sq .z .z) .z)) (.sq .z .z)))))))) (args := [t0, t1, t2]) Tryz.func56 (by kernel_rfl) (by kernel_rfl) (by kernel_rfl) (Eq.mp (by kernel_rfl) h)
theorem n_rational_work_reduced : Enters Tryz.prog 56 := enters_of Tryz.func56 (by kernel_rfl) rfl
def s_rational_sum (P : Program) (t0 t1 t2 : Value) (w : World) (R : Ending → World → Prop) : Prop :=
 Bx P 30 t1 w fun t4 w =>
 Bx P 30 t2 w fun t5 w =>
 Al P 30 w fun t6 w =>
 Bd P 83 [] w fun t10 w =>
 Bx P 83 t10 w fun t11 w =>
 Ld P 30 t4 w fun t13 w =>
 Ld P 30 t5 w fun t14 w =>
 Bs P 23 2 [(0, t13), (1, t14)] w fun t15 w =>
 Cl P 54 #[t11, t15] w (Pk R) fun t16 w =>
 Dv P true (Instr.fieldAt 30 t4 0) w.drew fun t20 =>
 Dv P false (Instr.loadAt 9 t20) w.drew fun t21 =>
 Dv P true (Instr.fieldAt 30 t5 1) w.drew fun t22 =>
 Dv P false (Instr.loadAt 9 t22) w.drew fun t23 =>
 Dv P true (Instr.fieldAt 30 t5 0) w.drew fun t26 =>
 Dv P false (Instr.loadAt 9 t26) w.drew fun t27 =>
 Dv P true (Instr.fieldAt 30 t4 1) w.drew fun t28 =>
 Dv P false (Instr.loadAt 9 t28) w.drew fun t29 =>
 Cl P 55 #[t11, t21, t23] w.drew (Pk R) fun t24 w =>
 Ke P (Instr.loadAt 9 t26) t27 w <|
 Ke P (Instr.loadAt 9 t28) t29 w <|
 Cl P 55 #[t11, t27, t29] w (Pk R) fun t30 w =>
 Cl P 85 #[t11, t0, t24, t30] w (Pk R) fun t31 w =>
 Fa P 30 t4 1 w fun t35 w =>
 Ld P 9 t35 w fun t36 w =>
 Fa P 30 t5 1 w fun t37 w =>
 Ld P 9 t37 w fun t38 w =>
 Cl P 55 #[t11, t36, t38] w (Pk R) fun t39 w =>
 Cl P 56 #[t11, t31, t39] w (Pk R) fun t40 w =>
 Ex t40 0 w fun t41 w =>
 Ex t40 1 w fun t42 w =>
 Sto P 30 t6 t41 w fun w =>
 Rc P 30 t6 w fun r0 =>
 R (.returned (.tuple #[r0, t42])) w
theorem e_rational_sum {t0 t1 t2 : Value} {w : World} {R : Ending → World → Prop} (h : s_rational_sum Tryz.prog t0 t1 t2 w R) : Calls Tryz.prog 57 #[t0, t1, t2] w R :=
 enter (h := (.sq .z (.sq .z (.sq .z (.sq (.dr (.pur true 0 (.pur true 1 (.pur true 2 (.pur true 3 (.pur false 4 (.pur true 5 (.pur false 6 (.pur true 8 (.pur true 9 (.pur false 10 (.pur true 11 (.pur false 12 (.eff 7 [10, 12] (.eff 13 [] (.eff 14 [] (.pur true 15 .done))))))))))))))))) (.sq .z .z)))))) (args := [t0, t1, t2]) Tryz.func57 (by kernel_rfl) (by kernel_rfl) (by kernel_rfl) (Eq.mp (by kernel_rfl) h)
theorem n_rational_sum : Enters Tryz.prog 57 := enters_of Tryz.func57 (by kernel_rfl) rfl
def s_integer_Add (P : Program) (t0 t1 : Value) (w : World) (R : Ending → World → Prop) : Prop :=
 Cl P 76 #[t0, t1] w (Pk R) fun t12 w =>
 Ex t12 0 w fun t13 w =>
 Ex t12 1 w fun t14 w =>
 Ex t12 2 w fun t15 w =>
 Al P 96 w fun t6 w =>
 Al P 96 w fun t7 w =>
 Sto P 96 t6 t13 w fun w =>
 Sto P 96 t7 t14 w fun w =>
 Un P .not t15 w fun t17 w =>
 If t17
 (R (.returned (.tuple #[(str []), (.int .i64 30)])) w)
 (Ld P 96 t6 w fun t18 w =>
 Ld P 96 t7 w fun t19 w =>
 Cl P 88 #[t18, t19] w (Pk R) fun t20 w =>
 Cl P 81 #[t20] w (Pk R) fun t21 w =>
 Ex t21 0 w fun t22 w =>
 Ex t21 1 w fun t23 w =>
 R (.returned (.tuple #[t22, t23])) w)
theorem e_integer_Add {t0 t1 : Value} {w : World} {R : Ending → World → Prop} (h : s_integer_Add Tryz.prog t0 t1 w R) : Calls Tryz.prog 58 #[t0, t1] w R :=
 enter (h := (.sq .z (.sq .z (.sq (.sq .z (.cd (.sq .z .z) .z)) (.sq .z .z))))) (args := [t0, t1]) Tryz.func58 (by kernel_rfl) (by kernel_rfl) (by kernel_rfl) (Eq.mp (by kernel_rfl) h)
theorem n_integer_Add : Enters Tryz.prog 58 := enters_of Tryz.func58 (by kernel_rfl) rfl
def s_integer_Sub (P : Program) (t0 t1 : Value) (w : World) (R : Ending → World → Prop) : Prop :=
 Cl P 76 #[t0, t1] w (Pk R) fun t12 w =>
 Ex t12 0 w fun t13 w =>
 Ex t12 1 w fun t14 w =>
 Ex t12 2 w fun t15 w =>
 Al P 96 w fun t6 w =>
 Al P 96 w fun t7 w =>
 Sto P 96 t6 t13 w fun w =>
 Sto P 96 t7 t14 w fun w =>
 Un P .not t15 w fun t17 w =>
 If t17
 (R (.returned (.tuple #[(str []), (.int .i64 30)])) w)
 (Fa P 96 t7 0 w fun t18 w =>
 Ld P 4 t18 w fun t19 w =>
 Un P .not t19 w fun t20 w =>
 Fa P 96 t7 0 w fun t21 w =>
 Sto P 4 t21 t20 w fun w =>
 Ld P 96 t6 w fun t22 w =>
 Ld P 96 t7 w fun t23 w =>
 Cl P 88 #[t22, t23] w (Pk R) fun t24 w =>
 Cl P 81 #[t24] w (Pk R) fun t25 w =>
 Ex t25 0 w fun t26 w =>
 Ex t25 1 w fun t27 w =>
 R (.returned (.tuple #[t26, t27])) w)
theorem e_integer_Sub {t0 t1 : Value} {w : World} {R : Ending → World → Prop} (h : s_integer_Sub Tryz.prog t0 t1 w R) : Calls Tryz.prog 59 #[t0, t1] w R :=
 enter (h := (.sq .z (.sq .z (.sq (.sq .z (.cd (.sq .z .z) .z)) (.sq .z (.sq .z .z)))))) (args := [t0, t1]) Tryz.func59 (by kernel_rfl) (by kernel_rfl) (by kernel_rfl) (Eq.mp (by kernel_rfl) h)
theorem n_integer_Sub : Enters Tryz.prog 59 := enters_of Tryz.func59 (by kernel_rfl) rfl
def s_integer_Valid (P : Program) (t0 : Value) (w : World) (R : Ending → World → Prop) : Prop :=
 Cl P 89 #[t0] w (Pk R) fun t4 w =>
 R (.returned t4) w
theorem e_integer_Valid {t0 : Value} {w : World} {R : Ending → World → Prop} (h : s_integer_Valid Tryz.prog t0 w R) : Calls Tryz.prog 60 #[t0] w R :=
 enter (h := (.sq .z (.sq .z .z))) (args := [t0]) Tryz.func60 (by kernel_rfl) (by kernel_rfl) (by kernel_rfl) (Eq.mp (by kernel_rfl) h)
theorem n_integer_Valid : Enters Tryz.prog 60 := enters_of Tryz.func60 (by kernel_rfl) rfl
def s_integer_Gcd (P : Program) (t0 t1 : Value) (w : World) (R : Ending → World → Prop) : Prop :=
 Cl P 76 #[t0, t1] w (Pk R) fun t16 w =>
 Ex t16 0 w fun t17 w =>
 Ex t16 1 w fun t18 w =>
 Ex t16 2 w fun t19 w =>
 Al P 96 w fun t6 w =>
 Al P 96 w fun t7 w =>
 Sto P 96 t6 t17 w fun w =>
 Sto P 96 t7 t18 w fun w =>
 Un P .not t19 w fun t21 w =>
 If t21
 (R (.returned (.tuple #[(str []), (.int .i64 30)])) w)
 (Dv P true (Instr.fieldAt 96 t6 1) w.drew fun t22 =>
 Dv P false (Instr.loadAt 94 t22) w.drew fun t23 =>
 Dv P true (Instr.fieldAt 96 t7 1) w.drew fun t24 =>
 Dv P false (Instr.loadAt 94 t24) w.drew fun t25 =>
 Lp2 t23 t25 w.drew (fun t9 t10 w k1 =>
 Bt P .len #[94] 3 #[t10] w fun t27 w =>
 Bn P .gtr 3 true t27 (.int .i64 0) w fun t28 w =>
 If t28
 (Cl P 77 #[t9, t10] w (Pk R) fun t32 w =>
 Ex t32 0 w fun t33 w =>
 Ex t32 1 w fun t34 w =>
 k1 t10 t34 w)
 (Bd P 96 [(1, t9)] w fun t38 w =>
 Cl P 81 #[t38] w (Pk R) fun t39 w =>
 Ex t39 0 w fun t40 w =>
 Ex t39 1 w fun t41 w =>
 R (.returned (.tuple #[t40, t41])) w)))
theorem e_integer_Gcd {t0 t1 : Value} {w : World} {R : Ending → World → Prop} (h : s_integer_Gcd Tryz.prog t0 t1 w R) : Calls Tryz.prog 61 #[t0, t1] w R :=
 enter (h := (.sq .z (.sq .z (.sq (.sq .z (.cd (.sq .z .z) .z)) (.sq (.dr (.pur true 0 (.pur false 1 (.pur true 2 (.pur false 3 (.pur true 4 (.pur true 5 .done))))))) (.sq (.bk (.lp [9, 10] [11, 12, 26, 27, 28, 29, 30, 31, 32, 33, 34, 35, 36] (.sq (.sq .z (.cd .z .z)) (.bk (.sq .z .z))))) (.sq .z .z))))))) (args := [t0, t1]) Tryz.func61 (by kernel_rfl) (by kernel_rfl) (by kernel_rfl) (Eq.mp (by kernel_rfl) h)
theorem n_integer_Gcd : Enters Tryz.prog 61 := enters_of Tryz.func61 (by kernel_rfl) rfl
def s_ref04_Make (P : Program) (t0 t1 : Value) (w : World) (R : Ending → World → Prop) : Prop :=
 Al P 30 w fun t4 w =>
 Cl P 67 #[t0] w (Pk R) fun t17 w =>
 Cl P 67 #[t1] w (Pk R) fun t19 w =>
 Un P .not t17 w fun t21 w =>
 Gd t21 false (fun k => k t19 w) w fun t23 w =>
 Gd t21 false (fun k => Un P .not t23 w k) w fun t24 w =>
 Pick t21 (.bool true) t24 w fun t25 w =>
 Gd t25 false (fun k => k t1 w) w fun t27 w =>
 Gd t25 false (fun k => Bn P .eql 9 true t27 (str [48]) w k) w fun t28 w =>
 Pick t25 (.bool true) t28 w fun t29 w =>
 If t29
 (Bd P 30 [] w fun t30 w =>
 Sto P 30 t4 t30 w fun w =>
 Rc P 30 t4 w fun r0 =>
 R (.returned (.tuple #[r0, (.int .i64 40)])) w)
 (Jn2 (fun k1 =>
 Cl P 68 #[t1, (str [48])] w (Pk R) fun t32 w =>
 Bn P .lss 3 true t32 (.int .i64 0) w fun t33 w =>
 If t33
 (Cl P 90 #[(str [48]), t0] w (Pk R) fun t36 w =>
 Ex t36 0 w fun t37 w =>
 Ex t36 1 w fun t38 w =>
 Cl P 90 #[(str [48]), t1] w (Pk R) fun t41 w =>
 Ex t41 0 w fun t42 w =>
 Ex t41 1 w fun t43 w =>
 k1 t37 t42 w)
 (k1 t0 t1 w))
 (fun t0x1 t1x1 w =>
 Cl P 69 #[t0x1, t1x1] w (Pk R) fun t47 w =>
 Ex t47 0 w fun t48 w =>
 Ex t47 1 w fun t49 w =>
 Cl P 91 #[t0x1, t48] w (Pk R) fun t53 w =>
 Ex t53 0 w fun t54 w =>
 Ex t53 1 w fun t55 w =>
 Ex t53 2 w fun t56 w =>
 Cl P 91 #[t1x1, t48] w (Pk R) fun t60 w =>
 Ex t60 0 w fun t61 w =>
 Ex t60 1 w fun t62 w =>
 Ex t60 2 w fun t63 w =>
 Bn P .neq 31 true t56 (.int .i64 0) w fun t65 w =>
 Gd t65 false (fun k => k t63 w) w fun t67 w =>
 Gd t65 false (fun k => Bn P .neq 31 true t67 (.int .i64 0) w k) w fun t68 w =>
 Pick t65 (.bool true) t68 w fun t69 w =>
 If t69
 (Bd P 30 [] w fun t70 w =>
 Sto P 30 t4 t70 w fun w =>
 Rc P 30 t4 w fun r0 =>
 R (.returned (.tuple #[r0, (.int .i64 40)])) w)
 (Bd P 30 [(0, t54), (1, t61)] w fun t73 w =>
 Sto P 30 t4 t73 w fun w =>
 Rc P 30 t4 w fun r0 =>
 R (.returned (.tuple #[r0, (.int .i64 0)])) w)))
theorem e_ref04_Make {t0 t1 : Value} {w : World} {R : Ending → World → Prop} (h : s_ref04_Make Tryz.prog t0 t1 w R) : Calls Tryz.prog 62 #[t0, t1] w R :=
 enter (h := (.sq .z (.sq .z (.sq .z (.sq (.sq .z (.cd (.sq .z .z) .z)) (.jn [0, 1] [31, 32, 33, 34, 35, 36, 37, 38, 39, 40, 41, 42, 43] (.sq .z (.cd (.sq .z .z) .z)) (.sq .z (.sq .z (.sq .z (.sq (.sq .z (.cd (.sq .z .z) .z)) (.sq .z .z))))))))))) (args := [t0, t1]) Tryz.func62 (by kernel_rfl) (by kernel_rfl) (by kernel_rfl) (Eq.mp (by kernel_rfl) h)
theorem n_ref04_Make : Enters Tryz.prog 62 := enters_of Tryz.func62 (by kernel_rfl) rfl
def s_ref03_FromInt (P : Program) (t0 : Value) (w : World) (R : Ending → World → Prop) : Prop :=
 Lp2 (.slice none 0 0) t0 w (fun t3 t4 w k1 =>
 Bn P .neq 3 true t4 (.int .i64 0) w fun t10 w =>
 If t10
 (Bn P .rem 3 true t4 (.int .i64 10) w fun t14 w =>
 Bn P .lss 3 true t14 (.int .i64 0) w fun t16 w =>
 If t16
 (Un P .neg t14 w fun t18 w =>
 Bs P 44 1 [(0, t18)] w fun t21 w =>
 Bt P .append #[44, 44] 44 #[t3, t21] w fun t22 w =>
 Bn P .quo 3 true t4 (.int .i64 10) w fun t12 w =>
 k1 t22 t12 w)
 (Bs P 44 1 [(0, t14)] w fun t21x1 w =>
 Bt P .append #[44, 44] 44 #[t3, t21x1] w fun t22x1 w =>
 Bn P .quo 3 true t4 (.int .i64 10) w fun t12x1 w =>
 k1 t22x1 t12x1 w))
 (Bn P .lss 3 true t0 (.int .i64 0) w fun t25 w =>
 Cl P 92 #[t25, t3] w (Pk R) fun t27 w =>
 Ex t27 0 w fun t28 w =>
 Ex t27 1 w fun t29 w =>
 R (.returned t28) w))
theorem e_ref03_FromInt {t0 : Value} {w : World} {R : Ending → World → Prop} (h : s_ref03_FromInt Tryz.prog t0 w R) : Calls Tryz.prog 63 #[t0] w R :=
 enter (h := (.sq .z (.sq .z (.sq (.sq .z (.bk (.lp [3, 4] [5, 9, 10, 11, 12, 13, 14, 15, 16, 17, 18, 19, 20, 21, 22] (.sq (.sq .z (.cd .z .z)) (.sq (.bk (.sq .z (.sq (.sq .z (.cd .z .z)) .z))) .z))))) (.sq .z (.sq .z .z)))))) (args := [t0]) Tryz.func63 (by kernel_rfl) (by kernel_rfl) (by kernel_rfl) (Eq.mp (by kernel_rfl) h)
theorem n_ref03_FromInt : Enters Tryz.prog 63 := enters_of Tryz.func63 (by kernel_rfl) rfl
def s_estimate_calculator_estimate_1 (P : Program) (t0 t1 : Value) (w : World) (R : Ending → World → Prop) : Prop :=
 Bx P 68 t0 w fun t2 w =>
 Al P 30 w fun t3 w =>
 Ld P 69 t1 w fun t4 w =>
 Fa P 68 t2 0 w fun t5 w =>
 Ld P 30 t5 w fun t6 w =>
 Fa P 68 t2 1 w fun t7 w =>
 Ld P 30 t7 w fun t8 w =>
 Cl P 39 #[t4, t6, t8] w (Pk R) fun t9 w =>
 Sto P 30 t3 t9 w fun w =>
 Rc P 30 t3 w fun r0 =>
 R (.returned r0) w
theorem e_estimate_calculator_estimate_1 {t0 t1 : Value} {w : World} {R : Ending → World → Prop} (h : s_estimate_calculator_estimate_1 Tryz.prog t0 t1 w R) : Calls Tryz.prog 64 #[t0, t1] w R :=
 enter (h := (.sq .z (.sq .z .z))) (args := [t0, t1]) Tryz.func64 (by kernel_rfl) (by kernel_rfl) (by kernel_rfl) (Eq.mp (by kernel_rfl) h)
theorem n_estimate_calculator_estimate_1 : Enters Tryz.prog 64 := enters_of Tryz.func64 (by kernel_rfl) rfl
def s_estimate_calculator_estimated_1 (P : Program) (t0 t1 : Value) (w : World) (R : Ending → World → Prop) : Prop :=
 Bx P 68 t0 w fun t2 w =>
 Al P 30 w fun t3 w =>
 Dv P false (Instr.loadAt 69 t1) w.drew fun t4 =>
 Dv P false (Instr.loadAt 69 t1) w.drew fun t5 =>
 Dv P false (Instr.loadAt 68 t2) w.drew fun t6 =>
 Dv P false (Instr.loadAt 69 t1) w.drew fun t8 =>
 Dv P true (Instr.fieldAt 68 t2 1) w.drew fun t9 =>
 Dv P false (Instr.loadAt 30 t9) w.drew fun t10 =>
 Dv P true (Instr.fieldAt 68 t2 1) w.drew fun t11 =>
 Dv P false (Instr.loadAt 30 t11) w.drew fun t12 =>
 Cl P 40 #[t5, t6] w.drew (Pk R) fun t7 w =>
 Ke P (Instr.loadAt 69 t1) t4 w <|
 Ke P (Instr.loadAt 69 t1) t8 w <|
 Ke P (Instr.loadAt 30 t9) t10 w <|
 Ke P (Instr.loadAt 30 t11) t12 w <|
 Cl P 48 #[t8, t10, t12] w (Pk R) fun t13 w =>
 Ke P (Instr.loadAt 69 t1) t4 w <|
 Cl P 39 #[t4, t7, t13] w (Pk R) fun t14 w =>
 Sto P 30 t3 t14 w fun w =>
 Rc P 30 t3 w fun r0 =>
 R (.returned r0) w
theorem e_estimate_calculator_estimated_1 {t0 t1 : Value} {w : World} {R : Ending → World → Prop} (h : s_estimate_calculator_estimated_1 Tryz.prog t0 t1 w R) : Calls Tryz.prog 65 #[t0, t1] w R :=
 enter (h := (.sq .z (.sq (.dr (.pur false 0 (.pur false 1 (.pur false 2 (.pur false 4 (.pur true 5 (.pur false 6 (.pur true 7 (.pur false 8 (.eff 3 [0, 4, 6, 8] (.eff 9 [0] (.eff 10 [] (.eff 11 [] .done))))))))))))) .z))) (args := [t0, t1]) Tryz.func65 (by kernel_rfl) (by kernel_rfl) (by kernel_rfl) (Eq.mp (by kernel_rfl) h)
theorem n_estimate_calculator_estimated_1 : Enters Tryz.prog 65 := enters_of Tryz.func65 (by kernel_rfl) rfl
def s_ref04_Compare (P : Program) (t0 t1 : Value) (w : World) (R : Ending → World → Prop) : Prop :=
 Bx P 30 t0 w fun t2 w =>
 Bx P 30 t1 w fun t3 w =>
 Ld P 30 t2 w fun t19 w =>
 Cl P 36 #[t19] w (Pk R) fun t20 w =>
 Ld P 30 t3 w fun t21 w =>
 Cl P 36 #[t21] w (Pk R) fun t22 w =>
 Un P .not t20 w fun t24 w =>
 Gd t24 false (fun k => k t22 w) w fun t26 w =>
 Gd t24 false (fun k => Un P .not t26 w k) w fun t27 w =>
 Pick t24 (.bool true) t27 w fun t28 w =>
 If t28
 (R (.returned (.int .i64 0)) w)
 (Fa P 30 t2 0 w fun t29 w =>
 Ld P 9 t29 w fun t30 w =>
 Fa P 30 t2 1 w fun t31 w =>
 Ld P 9 t31 w fun t32 w =>
 Fa P 30 t3 0 w fun t33 w =>
 Ld P 9 t33 w fun t34 w =>
 Fa P 30 t3 1 w fun t35 w =>
 Ld P 9 t35 w fun t36 w =>
 Lp5 (.int .i64 1) t30 t32 t34 t36 w (fun t7 t8 t9 t10 t11 w k1 =>
 Cl P 91 #[t8, t9] w (Pk R) fun t40 w =>
 Ex t40 0 w fun t41 w =>
 Ex t40 1 w fun t42 w =>
 Ex t40 2 w fun t43 w =>
 Cl P 91 #[t10, t11] w (Pk R) fun t47 w =>
 Ex t47 0 w fun t48 w =>
 Ex t47 1 w fun t49 w =>
 Ex t47 2 w fun t50 w =>
 Cl P 68 #[t41, t48] w (Pk R) fun t53 w =>
 Bn P .neq 3 true t53 (.int .i64 0) w fun t55 w =>
 If t55
 (Bn P .mul 3 false t7 t53 w fun t58 w =>
 R (.returned t58) w)
 (Bn P .eql 9 true t42 (str [48]) w fun t60 w =>
 Gd t60 false (fun k => k t49 w) w fun t62 w =>
 Gd t60 false (fun k => Bn P .eql 9 true t62 (str [48]) w k) w fun t63 w =>
 Pick t60 (.bool true) t63 w fun t64 w =>
 If t64
 (Cl P 93 #[t42] w (Pk R) fun t67 w =>
 Cl P 93 #[t49] w (Pk R) fun t69 w =>
 Cl P 68 #[t67, t69] w (Pk R) fun t70 w =>
 Bn P .mul 3 false t7 t70 w fun t71 w =>
 R (.returned t71) w)
 (Un P .neg t7 w fun t77 w =>
 k1 t77 t9 t42 t11 t49 w))))
theorem e_ref04_Compare {t0 t1 : Value} {w : World} {R : Ending → World → Prop} (h : s_ref04_Compare Tryz.prog t0 t1 w R) : Calls Tryz.prog 66 #[t0, t1] w R :=
 enter (h := (.sq .z (.sq .z (.sq .z (.sq (.sq .z (.cd (.sq .z .z) .z)) (.sq .z (.sq .z (.sq .z (.sq .z (.sq .z (.bk (.lp [7, 8, 9, 10, 11] [4, 12, 13, 14, 15, 16, 17, 18, 37, 38, 39, 40, 41, 42, 43, 44, 45, 46, 47, 48, 49, 50, 51, 52, 53, 54, 55, 56, 57, 58, 59, 60, 61, 62, 63, 64, 65, 66, 67, 68, 69, 70, 71, 72, 73, 74, 75, 76, 77] (.bk (.sq .z (.sq .z (.sq .z (.sq (.sq .z (.cd (.sq .z .z) .z)) (.sq (.sq .z (.cd (.sq .z .z) .z)) (.sq .z (.sq .z .z)))))))))))))))))))) (args := [t0, t1]) Tryz.func66 (by kernel_rfl) (by kernel_rfl) (by kernel_rfl) (Eq.mp (by kernel_rfl) h)
theorem n_ref04_Compare : Enters Tryz.prog 66 := enters_of Tryz.func66 (by kernel_rfl) rfl
def s_ref03_Valid (P : Program) (t0 : Value) (w : World) (R : Ending → World → Prop) : Prop :=
 Jn1 (fun k1 =>
 Bt P .len #[9] 3 #[t0] w fun t5 w =>
 Bn P .gtr 3 true t5 (.int .i64 0) w fun t6 w =>
 Gd t6 true (fun k => k t0 w) w fun t8 w =>
 Gd t6 true (fun k => Ix P 9 t8 (.int .i64 0) w k) w fun t9 w =>
 Gd t6 true (fun k => Bn P .eql 5 true t9 (.int .u8 45) w k) w fun t10 w =>
 Pick t6 t10 (.bool false) w fun t11 w =>
 If t11
 (Sc P 9 t0 (some (.int .i64 1)) none none w fun t13 w =>
 Bn P .eql 9 true t13 (str [48]) w fun t15 w =>
 If t15
 (R (.returned (.bool false)) w)
 (k1 t13 w))
 (k1 t0 w))
 (fun t0x1 w =>
 Lp1 (.int .i64 0) w (fun t3 w k2 =>
 Bt P .len #[9] 3 #[t0x1] w fun t18 w =>
 Bn P .lss 3 false t3 t18 w fun t19 w =>
 If t19
 (Ix P 9 t0x1 t3 w fun t24 w =>
 Bn P .lss 5 true t24 (.int .u8 48) w fun t25 w =>
 Gd t25 false (fun k => k t0x1 w) w fun t27 w =>
 Gd t25 false (fun k => k t3 w) w fun t28 w =>
 Gd t25 false (fun k => Ix P 9 t27 t28 w k) w fun t29 w =>
 Gd t25 false (fun k => Bn P .gtr 5 true t29 (.int .u8 57) w k) w fun t30 w =>
 Pick t25 (.bool true) t30 w fun t31 w =>
 If t31
 (R (.returned (.bool false)) w)
 (Bn P .add 3 true t3 (.int .i64 1) w fun t21 w =>
 k2 t21 w))
 (Bt P .len #[9] 3 #[t0x1] w fun t33 w =>
 Bn P .gtr 3 true t33 (.int .i64 0) w fun t34 w =>
 Gd t34 true (fun k => k t0x1 w) w fun t36 w =>
 Gd t34 true (fun k => Bt P .len #[9] 3 #[t36] w k) w fun t37 w =>
 Gd t34 true (fun k => Bn P .leq 3 true t37 (.int .i64 200) w k) w fun t38 w =>
 Pick t34 t38 (.bool false) w fun t39 w =>
 Gd t39 true (fun k => k t0x1 w) w fun t41 w =>
 Gd t39 true (fun k => Bn P .eql 9 true t41 (str [48]) w k) w fun t42 w =>
 Gd t39 true (fun k => k t42 w) w fun t43 w =>
 Gd t43 false (fun k => k t0x1 w) w fun t44 w =>
 Gd t43 false (fun k => Ix P 9 t44 (.int .i64 0) w k) w fun t45 w =>
 Gd t43 false (fun k => Bn P .neq 5 true t45 (.int .u8 48) w k) w fun t46 w =>
 Gd t39 true (fun k => Pick t43 (.bool true) t46 w k) w fun t47 w =>
 Pick t39 t47 (.bool false) w fun t48 w =>
 R (.returned t48) w)))
theorem e_ref03_Valid {t0 : Value} {w : World} {R : Ending → World → Prop} (h : s_ref03_Valid Tryz.prog t0 w R) : Calls Tryz.prog 67 #[t0] w R :=
 enter (h := (.sq .z (.jn [0] [2, 4, 5, 6, 7, 8, 9, 10, 11, 12, 13, 14, 15] (.sq .z (.cd (.sq .z (.sq .z (.cd (.sq .z .z) .z))) .z)) (.sq (.sq .z (.bk (.lp [3] [2, 16, 17, 18, 19, 20, 21, 22, 23, 24, 25, 26, 27, 28, 29, 30, 31] (.sq (.sq .z (.cd .z .z)) (.sq (.bk (.sq .z (.cd (.sq .z .z) .z))) .z))))) (.sq .z .z))))) (args := [t0]) Tryz.func67 (by kernel_rfl) (by kernel_rfl) (by kernel_rfl) (Eq.mp (by kernel_rfl) h)
theorem n_ref03_Valid : Enters Tryz.prog 67 := enters_of Tryz.func67 (by kernel_rfl) rfl
def s_ref03_Compare (P : Program) (t0 t1 : Value) (w : World) (R : Ending → World → Prop) : Prop :=
 Cl P 67 #[t0] w (Pk R) fun t10 w =>
 Un P .not t10 w fun t11 w =>
 Gd t11 false (fun k => k t1 w) w fun t13 w =>
 Gd t11 false (fun k => Cl P 67 #[t13] w (Pk R) k) w fun t14 w =>
 Gd t11 false (fun k => Un P .not t14 w k) w fun t15 w =>
 Pick t11 (.bool true) t15 w fun t16 w =>
 If t16
 (R (.returned (.int .i64 0)) w)
 (Cl P 94 #[t0] w (Pk R) fun t19 w =>
 Ex t19 0 w fun t20 w =>
 Ex t19 1 w fun t21 w =>
 Cl P 94 #[t1] w (Pk R) fun t24 w =>
 Ex t24 0 w fun t25 w =>
 Ex t24 1 w fun t26 w =>
 Bn P .neq 4 false t20 t25 w fun t29 w =>
 If t29
 (If t20
 (R (.returned (.int .i64 (-1))) w)
 (R (.returned (.int .i64 1)) w))
 (If t20
 (Cl P 95 #[t26, t21] w (Pk R) fun t34 w =>
 R (.returned t34) w)
 (Cl P 95 #[t21, t26] w (Pk R) fun t37 w =>
 R (.returned t37) w)))
theorem e_ref03_Compare {t0 t1 : Value} {w : World} {R : Ending → World → Prop} (h : s_ref03_Compare Tryz.prog t0 t1 w R) : Calls Tryz.prog 68 #[t0, t1] w R :=
 enter (h := (.sq .z (.sq (.sq .z (.cd (.sq .z .z) .z)) (.sq .z (.sq .z (.sq (.sq .z (.cd (.sq (.sq .z (.cd (.sq .z .z) .z)) (.sq .z .z)) .z)) (.sq (.sq .z (.cd (.sq .z .z) .z)) (.sq .z .z)))))))) (args := [t0, t1]) Tryz.func68 (by kernel_rfl) (by kernel_rfl) (by kernel_rfl) (Eq.mp (by kernel_rfl) h)
theorem n_ref03_Compare : Enters Tryz.prog 68 := enters_of Tryz.func68 (by kernel_rfl) rfl
def s_ref03_Gcd (P : Program) (t0 t1 : Value) (w : World) (R : Ending → World → Prop) : Prop :=
 Cl P 67 #[t0] w (Pk R) fun t13 w =>
 Un P .not t13 w fun t14 w =>
 Gd t14 false (fun k => k t1 w) w fun t16 w =>
 Gd t14 false (fun k => Cl P 67 #[t16] w (Pk R) k) w fun t17 w =>
 Gd t14 false (fun k => Un P .not t17 w k) w fun t18 w =>
 Pick t14 (.bool true) t18 w fun t19 w =>
 If t19
 (R (.returned (.tuple #[(str []), (.int .i64 30)])) w)
 (Cl P 94 #[t0] w (Pk R) fun t22 w =>
 Ex t22 0 w fun t23 w =>
 Ex t22 1 w fun t24 w =>
 Cl P 94 #[t1] w (Pk R) fun t27 w =>
 Ex t27 0 w fun t28 w =>
 Ex t27 1 w fun t29 w =>
 Lp2 t24 t29 w (fun t7 t9 w k1 =>
 Bt P .len #[44] 3 #[t9] w fun t31 w =>
 Bn P .gtr 3 true t31 (.int .i64 0) w fun t32 w =>
 If t32
 (Cl P 96 #[t7, t9] w (Pk R) fun t36 w =>
 Ex t36 0 w fun t37 w =>
 Ex t36 1 w fun t38 w =>
 k1 t9 t38 w)
 (Cl P 97 #[(.bool false), t7] w (Pk R) fun t42 w =>
 Ex t42 0 w fun t43 w =>
 Ex t42 1 w fun t44 w =>
 R (.returned (.tuple #[t43, t44])) w)))
theorem e_ref03_Gcd {t0 t1 : Value} {w : World} {R : Ending → World → Prop} (h : s_ref03_Gcd Tryz.prog t0 t1 w R) : Calls Tryz.prog 69 #[t0, t1] w R :=
 enter (h := (.sq .z (.sq (.sq .z (.cd (.sq .z .z) .z)) (.sq .z (.sq .z (.sq (.bk (.lp [7, 9] [10, 11, 30, 31, 32, 33, 34, 35, 36, 37, 38, 39, 40] (.sq (.sq .z (.cd .z .z)) (.bk (.sq .z (.sq .z .z)))))) (.sq .z .z))))))) (args := [t0, t1]) Tryz.func69 (by kernel_rfl) (by kernel_rfl) (by kernel_rfl) (Eq.mp (by kernel_rfl) h)
theorem n_ref03_Gcd : Enters Tryz.prog 69 := enters_of Tryz.func69 (by kernel_rfl) rfl
def s_estimate_state_note (P : Program) (t0 t1 t2 : Value) (w : World) (R : Ending → World → Prop) : Prop :=
 Bx P 30 t1 w fun t4 w =>
 Al P 30 w fun t6 w =>
 Nc t0 w fun t9 w =>
 Fa P 59 t9 0 w fun t10 w =>
 Ld P 4 t10 w fun t11 w =>
 Gd t11 false (fun k => k t2 w) w fun t13 w =>
 Gd t11 false (fun k => Bn P .neq 31 true t13 (.int .i64 0) w k) w fun t14 w =>
 Pick t11 (.bool true) t14 w fun t15 w =>
 Nc t0 w fun t16 w =>
 Fa P 59 t16 0 w fun t17 w =>
 Sto P 4 t17 t15 w fun w =>
 Nc t0 w fun t19 w =>
 Fa P 59 t19 0 w fun t20 w =>
 Ld P 4 t20 w fun t21 w =>
 If t21
 (Bd P 30 [] w fun t22 w =>
 Sto P 30 t6 t22 w fun w =>
 Rc P 30 t6 w fun r0 =>
 R (.returned r0) w)
 (Ld P 30 t4 w fun t23 w =>
 Sto P 30 t6 t23 w fun w =>
 Rc P 30 t6 w fun r0 =>
 R (.returned r0) w)
theorem e_estimate_state_note {t0 t1 t2 : Value} {w : World} {R : Ending → World → Prop} (h : s_estimate_state_note Tryz.prog t0 t1 t2 w R) : Calls Tryz.prog 70 #[t0, t1, t2] w R :=
 enter (h := (.sq .z (.sq .z (.sq (.sq .z (.cd (.sq .z .z) .z)) (.sq .z .z))))) (args := [t0, t1, t2]) Tryz.func70 (by kernel_rfl) (by kernel_rfl) (by kernel_rfl) (Eq.mp (by kernel_rfl) h)
theorem n_estimate_state_note : Enters Tryz.prog 70 := enters_of Tryz.func70 (by kernel_rfl) rfl
def s_ref04_Add (P : Program) (t0 t1 : Value) (w : World) (R : Ending → World → Prop) : Prop :=
 Bx P 30 t0 w fun t2 w =>
 Bx P 30 t1 w fun t3 w =>
 Al P 30 w fun t4 w =>
 Ld P 30 t2 w fun t13 w =>
 Ld P 30 t3 w fun t14 w =>
 Cl P 98 #[t13, t14] w (Pk R) fun t15 w =>
 Ex t15 0 w fun t16 w =>
 Ex t15 1 w fun t17 w =>
 Ex t15 2 w fun t18 w =>
 Ex t15 3 w fun t19 w =>
 Un P .not t19 w fun t21 w =>
 If t21
 (Bd P 30 [] w fun t22 w =>
 Sto P 30 t4 t22 w fun w =>
 Rc P 30 t4 w fun r0 =>
 R (.returned (.tuple #[r0, (.int .i64 40)])) w)
 (Cl P 99 #[t16, t17] w (Pk R) fun t26 w =>
 Ex t26 0 w fun t27 w =>
 Ex t26 1 w fun t28 w =>
 Bn P .neq 31 true t28 (.int .i64 0) w fun t30 w =>
 If t30
 (Bd P 30 [] w fun t31 w =>
 Sto P 30 t4 t31 w fun w =>
 Rc P 30 t4 w fun r0 =>
 R (.returned (.tuple #[r0, (.int .i64 40)])) w)
 (Cl P 62 #[t27, t18] w (Pk R) fun t34 w =>
 Ex t34 0 w fun t35 w =>
 Ex t34 1 w fun t36 w =>
 Sto P 30 t4 t35 w fun w =>
 Rc P 30 t4 w fun r0 =>
 R (.returned (.tuple #[r0, t36])) w))
theorem e_ref04_Add {t0 t1 : Value} {w : World} {R : Ending → World → Prop} (h : s_ref04_Add Tryz.prog t0 t1 w R) : Calls Tryz.prog 71 #[t0, t1] w R :=
 enter (h := (.sq .z (.sq .z (.sq (.sq .z (.cd (.sq .z .z) .z)) (.sq .z (.sq (.sq .z (.cd (.sq .z .z) .z)) (.sq .z .z))))))) (args := [t0, t1]) Tryz.func71 (by kernel_rfl) (by kernel_rfl) (by kernel_rfl) (Eq.mp (by kernel_rfl) h)
theorem n_ref04_Add : Enters Tryz.prog 71 := enters_of Tryz.func71 (by kernel_rfl) rfl
def s_ref04_Div (P : Program) (t0 t1 : Value) (w : World) (R : Ending → World → Prop) : Prop :=
 Bx P 30 t0 w fun t2 w =>
 Bx P 30 t1 w fun t3 w =>
 Al P 30 w fun t4 w =>
 Ld P 30 t2 w fun t12 w =>
 Cl P 36 #[t12] w (Pk R) fun t13 w =>
 Ld P 30 t3 w fun t14 w =>
 Cl P 36 #[t14] w (Pk R) fun t15 w =>
 Un P .not t13 w fun t17 w =>
 Gd t17 false (fun k => k t15 w) w fun t19 w =>
 Gd t17 false (fun k => Un P .not t19 w k) w fun t20 w =>
 Pick t17 (.bool true) t20 w fun t21 w =>
 If t21
 (Bd P 30 [] w fun t22 w =>
 Sto P 30 t4 t22 w fun w =>
 Rc P 30 t4 w fun r0 =>
 R (.returned (.tuple #[r0, (.int .i64 40)])) w)
 (Fa P 30 t2 0 w fun t24 w =>
 Ld P 9 t24 w fun t25 w =>
 Fa P 30 t3 1 w fun t26 w =>
 Ld P 9 t26 w fun t27 w =>
 Cl P 100 #[t25, t27] w (Pk R) fun t28 w =>
 Ex t28 0 w fun t29 w =>
 Ex t28 1 w fun t30 w =>
 Fa P 30 t2 1 w fun t32 w =>
 Ld P 9 t32 w fun t33 w =>
 Fa P 30 t3 0 w fun t34 w =>
 Ld P 9 t34 w fun t35 w =>
 Cl P 100 #[t33, t35] w (Pk R) fun t36 w =>
 Ex t36 0 w fun t37 w =>
 Ex t36 1 w fun t38 w =>
 Bn P .neq 31 true t30 (.int .i64 0) w fun t40 w =>
 Gd t40 false (fun k => k t38 w) w fun t42 w =>
 Gd t40 false (fun k => Bn P .neq 31 true t42 (.int .i64 0) w k) w fun t43 w =>
 Pick t40 (.bool true) t43 w fun t44 w =>
 If t44
 (Bd P 30 [] w fun t45 w =>
 Sto P 30 t4 t45 w fun w =>
 Rc P 30 t4 w fun r0 =>
 R (.returned (.tuple #[r0, (.int .i64 40)])) w)
 (Cl P 62 #[t29, t37] w (Pk R) fun t48 w =>
 Ex t48 0 w fun t49 w =>
 Ex t48 1 w fun t50 w =>
 Sto P 30 t4 t49 w fun w =>
 Rc P 30 t4 w fun r0 =>
 R (.returned (.tuple #[r0, t50])) w))
theorem e_ref04_Div {t0 t1 : Value} {w : World} {R : Ending → World → Prop} (h : s_ref04_Div Tryz.prog t0 t1 w R) : Calls Tryz.prog 72 #[t0, t1] w R :=
 enter (h := (.sq .z (.sq .z (.sq .z (.sq (.sq .z (.cd (.sq .z .z) .z)) (.sq .z (.sq .z (.sq (.sq .z (.cd (.sq .z .z) .z)) (.sq .z .z))))))))) (args := [t0, t1]) Tryz.func72 (by kernel_rfl) (by kernel_rfl) (by kernel_rfl) (Eq.mp (by kernel_rfl) h)
theorem n_ref04_Div : Enters Tryz.prog 72 := enters_of Tryz.func72 (by kernel_rfl) rfl
def s_ref04_Mul (P : Program) (t0 t1 : Value) (w : World) (R : Ending → World → Prop) : Prop :=
 Bx P 30 t0 w fun t2 w =>
 Bx P 30 t1 w fun t3 w =>
 Al P 30 w fun t4 w =>
 Ld P 30 t2 w fun t12 w =>
 Cl P 36 #[t12] w (Pk R) fun t13 w =>
 Ld P 30 t3 w fun t14 w =>
 Cl P 36 #[t14] w (Pk R) fun t15 w =>
 Un P .not t13 w fun t17 w =>
 Gd t17 false (fun k => k t15 w) w fun t19 w =>
 Gd t17 false (fun k => Un P .not t19 w k) w fun t20 w =>
 Pick t17 (.bool true) t20 w fun t21 w =>
 If t21
 (Bd P 30 [] w fun t22 w =>
 Sto P 30 t4 t22 w fun w =>
 Rc P 30 t4 w fun r0 =>
 R (.returned (.tuple #[r0, (.int .i64 40)])) w)
 (Fa P 30 t2 0 w fun t24 w =>
 Ld P 9 t24 w fun t25 w =>
 Fa P 30 t3 0 w fun t26 w =>
 Ld P 9 t26 w fun t27 w =>
 Cl P 100 #[t25, t27] w (Pk R) fun t28 w =>
 Ex t28 0 w fun t29 w =>
 Ex t28 1 w fun t30 w =>
 Fa P 30 t2 1 w fun t32 w =>
 Ld P 9 t32 w fun t33 w =>
 Fa P 30 t3 1 w fun t34 w =>
 Ld P 9 t34 w fun t35 w =>
 Cl P 100 #[t33, t35] w (Pk R) fun t36 w =>
 Ex t36 0 w fun t37 w =>
 Ex t36 1 w fun t38 w =>
 Bn P .neq 31 true t30 (.int .i64 0) w fun t40 w =>
 Gd t40 false (fun k => k t38 w) w fun t42 w =>
 Gd t40 false (fun k => Bn P .neq 31 true t42 (.int .i64 0) w k) w fun t43 w =>
 Pick t40 (.bool true) t43 w fun t44 w =>
 If t44
 (Bd P 30 [] w fun t45 w =>
 Sto P 30 t4 t45 w fun w =>
 Rc P 30 t4 w fun r0 =>
 R (.returned (.tuple #[r0, (.int .i64 40)])) w)
 (Cl P 62 #[t29, t37] w (Pk R) fun t48 w =>
 Ex t48 0 w fun t49 w =>
 Ex t48 1 w fun t50 w =>
 Sto P 30 t4 t49 w fun w =>
 Rc P 30 t4 w fun r0 =>
 R (.returned (.tuple #[r0, t50])) w))
theorem e_ref04_Mul {t0 t1 : Value} {w : World} {R : Ending → World → Prop} (h : s_ref04_Mul Tryz.prog t0 t1 w R) : Calls Tryz.prog 73 #[t0, t1] w R :=
 enter (h := (.sq .z (.sq .z (.sq .z (.sq (.sq .z (.cd (.sq .z .z) .z)) (.sq .z (.sq .z (.sq (.sq .z (.cd (.sq .z .z) .z)) (.sq .z .z))))))))) (args := [t0, t1]) Tryz.func73 (by kernel_rfl) (by kernel_rfl) (by kernel_rfl) (Eq.mp (by kernel_rfl) h)
theorem n_ref04_Mul : Enters Tryz.prog 73 := enters_of Tryz.func73 (by kernel_rfl) rfl
def s_ref04_Sub (P : Program) (t0 t1 : Value) (w : World) (R : Ending → World → Prop) : Prop :=
 Bx P 30 t0 w fun t2 w =>
 Bx P 30 t1 w fun t3 w =>
 Al P 30 w fun t4 w =>
 Ld P 30 t2 w fun t13 w =>
 Ld P 30 t3 w fun t14 w =>
 Cl P 98 #[t13, t14] w (Pk R) fun t15 w =>
 Ex t15 0 w fun t16 w =>
 Ex t15 1 w fun t17 w =>
 Ex t15 2 w fun t18 w =>
 Ex t15 3 w fun t19 w =>
 Un P .not t19 w fun t21 w =>
 If t21
 (Bd P 30 [] w fun t22 w =>
 Sto P 30 t4 t22 w fun w =>
 Rc P 30 t4 w fun r0 =>
 R (.returned (.tuple #[r0, (.int .i64 40)])) w)
 (Cl P 90 #[t16, t17] w (Pk R) fun t26 w =>
 Ex t26 0 w fun t27 w =>
 Ex t26 1 w fun t28 w =>
 Bn P .neq 31 true t28 (.int .i64 0) w fun t30 w =>
 If t30
 (Bd P 30 [] w fun t31 w =>
 Sto P 30 t4 t31 w fun w =>
 Rc P 30 t4 w fun r0 =>
 R (.returned (.tuple #[r0, (.int .i64 40)])) w)
 (Cl P 62 #[t27, t18] w (Pk R) fun t34 w =>
 Ex t34 0 w fun t35 w =>
 Ex t34 1 w fun t36 w =>
 Sto P 30 t4 t35 w fun w =>
 Rc P 30 t4 w fun r0 =>
 R (.returned (.tuple #[r0, t36])) w))
theorem e_ref04_Sub {t0 t1 : Value} {w : World} {R : Ending → World → Prop} (h : s_ref04_Sub Tryz.prog t0 t1 w R) : Calls Tryz.prog 74 #[t0, t1] w R :=
 enter (h := (.sq .z (.sq .z (.sq (.sq .z (.cd (.sq .z .z) .z)) (.sq .z (.sq (.sq .z (.cd (.sq .z .z) .z)) (.sq .z .z))))))) (args := [t0, t1]) Tryz.func74 (by kernel_rfl) (by kernel_rfl) (by kernel_rfl) (Eq.mp (by kernel_rfl) h)
theorem n_ref04_Sub : Enters Tryz.prog 74 := enters_of Tryz.func74 (by kernel_rfl) rfl
def s_estimate_calculator_choices_1 (P : Program) (t0 t1 t2 : Value) (w : World) (R : Ending → World → Prop) : Prop :=
 Ld P 55 t1 w fun t9 w =>
 Bt P .len #[55] 3 #[t9] w fun t10 w =>
 Bn P .shl 3 true (.int .i64 1) t10 w fun t11 w =>
 Lp1 (.int .i64 0) w (fun t12 w k1 =>
 Bn P .lss 3 false t12 t11 w fun t13 w =>
 If t13
 (Ld P 30 (.pointer (some ⟨1, 0, none⟩)) w fun t15 w =>
 Al P 30 w fun t5 w =>
 Sto P 30 t5 t15 w fun w =>
 Ld P 55 t1 w fun t16 w =>
 Bt P .len #[55] 3 #[t16] w fun t17 w =>
 Lp2 (.slice none 0 0) (.int .i64 0) w (fun t6 t18 w k2 =>
 Bn P .lss 3 false t18 t17 w fun t19 w =>
 If t19
 (Ia P 55 t16 t18 w fun t21 w =>
 Ld P 68 t21 w fun t22 w =>
 Al P 68 w fun t8 w =>
 Sto P 68 t8 t22 w fun w =>
 Bn P .shr 3 false t12 t18 w fun t25 w =>
 Bn P .and 3 true t25 (.int .i64 1) w fun t26 w =>
 Bn P .eql 3 true t26 (.int .i64 1) w fun t27 w =>
 If t27
 (Dv P false (Instr.loadAt 69 t2) w.drew fun t28 =>
 Dv P false (Instr.loadAt 30 t5) w.drew fun t29 =>
 Dv P true (Instr.fieldAt 68 t8 1) w.drew fun t30 =>
 Dv P false (Instr.loadAt 30 t30) w.drew fun t31 =>
 Dv P false (Instr.loadAt 68 t8) w.drew fun t34 =>
 (Cl P 48 #[t28, t29, t31] w.drew (Pk R) fun t32 w =>
 Ke P (Instr.loadAt 68 t8) t34 w <|
 Bs P 55 1 [(0, t34)] w fun t35 w =>
 Ke P (Instr.loadAt 69 t2) t28 w <|
 Ke P (Instr.loadAt 30 t5) t29 w <|
 Ke P (Instr.loadAt 30 t30) t31 w <|
 Bt P .append #[55, 55] 55 #[t6, t35] w fun t36 w =>
 Sto P 30 t5 t32 w fun w =>
 Bn P .add 3 true t18 (.int .i64 1) w fun t45 w =>
 k2 t36 t45 w) ∧
 (Bs P 55 1 [(0, t34)] w.drew fun t35x1 w =>
 Ke P (Instr.loadAt 69 t2) t28 w <|
 Ke P (Instr.loadAt 30 t5) t29 w <|
 Ke P (Instr.loadAt 30 t30) t31 w <|
 Cl P 48 #[t28, t29, t31] w (Pk R) fun t32x1 w =>
 Ke P (Instr.loadAt 68 t8) t34 w <|
 Bt P .append #[55, 55] 55 #[t6, t35x1] w fun t36x1 w =>
 Sto P 30 t5 t32x1 w fun w =>
 Bn P .add 3 true t18 (.int .i64 1) w fun t45x1 w =>
 k2 t36x1 t45x1 w))
 (Dv P false (Instr.loadAt 69 t2) w.drew fun t37 =>
 Dv P false (Instr.loadAt 30 t5) w.drew fun t38 =>
 Dv P false (Instr.loadAt 69 t2) w.drew fun t39 =>
 Dv P false (Instr.loadAt 30 (.pointer (some ⟨1, 0, none⟩))) w.drew fun t40 =>
 Dv P true (Instr.fieldAt 68 t8 1) w.drew fun t41 =>
 Dv P false (Instr.loadAt 30 t41) w.drew fun t42 =>
 Cl P 49 #[t39, t40, t42] w.drew (Pk R) fun t43 w =>
 Ke P (Instr.loadAt 69 t2) t37 w <|
 Ke P (Instr.loadAt 30 t5) t38 w <|
 Cl P 48 #[t37, t38, t43] w (Pk R) fun t44 w =>
 Sto P 30 t5 t44 w fun w =>
 Bn P .add 3 true t18 (.int .i64 1) w fun t45x2 w =>
 k2 t6 t45x2 w))
 (Ld P 30 t5 w fun t47 w =>
 Cw P t0 #[t47, t6] w (Pk R) fun t49 w =>
 Un P .not t49 w fun t50 w =>
 If t50
 (R (.returned (.tuple #[])) w)
 (Bn P .add 3 true t12 (.int .i64 1) w fun t51 w =>
 k1 t51 w))))
 (R (.returned (.tuple #[])) w))
theorem e_estimate_calculator_choices_1 {t0 t1 t2 : Value} {w : World} {R : Ending → World → Prop} (h : s_estimate_calculator_choices_1 Tryz.prog t0 t1 t2 w R) : Calls Tryz.prog 75 #[t0, t1, t2] w R :=
 enter (h := (.sq .z (.bk (.lp [12] [4, 5, 6, 7, 8, 13, 14, 15, 16, 17, 18, 19, 20, 21, 22, 23, 24, 25, 26, 27, 28, 29, 30, 31, 32, 33, 34, 35, 36, 37, 38, 39, 40, 41, 42, 43, 44, 45, 46, 47, 48, 49, 50, 51] (.sq .z (.sq (.cd .z .z) (.sq (.bk (.sq .z (.sq .z (.sq (.sq .z (.bk (.lp [6, 18] [7, 8, 19, 20, 21, 22, 23, 24, 25, 26, 27, 28, 29, 30, 31, 32, 33, 34, 35, 36, 37, 38, 39, 40, 41, 42, 43, 44, 45] (.sq .z (.sq (.cd .z .z) (.sq (.bk (.sq .z (.sq .z (.cd (.dr (.pur false 0 (.pur false 1 (.pur true 2 (.pur false 3 (.pur true 5 (.pur false 6 (.alt (.eff 4 [6] (.eff 7 [0, 1, 3] (.eff 8 [] (.eff 9 [] (.pur true 10 .done))))) (.eff 7 [0, 1, 3] (.eff 4 [6] (.eff 8 [] (.eff 9 [] (.pur true 10 .done))))))))))))) (.dr (.pur false 0 (.pur false 1 (.pur false 2 (.pur false 3 (.pur true 4 (.pur false 5 (.eff 6 [0, 1] (.eff 7 [] (.eff 8 [] .done)))))))))))))) .z)))))) (.sq .z (.cd .z .z)))))) .z))))))) (args := [t0, t1, t2]) Tryz.func75 (by kernel_rfl) (by kernel_rfl) (by kernel_rfl) (Eq.mp (by kernel_rfl) h)
theorem n_estimate_calculator_choices_1 : Enters Tryz.prog 75 := enters_of Tryz.func75 (by kernel_rfl) rfl
def s_integer_both (P : Program) (t0 t1 : Value) (w : World) (R : Ending → World → Prop) : Prop :=
 Al P 96 w fun t4 w =>
 Al P 96 w fun t5 w =>
 Cl P 89 #[t0] w (Pk R) fun t8 w =>
 Un P .not t8 w fun t9 w =>
 Gd t9 false (fun k => k t1 w) w fun t11 w =>
 Gd t9 false (fun k => Cl P 89 #[t11] w (Pk R) k) w fun t12 w =>
 Gd t9 false (fun k => Un P .not t12 w k) w fun t13 w =>
 Pick t9 (.bool true) t13 w fun t14 w =>
 If t14
 (Bd P 96 [] w fun t15 w =>
 Bd P 96 [] w fun t16 w =>
 Sto P 96 t4 t15 w fun w =>
 Sto P 96 t5 t16 w fun w =>
 Rc P 96 t4 w fun r0 =>
 Rc P 96 t5 w fun r1 =>
 R (.returned (.tuple #[r0, r1, (.bool false)])) w)
 (Cl P 101 #[t0] w (Pk R) fun t18 w =>
 Cl P 101 #[t1] w (Pk R) fun t20 w =>
 Sto P 96 t4 t18 w fun w =>
 Sto P 96 t5 t20 w fun w =>
 Rc P 96 t4 w fun r0 =>
 Rc P 96 t5 w fun r1 =>
 R (.returned (.tuple #[r0, r1, (.bool true)])) w)
theorem e_integer_both {t0 t1 : Value} {w : World} {R : Ending → World → Prop} (h : s_integer_both Tryz.prog t0 t1 w R) : Calls Tryz.prog 76 #[t0, t1] w R :=
 enter (h := (.sq .z (.sq (.sq .z (.cd (.sq .z .z) .z)) (.sq .z .z)))) (args := [t0, t1]) Tryz.func76 (by kernel_rfl) (by kernel_rfl) (by kernel_rfl) (Eq.mp (by kernel_rfl) h)
theorem n_integer_both : Enters Tryz.prog 76 := enters_of Tryz.func76 (by kernel_rfl) rfl
def s_integer_number_over (P : Program) (t0 t1 : Value) (w : World) (R : Ending → World → Prop) : Prop :=
 Bx P 94 t1 w fun t3 w =>
 Al P 94 w fun t4 w =>
 Al P 94 w fun t5 w =>
 Bt P .len #[94] 3 #[t0] w fun t11 w =>
 Ms P 94 t11 t11 w fun t12 w =>
 Sto P 94 t4 t12 w fun w =>
 Cl P 102 #[t0] w (Pk R) fun t14 w =>
 Rf2 P t14 w (fun t15 t16 w next lv =>
 Bs P 94 1 [(0, t16)] w fun t18 w =>
 Ld P 94 t5 w fun t19 w =>
 Bt P .append #[94, 94] 94 #[t18, t19] w fun t20 w =>
 Cl P 103 #[t20] w (fun _ _ => False) fun t21 w =>
 Sto P 94 t5 t21 w fun w =>
 Ld P 94 t3 w fun t22 w =>
 Al P 123 w fun t8 w =>
 Sto P 123 t8 (.func (.func 104) #[t22] #[]) w fun w =>
 Dv P false (Instr.loadAt 94 t4) w.drew fun t25 =>
 Cl P 106 #[(.int .i64 9999), (.func (.func 105) #[] #[t8, t5])] w.drew (fun _ _ => False) fun t28 w =>
 Ke P (Instr.loadAt 94 t4) t25 w <|
 Dv P true (Instr.indexAt 94 t25 t15) w fun t29 =>
 Sto P 3 t29 t28 w fun w =>
 Dv P false (Instr.loadAt 94 t5) w.drew fun t30 =>
 Dv P false (Instr.loadAt 123 t8) w.drew fun t31 =>
 Dv P false (Instr.loadAt 94 t4) w.drew fun t32 =>
 Dv P true (Instr.indexAt 94 t32 t15) w.drew fun t34 =>
 Dv P false (Instr.loadAt 3 t34) w.drew fun t35 =>
 Cw P t31 #[t35] w.drew (fun _ _ => False) fun t36 w =>
 Ke P (Instr.loadAt 94 t5) t30 w <|
 Cl P 80 #[t30, t36] w (fun _ _ => False) fun t37 w =>
 Sto P 94 t5 t37 w fun w =>
 next w)
 (fun D1 w =>
 Dv P false (Instr.loadAt 94 t4) w.drew fun t38 =>
 Dv P false (Instr.loadAt 94 t5) w.drew fun t40 =>
 Cl P 103 #[t38] w.drew (fun c w => Tk P D1 w fun w => R (.panicked c) w) fun t39 w =>
 Ke P (Instr.loadAt 94 t5) t40 w <|
 Sto P 94 t4 t39 w fun w =>
 Ke P (Instr.loadAt 94 t5) t40 w <|
 Sto P 94 t5 t40 w fun w =>
 Tk P D1 w fun w =>
 Rc P 94 t4 w fun r0 =>
 Rc P 94 t5 w fun r1 =>
 R (.returned (.tuple #[r0, r1])) w)
 (fun D1 w =>
 Tk P D1 w fun w =>
 Rc P 94 t4 w fun r0 =>
 Rc P 94 t5 w fun r1 =>
 R (.returned (.tuple #[r0, r1])) w) []
theorem e_integer_number_over {t0 t1 : Value} {w : World} {R : Ending → World → Prop} (h : s_integer_number_over Tryz.prog t0 t1 w R) : Calls Tryz.prog 77 #[t0, t1] w R :=
 enter (h := (.sq .z (.sq .z (.sq (.sq .z (.bk (.rf (.bk (.sq .z (.sq .z (.sq .z (.sq (.dr (.pur false 0 (.pur true 1 (.pur true 2 (.eff 3 [0] (.pur true 4 (.eff 5 [] .done))))))) (.dr (.pur false 0 (.pur false 1 (.pur false 2 (.pur true 3 (.pur true 4 (.pur false 5 (.eff 6 [0] (.eff 7 [] (.eff 8 [] .done))))))))))))))) []))) (.sq (.dr (.pur false 0 (.pur false 2 (.eff 1 [2] (.eff 3 [2] (.eff 4 [] .done)))))) .z))))) (args := [t0, t1]) Tryz.func77 (by kernel_rfl) (by kernel_rfl) (by kernel_rfl) (Eq.mp (by kernel_rfl) h)
theorem n_integer_number_over : Enters Tryz.prog 77 := enters_of Tryz.func77 (by kernel_rfl) rfl
def s_integer_number_plus (P : Program) (t0 t1 : Value) (w : World) (R : Ending → World → Prop) : Prop :=
 Bx P 94 t0 w fun t2 w =>
 Bx P 94 t1 w fun t3 w =>
 Ld P 94 t2 w fun t5 w =>
 Bt P .len #[94] 3 #[t5] w fun t6 w =>
 Ld P 94 t3 w fun t7 w =>
 Bt P .len #[94] 3 #[t7] w fun t8 w =>
 Bt P .max #[3, 3] 3 #[t6, t8] w fun t9 w =>
 Cl P 107 #[t9, (.int .i64 0), (.func (.func 108) #[] #[t2, t3])] w (Pk R) fun t11 w =>
 Cl P 103 #[t11] w (Pk R) fun t12 w =>
 R (.returned t12) w
theorem e_integer_number_plus {t0 t1 : Value} {w : World} {R : Ending → World → Prop} (h : s_integer_number_plus Tryz.prog t0 t1 w R) : Calls Tryz.prog 78 #[t0, t1] w R :=
 enter (h := (.sq .z (.sq .z .z))) (args := [t0, t1]) Tryz.func78 (by kernel_rfl) (by kernel_rfl) (by kernel_rfl) (Eq.mp (by kernel_rfl) h)
theorem n_integer_number_plus : Enters Tryz.prog 78 := enters_of Tryz.func78 (by kernel_rfl) rfl
def s_integer_one (P : Program) (w : World) (R : Ending → World → Prop) : Prop :=
 Bs P 94 1 [(0, (.int .i64 1))] w fun t1 w =>
 R (.returned t1) w
theorem e_integer_one {w : World} {R : Ending → World → Prop} (h : s_integer_one Tryz.prog  w R) : Calls Tryz.prog 79 #[] w R :=
 enter (h := (.sq .z (.sq .z .z))) (args := []) Tryz.func79 (by kernel_rfl) (by kernel_rfl) (by kernel_rfl) (Eq.mp (by kernel_rfl) h)
theorem n_integer_one : Enters Tryz.prog 79 := enters_of Tryz.func79 (by kernel_rfl) rfl
def s_integer_number_minus (P : Program) (t0 t1 : Value) (w : World) (R : Ending → World → Prop) : Prop :=
 Bx P 94 t0 w fun t2 w =>
 Bx P 94 t1 w fun t3 w =>
 Ld P 94 t2 w fun t5 w =>
 Bt P .len #[94] 3 #[t5] w fun t6 w =>
 Cl P 107 #[t6, (.int .i64 0), (.func (.func 110) #[] #[t2, t3])] w (Pk R) fun t8 w =>
 Cl P 103 #[t8] w (Pk R) fun t9 w =>
 R (.returned t9) w
theorem e_integer_number_minus {t0 t1 : Value} {w : World} {R : Ending → World → Prop} (h : s_integer_number_minus Tryz.prog t0 t1 w R) : Calls Tryz.prog 80 #[t0, t1] w R :=
 enter (h := (.sq .z (.sq .z .z))) (args := [t0, t1]) Tryz.func80 (by kernel_rfl) (by kernel_rfl) (by kernel_rfl) (Eq.mp (by kernel_rfl) h)
theorem n_integer_number_minus : Enters Tryz.prog 80 := enters_of Tryz.func80 (by kernel_rfl) rfl
def s_integer_signed_text (P : Program) (t0 : Value) (w : World) (R : Ending → World → Prop) : Prop :=
 Bx P 96 t0 w fun t1 w =>
 Fa P 96 t1 1 w fun t9 w =>
 Ld P 94 t9 w fun t10 w =>
 Bt P .len #[94] 3 #[t10] w fun t11 w =>
 Bn P .eql 3 true t11 (.int .i64 0) w fun t12 w =>
 If t12
 (R (.returned (.tuple #[(str [48]), (.int .i64 0)])) w)
 (Al P 131 w fun t4 w =>
 Fa P 96 t1 1 w fun t13 w =>
 Ld P 94 t13 w fun t14 w =>
 Cl P 102 #[t14] w (Pk R) fun t15 w =>
 Rf2 P t15 w (fun t16 t17 w next lv =>
 Cl P 111 #[t17] w (fun _ _ => False) fun t19 w =>
 Fa P 96 t1 1 w fun t21 w =>
 Ld P 94 t21 w fun t22 w =>
 Bt P .len #[94] 3 #[t22] w fun t23 w =>
 Bn P .sub 3 true t23 (.int .i64 1) w fun t24 w =>
 Bn P .lss 3 false t16 t24 w fun t25 w =>
 If t25
 (Bt P .len #[9] 3 #[t19] w fun t27 w =>
 Bn P .sub 3 true (.int .i64 4) t27 w fun t28 w =>
 Cl P 112 #[(str [48]), t28] w (fun _ _ => False) fun t29 w =>
 Bn P .add 9 false t29 t19 w fun t31 w =>
 Cl P 113 #[t4, t31] w (fun _ _ => False) fun t33 w =>
 next w)
 (Cl P 113 #[t4, t19] w (fun _ _ => False) fun t33x1 w =>
 next w))
 (fun D1 w =>
 Cl P 114 #[t4] w (fun c w => Tk P D1 w fun w => R (.panicked c) w) fun t34 w =>
 Bt P .len #[9] 3 #[t34] w fun t36 w =>
 Bn P .gtr 3 true t36 (.int .i64 200) w fun t37 w =>
 If t37
 (Tk P D1 w fun w =>
 R (.returned (.tuple #[(str []), (.int .i64 30)])) w)
 (Fa P 96 t1 0 w fun t38 w =>
 Ld P 4 t38 w fun t39 w =>
 If t39
 (Bn P .add 9 true (str [45]) t34 w fun t41 w =>
 Tk P D1 w fun w =>
 R (.returned (.tuple #[t41, (.int .i64 0)])) w)
 (Tk P D1 w fun w =>
 R (.returned (.tuple #[t34, (.int .i64 0)])) w)))
 (fun D1 w =>
 Tk P D1 w fun w =>
 R (.returned (.tuple #[(str []), (.int .i64 0)])) w) [])
theorem e_integer_signed_text {t0 : Value} {w : World} {R : Ending → World → Prop} (h : s_integer_signed_text Tryz.prog t0 w R) : Calls Tryz.prog 81 #[t0] w R :=
 enter (h := (.sq .z (.sq (.sq .z (.cd (.sq .z .z) .z)) (.sq .z (.sq (.sq .z (.bk (.rf (.bk (.sq .z (.sq (.sq .z (.cd .z .z)) .z))) []))) (.sq .z (.sq (.sq .z (.cd (.sq .z .z) .z)) (.sq (.sq .z (.cd (.sq .z .z) .z)) (.sq .z .z))))))))) (args := [t0]) Tryz.func81 (by kernel_rfl) (by kernel_rfl) (by kernel_rfl) (Eq.mp (by kernel_rfl) h)
theorem n_integer_signed_text : Enters Tryz.prog 81 := enters_of Tryz.func81 (by kernel_rfl) rfl
def s_integer_number_compare (P : Program) (t0 t1 : Value) (w : World) (R : Ending → World → Prop) : Prop :=
 Bx P 94 t1 w fun t3 w =>
 Al P 3 w fun t4 w =>
 Bt P .len #[94] 3 #[t0] w fun t8 w =>
 Ld P 94 t3 w fun t9 w =>
 Bt P .len #[94] 3 #[t9] w fun t10 w =>
 Bn P .neq 3 false t8 t10 w fun t11 w =>
 If t11
 (Bt P .len #[94] 3 #[t0] w fun t13 w =>
 Ld P 94 t3 w fun t14 w =>
 Bt P .len #[94] 3 #[t14] w fun t15 w =>
 Cl P 115 #[t13, t15] w (Pk R) fun t16 w =>
 Sto P 3 t4 t16 w fun w =>
 Rc P 3 t4 w fun r0 =>
 R (.returned r0) w)
 (Cl P 102 #[t0] w (Pk R) fun t18 w =>
 Rf2 P t18 w (fun t19 t20 w next lv =>
 Ld P 94 t3 w fun t22 w =>
 Ia P 94 t22 t19 w fun t24 w =>
 Ld P 3 t24 w fun t25 w =>
 Bn P .neq 3 false t20 t25 w fun t26 w =>
 If t26
 (Ld P 94 t3 w fun t28 w =>
 Ia P 94 t28 t19 w fun t30 w =>
 Ld P 3 t30 w fun t31 w =>
 Cl P 115 #[t20, t31] w (fun _ _ => False) fun t32 w =>
 Sto P 3 t4 t32 w fun w =>
 lv .ret w)
 (next w))
 (fun D1 w =>
 Sto P 3 t4 (.int .i64 0) w fun w =>
 Tk P D1 w fun w =>
 Rc P 3 t4 w fun r0 =>
 R (.returned r0) w)
 (fun D1 w =>
 Tk P D1 w fun w =>
 Rc P 3 t4 w fun r0 =>
 R (.returned r0) w) [])
theorem e_integer_number_compare {t0 t1 : Value} {w : World} {R : Ending → World → Prop} (h : s_integer_number_compare Tryz.prog t0 t1 w R) : Calls Tryz.prog 82 #[t0, t1] w R :=
 enter (h := (.sq .z (.sq (.sq .z (.cd (.sq .z .z) .z)) (.sq (.sq .z (.bk (.rf (.bk (.sq .z (.cd (.sq .z .z) .z))) []))) (.sq .z .z))))) (args := [t0, t1]) Tryz.func82 (by kernel_rfl) (by kernel_rfl) (by kernel_rfl) (Eq.mp (by kernel_rfl) h)
theorem n_integer_number_compare : Enters Tryz.prog 82 := enters_of Tryz.func82 (by kernel_rfl) rfl
def s_rational_Make (P : Program) (t0 t1 : Value) (w : World) (R : Ending → World → Prop) : Prop :=
 Al P 30 w fun t4 w =>
 Cl P 60 #[t0] w (Pk R) fun t8 w =>
 Un P .not t8 w fun t9 w =>
 Gd t9 false (fun k => k t1 w) w fun t11 w =>
 Gd t9 false (fun k => Cl P 60 #[t11] w (Pk R) k) w fun t12 w =>
 Gd t9 false (fun k => Un P .not t12 w k) w fun t13 w =>
 Pick t9 (.bool true) t13 w fun t14 w =>
 Bd P 83 [(0, t14)] w fun t15 w =>
 Bx P 83 t15 w fun t16 w =>
 Cl P 56 #[t16, t0, t1] w (Pk R) fun t20 w =>
 Ex t20 0 w fun t21 w =>
 Ex t20 1 w fun t22 w =>
 Sto P 30 t4 t21 w fun w =>
 Rc P 30 t4 w fun r0 =>
 R (.returned (.tuple #[r0, t22])) w
theorem e_rational_Make {t0 t1 : Value} {w : World} {R : Ending → World → Prop} (h : s_rational_Make Tryz.prog t0 t1 w R) : Calls Tryz.prog 83 #[t0, t1] w R :=
 enter (h := (.sq .z (.sq .z (.sq .z .z)))) (args := [t0, t1]) Tryz.func83 (by kernel_rfl) (by kernel_rfl) (by kernel_rfl) (Eq.mp (by kernel_rfl) h)
theorem n_rational_Make : Enters Tryz.prog 83 := enters_of Tryz.func83 (by kernel_rfl) rfl
def s_integer_FromInt (P : Program) (t0 : Value) (w : World) (R : Ending → World → Prop) : Prop :=
 Cl P 111 #[t0] w (Pk R) fun t4 w =>
 R (.returned t4) w
theorem e_integer_FromInt {t0 : Value} {w : World} {R : Ending → World → Prop} (h : s_integer_FromInt Tryz.prog t0 w R) : Calls Tryz.prog 84 #[t0] w R :=
 enter (h := (.sq .z (.sq .z .z))) (args := [t0]) Tryz.func84 (by kernel_rfl) (by kernel_rfl) (by kernel_rfl) (Eq.mp (by kernel_rfl) h)
theorem n_integer_FromInt : Enters Tryz.prog 84 := enters_of Tryz.func84 (by kernel_rfl) rfl
def s_rational_work_do (P : Program) (t0 t1 t2 t3 : Value) (w : World) (R : Ending → World → Prop) : Prop :=
 Nc t0 w fun t12 w =>
 Fa P 83 t12 0 w fun t13 w =>
 Ld P 4 t13 w fun t14 w =>
 If t14
 (R (.returned (str [])) w)
 (Cw P t1 #[t2, t3] w (Pk R) fun t19 w =>
 Ex t19 0 w fun t20 w =>
 Ex t19 1 w fun t21 w =>
 Bn P .neq 31 true t21 (.int .i64 0) w fun t24 w =>
 Nc t0 w fun t25 w =>
 Fa P 83 t25 0 w fun t26 w =>
 Sto P 4 t26 t24 w fun w =>
 R (.returned t20) w)
theorem e_rational_work_do {t0 t1 t2 t3 : Value} {w : World} {R : Ending → World → Prop} (h : s_rational_work_do Tryz.prog t0 t1 t2 t3 w R) : Calls Tryz.prog 85 #[t0, t1, t2, t3] w R :=
 enter (h := (.sq .z (.sq (.sq .z (.cd (.sq .z .z) .z)) (.sq .z (.sq .z (.sq .z .z)))))) (args := [t0, t1, t2, t3]) Tryz.func85 (by kernel_rfl) (by kernel_rfl) (by kernel_rfl) (Eq.mp (by kernel_rfl) h)
theorem n_rational_work_do : Enters Tryz.prog 85 := enters_of Tryz.func85 (by kernel_rfl) rfl
def s_integer_Mul (P : Program) (t0 t1 : Value) (w : World) (R : Ending → World → Prop) : Prop :=
 Cl P 76 #[t0, t1] w (Pk R) fun t12 w =>
 Ex t12 0 w fun t13 w =>
 Ex t12 1 w fun t14 w =>
 Ex t12 2 w fun t15 w =>
 Al P 96 w fun t6 w =>
 Al P 96 w fun t7 w =>
 Sto P 96 t6 t13 w fun w =>
 Sto P 96 t7 t14 w fun w =>
 Un P .not t15 w fun t17 w =>
 If t17
 (R (.returned (.tuple #[(str []), (.int .i64 30)])) w)
 (Dv P true (Instr.fieldAt 96 t6 0) w.drew fun t18 =>
 Dv P false (Instr.loadAt 4 t18) w.drew fun t19 =>
 Dv P true (Instr.fieldAt 96 t7 0) w.drew fun t20 =>
 Dv P false (Instr.loadAt 4 t20) w.drew fun t21 =>
 Dv P true (bn .neq 4 false t19 t21) w.drew fun t22 =>
 Dv P true (Instr.fieldAt 96 t6 1) w.drew fun t23 =>
 Dv P false (Instr.loadAt 94 t23) w.drew fun t24 =>
 Dv P true (Instr.fieldAt 96 t7 1) w.drew fun t25 =>
 Dv P false (Instr.loadAt 94 t25) w.drew fun t26 =>
 Cl P 116 #[t24, t26] w.drew (Pk R) fun t27 w =>
 Ke P (Instr.loadAt 4 t18) t19 w <|
 Ke P (Instr.loadAt 4 t20) t21 w <|
 Dv P true (Instr.build 96 #[(0, t22), (1, t27)]) w fun t28 =>
 Cl P 81 #[t28] w (Pk R) fun t29 w =>
 ExP t29 0 fun t30 =>
 ExP t29 1 fun t31 =>
 R (.returned (.tuple #[t30, t31])) w)
theorem e_integer_Mul {t0 t1 : Value} {w : World} {R : Ending → World → Prop} (h : s_integer_Mul Tryz.prog t0 t1 w R) : Calls Tryz.prog 86 #[t0, t1] w R :=
 enter (h := (.sq .z (.sq .z (.sq (.sq .z (.cd (.sq .z .z) .z)) (.sq (.dr (.pur true 0 (.pur false 1 (.pur true 2 (.pur false 3 (.pur true 4 (.pur true 5 (.pur false 6 (.pur true 7 (.pur false 8 (.eff 9 [1, 3] (.pur true 10 (.eff 11 [] (.pur true 12 (.pur true 13 (.pur true 14 (.pur true 15 .done))))))))))))))))) .z))))) (args := [t0, t1]) Tryz.func86 (by kernel_rfl) (by kernel_rfl) (by kernel_rfl) (Eq.mp (by kernel_rfl) h)
theorem n_integer_Mul : Enters Tryz.prog 86 := enters_of Tryz.func86 (by kernel_rfl) rfl
def s_rational_work_quotient (P : Program) (t0 t1 t2 : Value) (w : World) (R : Ending → World → Prop) : Prop :=
 Cl P 85 #[t0, (.func (.func 117) #[] #[]), t1, t2] w (Pk R) fun t10 w =>
 R (.returned t10) w
theorem e_rational_work_quotient {t0 t1 t2 : Value} {w : World} {R : Ending → World → Prop} (h : s_rational_work_quotient Tryz.prog t0 t1 t2 w R) : Calls Tryz.prog 87 #[t0, t1, t2] w R :=
 enter (h := (.sq .z (.sq .z .z))) (args := [t0, t1, t2]) Tryz.func87 (by kernel_rfl) (by kernel_rfl) (by kernel_rfl) (Eq.mp (by kernel_rfl) h)
theorem n_rational_work_quotient : Enters Tryz.prog 87 := enters_of Tryz.func87 (by kernel_rfl) rfl
def s_integer_signed_plus (P : Program) (t0 t1 : Value) (w : World) (R : Ending → World → Prop) : Prop :=
 Bx P 96 t0 w fun t2 w =>
 Bx P 96 t1 w fun t3 w =>
 Al P 96 w fun t4 w =>
 Fa P 96 t2 0 w fun t6 w =>
 Ld P 4 t6 w fun t7 w =>
 Fa P 96 t3 0 w fun t8 w =>
 Ld P 4 t8 w fun t9 w =>
 Bn P .eql 4 false t7 t9 w fun t10 w =>
 If t10
 (Dv P true (Instr.fieldAt 96 t2 0) w.drew fun t11 =>
 Dv P false (Instr.loadAt 4 t11) w.drew fun t12 =>
 Dv P true (Instr.fieldAt 96 t2 1) w.drew fun t13 =>
 Dv P false (Instr.loadAt 94 t13) w.drew fun t14 =>
 Dv P true (Instr.fieldAt 96 t3 1) w.drew fun t15 =>
 Dv P false (Instr.loadAt 94 t15) w.drew fun t16 =>
 Cl P 78 #[t14, t16] w.drew (Pk R) fun t17 w =>
 Ke P (Instr.loadAt 4 t11) t12 w <|
 Dv P true (Instr.build 96 #[(0, t12), (1, t17)]) w fun t18 =>
 Sto P 96 t4 t18 w fun w =>
 Rc P 96 t4 w fun r0 =>
 R (.returned r0) w)
 (Fa P 96 t2 1 w fun t20 w =>
 Ld P 94 t20 w fun t21 w =>
 Fa P 96 t3 1 w fun t22 w =>
 Ld P 94 t22 w fun t23 w =>
 Cl P 82 #[t21, t23] w (Pk R) fun t24 w =>
 Bn P .geq 3 true t24 (.int .i64 0) w fun t25 w =>
 If t25
 (Dv P true (Instr.fieldAt 96 t2 0) w.drew fun t26 =>
 Dv P false (Instr.loadAt 4 t26) w.drew fun t27 =>
 Dv P true (Instr.fieldAt 96 t2 1) w.drew fun t28 =>
 Dv P false (Instr.loadAt 94 t28) w.drew fun t29 =>
 Dv P true (Instr.fieldAt 96 t3 1) w.drew fun t30 =>
 Dv P false (Instr.loadAt 94 t30) w.drew fun t31 =>
 Cl P 80 #[t29, t31] w.drew (Pk R) fun t32 w =>
 Ke P (Instr.loadAt 4 t26) t27 w <|
 Dv P true (Instr.build 96 #[(0, t27), (1, t32)]) w fun t33 =>
 Sto P 96 t4 t33 w fun w =>
 Rc P 96 t4 w fun r0 =>
 R (.returned r0) w)
 (Dv P true (Instr.fieldAt 96 t3 0) w.drew fun t34 =>
 Dv P false (Instr.loadAt 4 t34) w.drew fun t35 =>
 Dv P true (Instr.fieldAt 96 t3 1) w.drew fun t36 =>
 Dv P false (Instr.loadAt 94 t36) w.drew fun t37 =>
 Dv P true (Instr.fieldAt 96 t2 1) w.drew fun t38 =>
 Dv P false (Instr.loadAt 94 t38) w.drew fun t39 =>
 Cl P 80 #[t37, t39] w.drew (Pk R) fun t40 w =>
 Ke P (Instr.loadAt 4 t34) t35 w <|
 Dv P true (Instr.build 96 #[(0, t35), (1, t40)]) w fun t41 =>
 Sto P 96 t4 t41 w fun w =>
 Rc P 96 t4 w fun r0 =>
 R (.returned r0) w))
theorem e_integer_signed_plus {t0 t1 : Value} {w : World} {R : Ending → World → Prop} (h : s_integer_signed_plus Tryz.prog t0 t1 w R) : Calls Tryz.prog 88 #[t0, t1] w R :=
 enter (h := (.sq .z (.sq (.bk (.sq .z (.cd (.sq (.dr (.pur true 0 (.pur false 1 (.pur true 2 (.pur false 3 (.pur true 4 (.pur false 5 (.eff 6 [1] (.pur true 7 (.eff 8 [] .done)))))))))) .z) (.sq .z (.cd (.sq (.dr (.pur true 0 (.pur false 1 (.pur true 2 (.pur false 3 (.pur true 4 (.pur false 5 (.eff 6 [1] (.pur true 7 (.eff 8 [] .done)))))))))) .z) .z))))) (.sq (.dr (.pur true 0 (.pur false 1 (.pur true 2 (.pur false 3 (.pur true 4 (.pur false 5 (.eff 6 [1] (.pur true 7 (.eff 8 [] .done)))))))))) .z)))) (args := [t0, t1]) Tryz.func88 (by kernel_rfl) (by kernel_rfl) (by kernel_rfl) (Eq.mp (by kernel_rfl) h)
theorem n_integer_signed_plus : Enters Tryz.prog 88 := enters_of Tryz.func88 (by kernel_rfl) rfl
def s_integer_isValid (P : Program) (t0 : Value) (w : World) (R : Ending → World → Prop) : Prop :=
 Cl P 118 #[t0, (str [45])] w (Pk R) fun t5 w =>
 Bn P .eql 9 true t5 (str []) w fun t7 w =>
 Gd t7 false (fun k => k t5 w) w fun t9 w =>
 Gd t7 false (fun k => Bt P .len #[9] 3 #[t9] w k) w fun t10 w =>
 Gd t7 false (fun k => Bn P .gtr 3 true t10 (.int .i64 200) w k) w fun t11 w =>
 Pick t7 (.bool true) t11 w fun t12 w =>
 Gd t12 false (fun k => k t5 w) w fun t14 w =>
 Gd t12 false (fun k => Cl P 119 #[t14, (str [48, 49, 50, 51, 52, 53, 54, 55, 56, 57])] w (Pk R) k) w fun t15 w =>
 Gd t12 false (fun k => Bn P .neq 9 true t15 (str []) w k) w fun t16 w =>
 Pick t12 (.bool true) t16 w fun t17 w =>
 If t17
 (R (.returned (.bool false)) w)
 (Bn P .eql 9 true t0 (str [48]) w fun t19 w =>
 Gd t19 false (fun k => k t5 w) w fun t21 w =>
 Gd t19 false (fun k => Ix P 9 t21 (.int .i64 0) w k) w fun t22 w =>
 Gd t19 false (fun k => Bn P .neq 5 true t22 (.int .u8 48) w k) w fun t23 w =>
 Pick t19 (.bool true) t23 w fun t24 w =>
 R (.returned t24) w)
theorem e_integer_isValid {t0 : Value} {w : World} {R : Ending → World → Prop} (h : s_integer_isValid Tryz.prog t0 w R) : Calls Tryz.prog 89 #[t0] w R :=
 enter (h := (.sq .z (.sq .z (.sq (.sq .z (.cd (.sq .z .z) .z)) (.sq .z .z))))) (args := [t0]) Tryz.func89 (by kernel_rfl) (by kernel_rfl) (by kernel_rfl) (Eq.mp (by kernel_rfl) h)
theorem n_integer_isValid : Enters Tryz.prog 89 := enters_of Tryz.func89 (by kernel_rfl) rfl
def s_ref03_Sub (P : Program) (t0 t1 : Value) (w : World) (R : Ending → World → Prop) : Prop :=
 Cl P 67 #[t0] w (Pk R) fun t11 w =>
 Un P .not t11 w fun t12 w =>
 Gd t12 false (fun k => k t1 w) w fun t14 w =>
 Gd t12 false (fun k => Cl P 67 #[t14] w (Pk R) k) w fun t15 w =>
 Gd t12 false (fun k => Un P .not t15 w k) w fun t16 w =>
 Pick t12 (.bool true) t16 w fun t17 w =>
 If t17
 (R (.returned (.tuple #[(str []), (.int .i64 30)])) w)
 (Cl P 94 #[t0] w (Pk R) fun t20 w =>
 Ex t20 0 w fun t21 w =>
 Ex t20 1 w fun t22 w =>
 Cl P 94 #[t1] w (Pk R) fun t25 w =>
 Ex t25 0 w fun t26 w =>
 Ex t25 1 w fun t27 w =>
 Un P .not t26 w fun t31 w =>
 Cl P 120 #[t21, t22, t31, t27] w (Pk R) fun t33 w =>
 Ex t33 0 w fun t34 w =>
 Ex t33 1 w fun t35 w =>
 R (.returned (.tuple #[t34, t35])) w)
theorem e_ref03_Sub {t0 t1 : Value} {w : World} {R : Ending → World → Prop} (h : s_ref03_Sub Tryz.prog t0 t1 w R) : Calls Tryz.prog 90 #[t0, t1] w R :=
 enter (h := (.sq .z (.sq (.sq .z (.cd (.sq .z .z) .z)) (.sq .z (.sq .z (.sq .z .z)))))) (args := [t0, t1]) Tryz.func90 (by kernel_rfl) (by kernel_rfl) (by kernel_rfl) (Eq.mp (by kernel_rfl) h)
theorem n_ref03_Sub : Enters Tryz.prog 90 := enters_of Tryz.func90 (by kernel_rfl) rfl
def s_ref03_Div (P : Program) (t0 t1 : Value) (w : World) (R : Ending → World → Prop) : Prop :=
 Cl P 67 #[t0] w (Pk R) fun t18 w =>
 Un P .not t18 w fun t19 w =>
 Gd t19 false (fun k => k t1 w) w fun t21 w =>
 Gd t19 false (fun k => Cl P 67 #[t21] w (Pk R) k) w fun t22 w =>
 Gd t19 false (fun k => Un P .not t22 w k) w fun t23 w =>
 Pick t19 (.bool true) t23 w fun t24 w =>
 Gd t24 false (fun k => k t1 w) w fun t26 w =>
 Gd t24 false (fun k => Bn P .eql 9 true t26 (str [48]) w k) w fun t27 w =>
 Pick t24 (.bool true) t27 w fun t28 w =>
 If t28
 (R (.returned (.tuple #[(str []), (str []), (.int .i64 30)])) w)
 (Cl P 94 #[t0] w (Pk R) fun t31 w =>
 Ex t31 0 w fun t32 w =>
 Ex t31 1 w fun t33 w =>
 Cl P 94 #[t1] w (Pk R) fun t36 w =>
 Ex t36 0 w fun t37 w =>
 Ex t36 1 w fun t38 w =>
 Cl P 96 #[t33, t38] w (Pk R) fun t42 w =>
 Ex t42 0 w fun t43 w =>
 Ex t42 1 w fun t44 w =>
 Jn2 (fun k1 =>
 Gd t32 true (fun k => k t44 w) w fun t47 w =>
 Gd t32 true (fun k => Bt P .len #[44] 3 #[t47] w k) w fun t48 w =>
 Gd t32 true (fun k => Bn P .gtr 3 true t48 (.int .i64 0) w k) w fun t49 w =>
 Pick t32 t49 (.bool false) w fun t50 w =>
 If t50
 (Bs P 44 1 [(0, (.int .i64 1))] w fun t52 w =>
 Cl P 121 #[t43, t52] w (Pk R) fun t53 w =>
 Cl P 122 #[t38, t44] w (Pk R) fun t56 w =>
 k1 t53 t56 w)
 (k1 t43 t44 w))
 (fun t11 t12 w =>
 Bn P .neq 4 false t32 t37 w fun t60 w =>
 Cl P 97 #[t60, t11] w (Pk R) fun t62 w =>
 Ex t62 0 w fun t63 w =>
 Ex t62 1 w fun t64 w =>
 Cl P 92 #[(.bool false), t12] w (Pk R) fun t67 w =>
 Ex t67 0 w fun t68 w =>
 Ex t67 1 w fun t69 w =>
 Bn P .neq 31 true t64 (.int .i64 0) w fun t71 w =>
 If t71
 (R (.returned (.tuple #[(str []), (str []), t64])) w)
 (R (.returned (.tuple #[t63, t68, (.int .i64 0)])) w)))
theorem e_ref03_Div {t0 t1 : Value} {w : World} {R : Ending → World → Prop} (h : s_ref03_Div Tryz.prog t0 t1 w R) : Calls Tryz.prog 91 #[t0, t1] w R :=
 enter (h := (.sq .z (.sq (.sq .z (.cd (.sq .z .z) .z)) (.sq .z (.sq .z (.sq .z (.jn [11, 12] [45, 46, 47, 48, 49, 50, 51, 52, 53, 54, 55, 56] (.sq .z (.cd (.sq .z .z) .z)) (.sq .z (.sq .z (.sq (.sq .z (.cd (.sq .z .z) .z)) (.sq .z .z))))))))))) (args := [t0, t1]) Tryz.func91 (by kernel_rfl) (by kernel_rfl) (by kernel_rfl) (Eq.mp (by kernel_rfl) h)
theorem n_ref03_Div : Enters Tryz.prog 91 := enters_of Tryz.func91 (by kernel_rfl) rfl
def s_ref03_text (P : Program) (t0 t1 : Value) (w : World) (R : Ending → World → Prop) : Prop :=
 Bt P .len #[44] 3 #[t1] w fun t9 w =>
 Bn P .eql 3 true t9 (.int .i64 0) w fun t10 w =>
 If t10
 (R (.returned (.tuple #[(str [48]), (.bool true)])) w)
 (Jn1 (fun k1 =>
 If t0
 (Bs P 129 1 [(0, (.int .u8 45))] w fun t13 w =>
 Bt P .append #[129, 129] 129 #[(.slice none 0 0), t13] w fun t14 w =>
 k1 t14 w)
 (k1 (.slice none 0 0) w))
 (fun t6 w =>
 Bt P .len #[44] 3 #[t1] w fun t16 w =>
 Bn P .sub 3 true t16 (.int .i64 1) w fun t17 w =>
 Lp2 t6 t17 w (fun t6x1 t7 w k2 =>
 Bn P .geq 3 true t7 (.int .i64 0) w fun t19 w =>
 If t19
 (Ia P 44 t1 t7 w fun t25 w =>
 Ld P 3 t25 w fun t26 w =>
 Bn P .add 3 true (.int .i64 48) t26 w fun t27 w =>
 Cv P 3 5 t27 w fun t28 w =>
 Bs P 129 1 [(0, t28)] w fun t29 w =>
 Bt P .append #[129, 129] 129 #[t6x1, t29] w fun t30 w =>
 Bn P .sub 3 true t7 (.int .i64 1) w fun t21 w =>
 k2 t30 t21 w)
 (Cv P 129 9 t6x1 w fun t32 w =>
 Bt P .len #[44] 3 #[t1] w fun t34 w =>
 Bn P .leq 3 true t34 (.int .i64 200) w fun t35 w =>
 R (.returned (.tuple #[t32, t35])) w))))
theorem e_ref03_text {t0 t1 : Value} {w : World} {R : Ending → World → Prop} (h : s_ref03_text Tryz.prog t0 t1 w R) : Calls Tryz.prog 92 #[t0, t1] w R :=
 enter (h := (.sq .z (.sq (.sq .z (.cd (.sq .z .z) .z)) (.sq .z (.jn [6] [11, 12, 13, 14] (.sq .z (.cd .z .z)) (.sq (.sq .z (.bk (.lp [6, 7] [18, 19, 20, 21, 22, 23, 24, 25, 26, 27, 28, 29, 30] (.sq (.sq .z (.cd .z .z)) (.sq (.bk .z) .z))))) (.sq .z .z))))))) (args := [t0, t1]) Tryz.func92 (by kernel_rfl) (by kernel_rfl) (by kernel_rfl) (Eq.mp (by kernel_rfl) h)
theorem n_ref03_text : Enters Tryz.prog 92 := enters_of Tryz.func92 (by kernel_rfl) rfl
def s_ref04_zeroOr (P : Program) (t0 : Value) (w : World) (R : Ending → World → Prop) : Prop :=
 Bn P .eql 9 true t0 (str [48]) w fun t4 w =>
 If t4
 (R (.returned t0) w)
 (R (.returned (str [49])) w)
theorem e_ref04_zeroOr {t0 : Value} {w : World} {R : Ending → World → Prop} (h : s_ref04_zeroOr Tryz.prog t0 w R) : Calls Tryz.prog 93 #[t0] w R :=
 enter (h := (.sq .z (.sq (.sq .z (.cd (.sq .z .z) .z)) (.sq .z .z)))) (args := [t0]) Tryz.func93 (by kernel_rfl) (by kernel_rfl) (by kernel_rfl) (Eq.mp (by kernel_rfl) h)
theorem n_ref04_zeroOr : Enters Tryz.prog 93 := enters_of Tryz.func93 (by kernel_rfl) rfl
def s_ref03_digits (P : Program) (t0 : Value) (w : World) (R : Ending → World → Prop) : Prop :=
 Ix P 9 t0 (.int .i64 0) w fun t8 w =>
 Bn P .eql 5 true t8 (.int .u8 45) w fun t9 w =>
 Jn1 (fun k1 =>
 If t9
 (Sc P 9 t0 (some (.int .i64 1)) none none w fun t12 w =>
 k1 t12 w)
 (k1 t0 w))
 (fun t0x1 w =>
 Bt P .len #[9] 3 #[t0x1] w fun t14 w =>
 Bn P .sub 3 true t14 (.int .i64 1) w fun t15 w =>
 Lp2 (.slice none 0 0) t15 w (fun t5 t6 w k2 =>
 Bn P .geq 3 true t6 (.int .i64 0) w fun t17 w =>
 Gd t17 true (fun k => k t0x1 w) w fun t19 w =>
 Gd t17 true (fun k => Bn P .neq 9 true t19 (str [48]) w k) w fun t20 w =>
 Pick t17 t20 (.bool false) w fun t21 w =>
 If t21
 (Ix P 9 t0x1 t6 w fun t27 w =>
 Bn P .sub 5 true t27 (.int .u8 48) w fun t28 w =>
 Cv P 5 3 t28 w fun t29 w =>
 Bs P 44 1 [(0, t29)] w fun t30 w =>
 Bt P .append #[44, 44] 44 #[t5, t30] w fun t31 w =>
 Bn P .sub 3 true t6 (.int .i64 1) w fun t23 w =>
 k2 t31 t23 w)
 (R (.returned (.tuple #[t9, t5])) w)))
theorem e_ref03_digits {t0 : Value} {w : World} {R : Ending → World → Prop} (h : s_ref03_digits Tryz.prog t0 w R) : Calls Tryz.prog 94 #[t0] w R :=
 enter (h := (.sq .z (.sq .z (.jn [0] [10, 11, 12] (.sq .z (.cd .z .z)) (.sq .z (.sq (.sq .z (.bk (.lp [5, 6] [16, 17, 18, 19, 20, 21, 22, 23, 24, 25, 26, 27, 28, 29, 30, 31] (.sq (.sq .z (.cd .z .z)) (.sq (.bk .z) .z))))) (.sq .z .z))))))) (args := [t0]) Tryz.func94 (by kernel_rfl) (by kernel_rfl) (by kernel_rfl) (Eq.mp (by kernel_rfl) h)
theorem n_ref03_digits : Enters Tryz.prog 94 := enters_of Tryz.func94 (by kernel_rfl) rfl
def s_ref03_order (P : Program) (t0 t1 : Value) (w : World) (R : Ending → World → Prop) : Prop :=
 Bt P .len #[44] 3 #[t0] w fun t7 w =>
 Bt P .len #[44] 3 #[t1] w fun t9 w =>
 Bn P .neq 3 false t7 t9 w fun t10 w =>
 If t10
 (Bt P .len #[44] 3 #[t0] w fun t12 w =>
 Bt P .len #[44] 3 #[t1] w fun t14 w =>
 Bn P .lss 3 false t12 t14 w fun t15 w =>
 If t15
 (R (.returned (.int .i64 (-1))) w)
 (R (.returned (.int .i64 1)) w))
 (Bt P .len #[44] 3 #[t0] w fun t17 w =>
 Bn P .sub 3 true t17 (.int .i64 1) w fun t18 w =>
 Lp1 t18 w (fun t5 w k1 =>
 Bn P .geq 3 true t5 (.int .i64 0) w fun t20 w =>
 If t20
 (Dv P true (Instr.indexAt 44 t0 t5) w.drew fun t25 =>
 Dv P false (Instr.loadAt 3 t25) w.drew fun t26 =>
 Dv P true (Instr.indexAt 44 t1 t5) w.drew fun t29 =>
 Dv P false (Instr.loadAt 3 t29) w.drew fun t30 =>
 Dv P true (bn .neq 3 false t26 t30) w.drew fun t31 =>
 If t31
 (Dv P true (Instr.indexAt 44 t0 t5) w.drew.drew fun t34 =>
 Dv P false (Instr.loadAt 3 t34) w.drew.drew fun t35 =>
 Dv P true (Instr.indexAt 44 t1 t5) w.drew.drew fun t38 =>
 Dv P false (Instr.loadAt 3 t38) w.drew.drew fun t39 =>
 Dv P true (bn .lss 3 false t35 t39) w.drew.drew fun t40 =>
 If t40
 (R (.returned (.int .i64 (-1))) w.drew.drew)
 (R (.returned (.int .i64 1)) w.drew.drew))
 (Bn P .sub 3 true t5 (.int .i64 1) w.drew fun t22 w =>
 k1 t22 w))
 (R (.returned (.int .i64 0)) w)))
theorem e_ref03_order {t0 t1 : Value} {w : World} {R : Ending → World → Prop} (h : s_ref03_order Tryz.prog t0 t1 w R) : Calls Tryz.prog 95 #[t0, t1] w R :=
 enter (h := (.sq .z (.sq (.sq .z (.cd (.sq (.sq .z (.cd (.sq .z .z) .z)) (.sq .z .z)) .z)) (.sq (.sq .z (.bk (.lp [5] [4, 19, 20, 21, 22, 23, 24, 25, 26, 27, 28, 29, 30, 31, 32, 33, 34, 35, 36, 37, 38, 39, 40] (.sq (.sq .z (.cd .z .z)) (.sq (.bk (.sq (.dr (.pur true 0 (.pur true 1 (.pur true 2 (.pur false 3 (.pur true 4 (.pur true 5 (.pur true 6 (.pur false 7 (.pur true 8 .done)))))))))) (.cd (.sq (.sq (.dr (.pur true 0 (.pur true 1 (.pur true 2 (.pur false 3 (.pur true 4 (.pur true 5 (.pur true 6 (.pur false 7 (.pur true 8 .done)))))))))) (.cd (.sq .z .z) .z)) (.sq .z .z)) .z))) .z))))) (.sq .z .z))))) (args := [t0, t1]) Tryz.func95 (by kernel_rfl) (by kernel_rfl) (by kernel_rfl) (Eq.mp (by kernel_rfl) h)
theorem n_ref03_order : Enters Tryz.prog 95 := enters_of Tryz.func95 (by kernel_rfl) rfl
def s_ref03_divided (P : Program) (t0 t1 : Value) (w : World) (R : Ending → World → Prop) : Prop :=
 Bt P .len #[44] 3 #[t0] w fun t10 w =>
 Ms P 44 t10 t10 w fun t11 w =>
 Bt P .len #[44] 3 #[t0] w fun t13 w =>
 Bn P .sub 3 true t13 (.int .i64 1) w fun t14 w =>
 Lp2 (.slice none 0 0) t14 w (fun t7 t8 w k1 =>
 Bn P .geq 3 true t8 (.int .i64 0) w fun t16 w =>
 If t16
 (Ia P 44 t0 t8 w fun t21 w =>
 Ld P 3 t21 w fun t22 w =>
 Bs P 44 1 [(0, t22)] w fun t23 w =>
 Bt P .append #[44, 44] 44 #[t23, t7] w fun t25 w =>
 Cl P 123 #[t25] w (Pk R) fun t26 w =>
 Lp1 t26 w (fun t7x1 w k2 =>
 Cl P 95 #[t7x1, t1] w (Pk R) fun t29 w =>
 Bn P .geq 3 true t29 (.int .i64 0) w fun t30 w =>
 If t30
 (Cl P 122 #[t7x1, t1] w (Pk R) fun t33 w =>
 Ia P 44 t11 t8 w fun t36 w =>
 Ld P 3 t36 w fun t37 w =>
 Bn P .add 3 true t37 (.int .i64 1) w fun t38 w =>
 Ia P 44 t11 t8 w fun t39 w =>
 Sto P 3 t39 t38 w fun w =>
 k2 t33 w)
 (Bn P .sub 3 true t8 (.int .i64 1) w fun t18 w =>
 k1 t7x1 t18 w)))
 (Cl P 123 #[t11] w (Pk R) fun t41 w =>
 R (.returned (.tuple #[t41, t7])) w))
theorem e_ref03_divided {t0 t1 : Value} {w : World} {R : Ending → World → Prop} (h : s_ref03_divided Tryz.prog t0 t1 w R) : Calls Tryz.prog 96 #[t0, t1] w R :=
 enter (h := (.sq .z (.sq .z (.sq .z (.sq (.sq .z (.bk (.lp [7, 8] [15, 16, 17, 18, 19, 20, 21, 22, 23, 24, 25, 26, 27, 28, 29, 30, 31, 32, 33, 34, 35, 36, 37, 38, 39] (.sq (.sq .z (.cd .z .z)) (.sq (.bk (.sq .z (.bk (.lp [7] [27, 28, 29, 30, 31, 32, 33, 34, 35, 36, 37, 38, 39] (.sq (.sq .z (.cd .z .z)) (.bk (.sq .z .z))))))) .z))))) (.sq .z .z)))))) (args := [t0, t1]) Tryz.func96 (by kernel_rfl) (by kernel_rfl) (by kernel_rfl) (Eq.mp (by kernel_rfl) h)
theorem n_ref03_divided : Enters Tryz.prog 96 := enters_of Tryz.func96 (by kernel_rfl) rfl
def s_ref03_checked (P : Program) (t0 t1 : Value) (w : World) (R : Ending → World → Prop) : Prop :=
 Cl P 92 #[t0, t1] w (Pk R) fun t11 w =>
 Ex t11 0 w fun t12 w =>
 Ex t11 1 w fun t13 w =>
 Un P .not t13 w fun t15 w =>
 If t15
 (R (.returned (.tuple #[(str []), (.int .i64 30)])) w)
 (R (.returned (.tuple #[t12, (.int .i64 0)])) w)
theorem e_ref03_checked {t0 t1 : Value} {w : World} {R : Ending → World → Prop} (h : s_ref03_checked Tryz.prog t0 t1 w R) : Calls Tryz.prog 97 #[t0, t1] w R :=
 enter (h := (.sq .z (.sq .z (.sq (.sq .z (.cd (.sq .z .z) .z)) (.sq .z .z))))) (args := [t0, t1]) Tryz.func97 (by kernel_rfl) (by kernel_rfl) (by kernel_rfl) (Eq.mp (by kernel_rfl) h)
theorem n_ref03_checked : Enters Tryz.prog 97 := enters_of Tryz.func97 (by kernel_rfl) rfl
def s_ref04_cross (P : Program) (t0 t1 : Value) (w : World) (R : Ending → World → Prop) : Prop :=
 Bx P 30 t0 w fun t2 w =>
 Bx P 30 t1 w fun t3 w =>
 Ld P 30 t2 w fun t16 w =>
 Cl P 36 #[t16] w (Pk R) fun t17 w =>
 Ld P 30 t3 w fun t18 w =>
 Cl P 36 #[t18] w (Pk R) fun t19 w =>
 Un P .not t17 w fun t21 w =>
 Gd t21 false (fun k => k t19 w) w fun t23 w =>
 Gd t21 false (fun k => Un P .not t23 w k) w fun t24 w =>
 Pick t21 (.bool true) t24 w fun t25 w =>
 If t25
 (R (.returned (.tuple #[(str []), (str []), (str []), (.bool false)])) w)
 (Fa P 30 t2 0 w fun t27 w =>
 Ld P 9 t27 w fun t28 w =>
 Fa P 30 t3 1 w fun t29 w =>
 Ld P 9 t29 w fun t30 w =>
 Cl P 100 #[t28, t30] w (Pk R) fun t31 w =>
 Ex t31 0 w fun t32 w =>
 Ex t31 1 w fun t33 w =>
 Fa P 30 t3 0 w fun t35 w =>
 Ld P 9 t35 w fun t36 w =>
 Fa P 30 t2 1 w fun t37 w =>
 Ld P 9 t37 w fun t38 w =>
 Cl P 100 #[t36, t38] w (Pk R) fun t39 w =>
 Ex t39 0 w fun t40 w =>
 Ex t39 1 w fun t41 w =>
 Fa P 30 t2 1 w fun t43 w =>
 Ld P 9 t43 w fun t44 w =>
 Fa P 30 t3 1 w fun t45 w =>
 Ld P 9 t45 w fun t46 w =>
 Cl P 100 #[t44, t46] w (Pk R) fun t47 w =>
 Ex t47 0 w fun t48 w =>
 Ex t47 1 w fun t49 w =>
 Bn P .eql 31 true t33 (.int .i64 0) w fun t54 w =>
 Gd t54 true (fun k => k t41 w) w fun t56 w =>
 Gd t54 true (fun k => Bn P .eql 31 true t56 (.int .i64 0) w k) w fun t57 w =>
 Pick t54 t57 (.bool false) w fun t58 w =>
 Gd t58 true (fun k => k t49 w) w fun t60 w =>
 Gd t58 true (fun k => Bn P .eql 31 true t60 (.int .i64 0) w k) w fun t61 w =>
 Pick t58 t61 (.bool false) w fun t62 w =>
 R (.returned (.tuple #[t32, t40, t48, t62])) w)
theorem e_ref04_cross {t0 t1 : Value} {w : World} {R : Ending → World → Prop} (h : s_ref04_cross Tryz.prog t0 t1 w R) : Calls Tryz.prog 98 #[t0, t1] w R :=
 enter (h := (.sq .z (.sq .z (.sq .z (.sq (.sq .z (.cd (.sq .z .z) .z)) (.sq .z (.sq .z (.sq .z (.sq .z .z))))))))) (args := [t0, t1]) Tryz.func98 (by kernel_rfl) (by kernel_rfl) (by kernel_rfl) (Eq.mp (by kernel_rfl) h)
theorem n_ref04_cross : Enters Tryz.prog 98 := enters_of Tryz.func98 (by kernel_rfl) rfl
def s_ref03_Add (P : Program) (t0 t1 : Value) (w : World) (R : Ending → World → Prop) : Prop :=
 Cl P 67 #[t0] w (Pk R) fun t11 w =>
 Un P .not t11 w fun t12 w =>
 Gd t12 false (fun k => k t1 w) w fun t14 w =>
 Gd t12 false (fun k => Cl P 67 #[t14] w (Pk R) k) w fun t15 w =>
 Gd t12 false (fun k => Un P .not t15 w k) w fun t16 w =>
 Pick t12 (.bool true) t16 w fun t17 w =>
 If t17
 (R (.returned (.tuple #[(str []), (.int .i64 30)])) w)
 (Cl P 94 #[t0] w (Pk R) fun t20 w =>
 Ex t20 0 w fun t21 w =>
 Ex t20 1 w fun t22 w =>
 Cl P 94 #[t1] w (Pk R) fun t25 w =>
 Ex t25 0 w fun t26 w =>
 Ex t25 1 w fun t27 w =>
 Cl P 120 #[t21, t22, t26, t27] w (Pk R) fun t32 w =>
 Ex t32 0 w fun t33 w =>
 Ex t32 1 w fun t34 w =>
 R (.returned (.tuple #[t33, t34])) w)
theorem e_ref03_Add {t0 t1 : Value} {w : World} {R : Ending → World → Prop} (h : s_ref03_Add Tryz.prog t0 t1 w R) : Calls Tryz.prog 99 #[t0, t1] w R :=
 enter (h := (.sq .z (.sq (.sq .z (.cd (.sq .z .z) .z)) (.sq .z (.sq .z (.sq .z .z)))))) (args := [t0, t1]) Tryz.func99 (by kernel_rfl) (by kernel_rfl) (by kernel_rfl) (Eq.mp (by kernel_rfl) h)
theorem n_ref03_Add : Enters Tryz.prog 99 := enters_of Tryz.func99 (by kernel_rfl) rfl
def s_ref03_Mul (P : Program) (t0 t1 : Value) (w : World) (R : Ending → World → Prop) : Prop :=
 Cl P 67 #[t0] w (Pk R) fun t11 w =>
 Un P .not t11 w fun t12 w =>
 Gd t12 false (fun k => k t1 w) w fun t14 w =>
 Gd t12 false (fun k => Cl P 67 #[t14] w (Pk R) k) w fun t15 w =>
 Gd t12 false (fun k => Un P .not t15 w k) w fun t16 w =>
 Pick t12 (.bool true) t16 w fun t17 w =>
 If t17
 (R (.returned (.tuple #[(str []), (.int .i64 30)])) w)
 (Cl P 94 #[t0] w (Pk R) fun t20 w =>
 Ex t20 0 w fun t21 w =>
 Ex t20 1 w fun t22 w =>
 Cl P 94 #[t1] w (Pk R) fun t25 w =>
 Ex t25 0 w fun t26 w =>
 Ex t25 1 w fun t27 w =>
 Bn P .neq 4 false t21 t26 w fun t30 w =>
 Cl P 124 #[t22, t27] w (Pk R) fun t33 w =>
 Cl P 97 #[t30, t33] w (Pk R) fun t34 w =>
 Ex t34 0 w fun t35 w =>
 Ex t34 1 w fun t36 w =>
 R (.returned (.tuple #[t35, t36])) w)
theorem e_ref03_Mul {t0 t1 : Value} {w : World} {R : Ending → World → Prop} (h : s_ref03_Mul Tryz.prog t0 t1 w R) : Calls Tryz.prog 100 #[t0, t1] w R :=
 enter (h := (.sq .z (.sq (.sq .z (.cd (.sq .z .z) .z)) (.sq .z (.sq .z (.sq .z .z)))))) (args := [t0, t1]) Tryz.func100 (by kernel_rfl) (by kernel_rfl) (by kernel_rfl) (Eq.mp (by kernel_rfl) h)
theorem n_ref03_Mul : Enters Tryz.prog 100 := enters_of Tryz.func100 (by kernel_rfl) rfl
def s_integer_parse (P : Program) (t0 : Value) (w : World) (R : Ending → World → Prop) : Prop :=
 Al P 96 w fun t2 w =>
 Cl P 118 #[t0, (str [45])] w (Pk R) fun t9 w =>
 Bt P .len #[9] 3 #[t9] w fun t11 w =>
 Bt P .len #[9] 3 #[t0] w fun t13 w =>
 Bn P .lss 3 false t11 t13 w fun t14 w =>
 Bd P 96 [(0, t14)] w fun t15 w =>
 Al P 96 w fun t4 w =>
 Sto P 96 t4 t15 w fun w =>
 Lp1 t9 w (fun t3 w k1 =>
 Bt P .len #[9] 3 #[t3] w fun t17 w =>
 Bn P .gtr 3 true t17 (.int .i64 0) w fun t18 w =>
 If t18
 (Bt P .len #[9] 3 #[t3] w fun t20 w =>
 Bn P .sub 3 true t20 (.int .i64 4) w fun t21 w =>
 Bt P .max #[3, 3] 3 #[(.int .i64 0), t21] w fun t22 w =>
 Sc P 9 t3 (some t22) none none w fun t26 w =>
 Cl P 125 #[t26] w (Pk R) fun t27 w =>
 Ex t27 0 w fun t28 w =>
 Ex t27 1 w fun t29 w =>
 Fa P 96 t4 1 w fun t30 w =>
 Ld P 94 t30 w fun t31 w =>
 Bs P 94 1 [(0, t28)] w fun t33 w =>
 Bt P .append #[94, 94] 94 #[t31, t33] w fun t34 w =>
 Fa P 96 t4 1 w fun t35 w =>
 Sto P 94 t35 t34 w fun w =>
 Sc P 9 t3 none (some t22) none w fun t38 w =>
 k1 t38 w)
 (Fa P 96 t4 1 w fun t39 w =>
 Ld P 94 t39 w fun t40 w =>
 Cl P 103 #[t40] w (Pk R) fun t41 w =>
 Fa P 96 t4 1 w fun t42 w =>
 Sto P 94 t42 t41 w fun w =>
 Ld P 96 t4 w fun t43 w =>
 Sto P 96 t2 t43 w fun w =>
 Rc P 96 t2 w fun r0 =>
 R (.returned r0) w))
theorem e_integer_parse {t0 : Value} {w : World} {R : Ending → World → Prop} (h : s_integer_parse Tryz.prog t0 w R) : Calls Tryz.prog 101 #[t0] w R :=
 enter (h := (.sq .z (.sq .z (.sq .z (.sq (.bk (.lp [3] [5, 6, 7, 16, 17, 18, 19, 20, 21, 22, 23, 24, 25, 26, 27, 28, 29, 30, 31, 32, 33, 34, 35, 36, 37, 38] (.sq (.sq .z (.cd .z .z)) (.bk (.sq .z (.sq .z (.sq .z .z))))))) (.sq .z (.sq .z .z))))))) (args := [t0]) Tryz.func101 (by kernel_rfl) (by kernel_rfl) (by kernel_rfl) (Eq.mp (by kernel_rfl) h)
theorem n_integer_parse : Enters Tryz.prog 101 := enters_of Tryz.func101 (by kernel_rfl) rfl
def s_slices_Backward_integer_number_int (P : Program) (t0 : Value) (w : World) (R : Ending → World → Prop) : Prop :=
 Bx P 94 t0 w fun t1 w =>
 R (.returned (.func (.func 126) #[] #[t1])) w
theorem e_slices_Backward_integer_number_int {t0 : Value} {w : World} {R : Ending → World → Prop} (h : s_slices_Backward_integer_number_int Tryz.prog t0 w R) : Calls Tryz.prog 102 #[t0] w R :=
 enter (h := (.sq .z (.sq .z .z))) (args := [t0]) Tryz.func102 (by kernel_rfl) (by kernel_rfl) (by kernel_rfl) (Eq.mp (by kernel_rfl) h)
theorem n_slices_Backward_integer_number_int : Enters Tryz.prog 102 := enters_of Tryz.func102 (by kernel_rfl) rfl
def s_integer_number_trimmed (P : Program) (t0 : Value) (w : World) (R : Ending → World → Prop) : Prop :=
 Lp1 t0 w (fun t0x1 w k1 =>
 Bt P .len #[94] 3 #[t0x1] w fun t4 w =>
 Bn P .gtr 3 true t4 (.int .i64 0) w fun t5 w =>
 Gd t5 true (fun k => k t0x1 w) w fun t7 w =>
 Gd t5 true (fun k => k t0x1 w) w fun t8 w =>
 Gd t5 true (fun k => Bt P .len #[94] 3 #[t8] w k) w fun t9 w =>
 Gd t5 true (fun k => Bn P .sub 3 true t9 (.int .i64 1) w k) w fun t10 w =>
 Gd t5 true (fun k => Ia P 94 t7 t10 w k) w fun t11 w =>
 Gd t5 true (fun k => Ld P 3 t11 w k) w fun t12 w =>
 Gd t5 true (fun k => Bn P .eql 3 true t12 (.int .i64 0) w k) w fun t13 w =>
 Pick t5 t13 (.bool false) w fun t14 w =>
 If t14
 (Bt P .len #[94] 3 #[t0x1] w fun t17 w =>
 Bn P .sub 3 true t17 (.int .i64 1) w fun t18 w =>
 Sc P 94 t0x1 none (some t18) none w fun t19 w =>
 k1 t19 w)
 (R (.returned t0x1) w))
theorem e_integer_number_trimmed {t0 : Value} {w : World} {R : Ending → World → Prop} (h : s_integer_number_trimmed Tryz.prog t0 w R) : Calls Tryz.prog 103 #[t0] w R :=
 enter (h := (.sq .z (.sq (.bk (.lp [0] [3, 4, 5, 6, 7, 8, 9, 10, 11, 12, 13, 14, 15, 16, 17, 18, 19] (.sq (.sq .z (.cd .z .z)) (.bk .z)))) (.sq .z .z)))) (args := [t0]) Tryz.func103 (by kernel_rfl) (by kernel_rfl) (by kernel_rfl) (Eq.mp (by kernel_rfl) h)
theorem n_integer_number_trimmed : Enters Tryz.prog 103 := enters_of Tryz.func103 (by kernel_rfl) rfl
def s_integer_number_by (P : Program) (t0 t1 : Value) (w : World) (R : Ending → World → Prop) : Prop :=
 Bx P 94 t0 w fun t2 w =>
 Bx P 3 t1 w fun t3 w =>
 Ld P 94 t2 w fun t5 w =>
 Bt P .len #[94] 3 #[t5] w fun t6 w =>
 Cl P 107 #[t6, (.int .i64 0), (.func (.func 127) #[] #[t2, t3])] w (Pk R) fun t8 w =>
 Cl P 103 #[t8] w (Pk R) fun t9 w =>
 R (.returned t9) w
theorem e_integer_number_by {t0 t1 : Value} {w : World} {R : Ending → World → Prop} (h : s_integer_number_by Tryz.prog t0 t1 w R) : Calls Tryz.prog 104 #[t0, t1] w R :=
 enter (h := (.sq .z (.sq .z .z))) (args := [t0, t1]) Tryz.func104 (by kernel_rfl) (by kernel_rfl) (by kernel_rfl) (Eq.mp (by kernel_rfl) h)
theorem n_integer_number_by : Enters Tryz.prog 104 := enters_of Tryz.func104 (by kernel_rfl) rfl
def s_integer_number_over_1 (P : Program) (t0 t1 t2 : Value) (w : World) (R : Ending → World → Prop) : Prop :=
 Dv P false (Instr.loadAt 123 t1) w.drew fun t5 =>
 Dv P true (bn .add 3 true t0 (.int .i64 1)) w.drew fun t7 =>
 Dv P false (Instr.loadAt 94 t2) w.drew fun t9 =>
 Cw P t5 #[t7] w.drew (Pk R) fun t8 w =>
 Ke P (Instr.loadAt 94 t2) t9 w <|
 Cl P 82 #[t8, t9] w (Pk R) fun t10 w =>
 Dv P true (bn .gtr 3 true t10 (.int .i64 0)) w fun t11 =>
 R (.returned t11) w
theorem e_integer_number_over_1 {t0 t1 t2 : Value} {w : World} {R : Ending → World → Prop} (h : s_integer_number_over_1 Tryz.prog t0 t1 t2 w R) : Calls Tryz.prog 105 #[t0, t1, t2] w R :=
 enter (h := (.sq .z (.sq (.dr (.pur false 0 (.pur true 1 (.pur true 2 (.pur false 4 (.eff 3 [4] (.eff 5 [] (.pur true 6 (.pur true 7 .done))))))))) .z))) (args := [t0, t1, t2]) Tryz.func105 (by kernel_rfl) (by kernel_rfl) (by kernel_rfl) (Eq.mp (by kernel_rfl) h)
theorem n_integer_number_over_1 : Enters Tryz.prog 105 := enters_of Tryz.func105 (by kernel_rfl) rfl
def s_sort_Search (P : Program) (t0 t1 : Value) (w : World) (R : Ending → World → Prop) : Prop :=
 Lp2 (.int .i64 0) t0 w (fun t5 t6 w k1 =>
 Bn P .lss 3 false t5 t6 w fun t11 w =>
 If t11
 (Bn P .add 3 false t5 t6 w fun t14 w =>
 Cv P 3 142 t14 w fun t15 w =>
 Bn P .shr 142 true t15 (.int .u64 1) w fun t16 w =>
 Cv P 142 3 t16 w fun t17 w =>
 Cw P t1 #[t17] w (Pk R) fun t20 w =>
 Un P .not t20 w fun t21 w =>
 If t21
 (Bn P .add 3 true t17 (.int .i64 1) w fun t23 w =>
 k1 t23 t6 w)
 (k1 t5 t17 w))
 (R (.returned t5) w))
theorem e_sort_Search {t0 t1 : Value} {w : World} {R : Ending → World → Prop} (h : s_sort_Search Tryz.prog t0 t1 w R) : Calls Tryz.prog 106 #[t0, t1] w R :=
 enter (h := (.sq .z (.sq .z (.sq (.bk (.lp [5, 6] [7, 9, 10, 11, 12, 13, 14, 15, 16, 17, 18, 19, 20, 21, 22, 23, 24] (.sq (.sq .z (.cd .z .z)) (.bk (.sq .z (.sq .z (.cd .z .z))))))) (.sq .z .z))))) (args := [t0, t1]) Tryz.func106 (by kernel_rfl) (by kernel_rfl) (by kernel_rfl) (Eq.mp (by kernel_rfl) h)
theorem n_sort_Search : Enters Tryz.prog 106 := enters_of Tryz.func106 (by kernel_rfl) rfl
def s_integer_fold_integer_number (P : Program) (t0 t1 t2 : Value) (w : World) (R : Ending → World → Prop) : Prop :=
 Bn P .add 3 true t0 (.int .i64 1) w fun t11 w =>
 Ms P 94 (.int .i64 0) t11 w fun t12 w =>
 Lp3 t1 t12 (.int .i64 0) w (fun t1x1 t7 t8 w k1 =>
 Bn P .lss 3 false t8 t0 w fun t15 w =>
 Gd t15 false (fun k => k t1x1 w) w fun t17 w =>
 Gd t15 false (fun k => Bn P .neq 3 true t17 (.int .i64 0) w k) w fun t18 w =>
 Pick t15 (.bool true) t18 w fun t19 w =>
 If t19
 (Cw P t2 #[t8] w (Pk R) fun t24 w =>
 Bn P .add 3 false t24 t1x1 w fun t26 w =>
 Bn P .lss 3 true t26 (.int .i64 0) w fun t28 w =>
 If t28
 (Bn P .add 3 true t26 (.int .i64 10000) w fun t30 w =>
 Bs P 94 1 [(0, t30)] w fun t39 w =>
 Bt P .append #[94, 94] 94 #[t7, t39] w fun t40 w =>
 Bn P .add 3 true t8 (.int .i64 1) w fun t21 w =>
 k1 (.int .i64 (-1)) t40 t21 w)
 (Bn P .geq 3 true t26 (.int .i64 10000) w fun t32 w =>
 If t32
 (Bn P .quo 3 true t26 (.int .i64 10000) w fun t34 w =>
 Bn P .rem 3 true t26 (.int .i64 10000) w fun t36 w =>
 Bs P 94 1 [(0, t36)] w fun t39x1 w =>
 Bt P .append #[94, 94] 94 #[t7, t39x1] w fun t40x1 w =>
 Bn P .add 3 true t8 (.int .i64 1) w fun t21x1 w =>
 k1 t34 t40x1 t21x1 w)
 (Bs P 94 1 [(0, t26)] w fun t39x2 w =>
 Bt P .append #[94, 94] 94 #[t7, t39x2] w fun t40x2 w =>
 Bn P .add 3 true t8 (.int .i64 1) w fun t21x2 w =>
 k1 (.int .i64 0) t40x2 t21x2 w)))
 (R (.returned t7) w))
theorem e_integer_fold_integer_number {t0 t1 t2 : Value} {w : World} {R : Ending → World → Prop} (h : s_integer_fold_integer_number Tryz.prog t0 t1 t2 w R) : Calls Tryz.prog 107 #[t0, t1, t2] w R :=
 enter (h := (.sq .z (.sq .z (.sq (.sq .z (.bk (.lp [1, 7, 8] [9, 13, 14, 15, 16, 17, 18, 19, 20, 21, 22, 23, 24, 25, 26, 27, 28, 29, 30, 31, 32, 33, 34, 35, 36, 37, 38, 39, 40] (.sq (.sq .z (.cd .z .z)) (.sq (.bk (.sq .z (.sq .z (.sq (.sq .z (.cd (.sq .z .z) (.sq .z (.cd (.sq .z .z) .z)))) .z)))) .z))))) (.sq .z .z))))) (args := [t0, t1, t2]) Tryz.func107 (by kernel_rfl) (by kernel_rfl) (by kernel_rfl) (Eq.mp (by kernel_rfl) h)
theorem n_integer_fold_integer_number : Enters Tryz.prog 107 := enters_of Tryz.func107 (by kernel_rfl) rfl
def s_integer_number_plus_1 (P : Program) (t0 t1 t2 : Value) (w : World) (R : Ending → World → Prop) : Prop :=
 Dv P false (Instr.loadAt 94 t1) w.drew fun t5 =>
 Dv P false (Instr.loadAt 94 t2) w.drew fun t8 =>
 Cl P 109 #[t5, t0] w.drew (Pk R) fun t7 w =>
 Ke P (Instr.loadAt 94 t2) t8 w <|
 Cl P 109 #[t8, t0] w (Pk R) fun t10 w =>
 Dv P true (bn .add 3 false t7 t10) w fun t11 =>
 R (.returned t11) w
theorem e_integer_number_plus_1 {t0 t1 t2 : Value} {w : World} {R : Ending → World → Prop} (h : s_integer_number_plus_1 Tryz.prog t0 t1 t2 w R) : Calls Tryz.prog 108 #[t0, t1, t2] w R :=
 enter (h := (.sq .z (.sq (.dr (.pur false 0 (.pur true 1 (.pur false 3 (.pur true 4 (.eff 2 [3] (.eff 5 [] (.pur true 6 (.pur true 7 .done))))))))) .z))) (args := [t0, t1, t2]) Tryz.func108 (by kernel_rfl) (by kernel_rfl) (by kernel_rfl) (Eq.mp (by kernel_rfl) h)
theorem n_integer_number_plus_1 : Enters Tryz.prog 108 := enters_of Tryz.func108 (by kernel_rfl) rfl
def s_integer_number_at (P : Program) (t0 t1 : Value) (w : World) (R : Ending → World → Prop) : Prop :=
 Bt P .len #[94] 3 #[t0] w fun t7 w =>
 Bn P .lss 3 false t1 t7 w fun t8 w =>
 If t8
 (Ia P 94 t0 t1 w fun t11 w =>
 Ld P 3 t11 w fun t12 w =>
 R (.returned t12) w)
 (R (.returned (.int .i64 0)) w)
theorem e_integer_number_at {t0 t1 : Value} {w : World} {R : Ending → World → Prop} (h : s_integer_number_at Tryz.prog t0 t1 w R) : Calls Tryz.prog 109 #[t0, t1] w R :=
 enter (h := (.sq .z (.sq (.sq .z (.cd (.sq .z .z) .z)) (.sq .z .z)))) (args := [t0, t1]) Tryz.func109 (by kernel_rfl) (by kernel_rfl) (by kernel_rfl) (Eq.mp (by kernel_rfl) h)
theorem n_integer_number_at : Enters Tryz.prog 109 := enters_of Tryz.func109 (by kernel_rfl) rfl
def s_integer_number_minus_1 (P : Program) (t0 t1 t2 : Value) (w : World) (R : Ending → World → Prop) : Prop :=
 Dv P false (Instr.loadAt 94 t1) w.drew fun t5 =>
 Dv P false (Instr.loadAt 94 t2) w.drew fun t8 =>
 Cl P 109 #[t5, t0] w.drew (Pk R) fun t7 w =>
 Ke P (Instr.loadAt 94 t2) t8 w <|
 Cl P 109 #[t8, t0] w (Pk R) fun t10 w =>
 Dv P true (bn .sub 3 false t7 t10) w fun t11 =>
 R (.returned t11) w
theorem e_integer_number_minus_1 {t0 t1 t2 : Value} {w : World} {R : Ending → World → Prop} (h : s_integer_number_minus_1 Tryz.prog t0 t1 t2 w R) : Calls Tryz.prog 110 #[t0, t1, t2] w R :=
 enter (h := (.sq .z (.sq (.dr (.pur false 0 (.pur true 1 (.pur false 3 (.pur true 4 (.eff 2 [3] (.eff 5 [] (.pur true 6 (.pur true 7 .done))))))))) .z))) (args := [t0, t1, t2]) Tryz.func110 (by kernel_rfl) (by kernel_rfl) (by kernel_rfl) (Eq.mp (by kernel_rfl) h)
theorem n_integer_number_minus_1 : Enters Tryz.prog 110 := enters_of Tryz.func110 (by kernel_rfl) rfl
theorem n_strconv_Itoa : Enters Tryz.prog 111 := enters_of Tryz.func111 (by kernel_rfl) rfl
theorem n_strings_Repeat : Enters Tryz.prog 112 := enters_of Tryz.func112 (by kernel_rfl) rfl
def s_strings_Builder_WriteString (P : Program) (t0 t1 : Value) (w : World) (R : Ending → World → Prop) : Prop :=
 Cl P 133 #[t0] w (Pk R) fun t7 w =>
 Nc t0 w fun t10 w =>
 Fa P 131 t10 1 w fun t11 w =>
 Ld P 129 t11 w fun t12 w =>
 Bt P .append #[129, 9] 129 #[t12, t1] w fun t14 w =>
 Nc t0 w fun t15 w =>
 Fa P 131 t15 1 w fun t16 w =>
 Sto P 129 t16 t14 w fun w =>
 Bt P .len #[9] 3 #[t1] w fun t18 w =>
 R (.returned (.tuple #[t18, .nilIface])) w
theorem e_strings_Builder_WriteString {t0 t1 : Value} {w : World} {R : Ending → World → Prop} (h : s_strings_Builder_WriteString Tryz.prog t0 t1 w R) : Calls Tryz.prog 113 #[t0, t1] w R :=
 enter (h := (.sq .z (.sq .z (.sq .z (.sq .z .z))))) (args := [t0, t1]) Tryz.func113 (by kernel_rfl) (by kernel_rfl) (by kernel_rfl) (Eq.mp (by kernel_rfl) h)
theorem n_strings_Builder_WriteString : Enters Tryz.prog 113 := enters_of Tryz.func113 (by kernel_rfl) rfl
theorem n_strings_Builder_String : Enters Tryz.prog 114 := enters_of Tryz.func114 (by kernel_rfl) rfl
def s_cmp_Compare_int (P : Program) (t0 t1 : Value) (w : World) (R : Ending → World → Prop) : Prop :=
 Cl P 134 #[t0] w (Pk R) fun t8 w =>
 Cl P 134 #[t1] w (Pk R) fun t10 w =>
 If t8
 (If t10
 (R (.returned (.int .i64 0)) w)
 (R (.returned (.int .i64 (-1))) w))
 (If t10
 (R (.returned (.int .i64 1)) w)
 (Bn P .lss 3 false t0 t1 w fun t16 w =>
 If t16
 (R (.returned (.int .i64 (-1))) w)
 (Bn P .gtr 3 false t0 t1 w fun t19 w =>
 If t19
 (R (.returned (.int .i64 1)) w)
 (R (.returned (.int .i64 0)) w))))
theorem e_cmp_Compare_int {t0 t1 : Value} {w : World} {R : Ending → World → Prop} (h : s_cmp_Compare_int Tryz.prog t0 t1 w R) : Calls Tryz.prog 115 #[t0, t1] w R :=
 enter (h := (.sq .z (.sq .z (.sq .z (.sq (.sq .z (.cd (.sq (.sq .z (.cd (.sq .z .z) .z)) (.sq .z .z)) .z)) (.sq (.sq .z (.cd (.sq .z .z) .z)) (.sq (.sq .z (.cd (.sq .z .z) .z)) (.sq (.sq .z (.cd (.sq .z .z) .z)) (.sq .z .z))))))))) (args := [t0, t1]) Tryz.func115 (by kernel_rfl) (by kernel_rfl) (by kernel_rfl) (Eq.mp (by kernel_rfl) h)
theorem n_cmp_Compare_int : Enters Tryz.prog 115 := enters_of Tryz.func115 (by kernel_rfl) rfl
def s_integer_number_times (P : Program) (t0 t1 : Value) (w : World) (R : Ending → World → Prop) : Prop :=
 Bx P 94 t0 w fun t2 w =>
 Al P 94 w fun t5 w =>
 Cl P 102 #[t1] w (Pk R) fun t9 w =>
 Rf2 P t9 w (fun t10 t11 w next lv =>
 Jn0 (fun k1 =>
 Ld P 94 t5 w fun t12 w =>
 Bt P .len #[94] 3 #[t12] w fun t13 w =>
 Bn P .gtr 3 true t13 (.int .i64 0) w fun t14 w =>
 If t14
 (Bs P 94 1 [(0, (.int .i64 0))] w fun t15 w =>
 Ld P 94 t5 w fun t16 w =>
 Bt P .append #[94, 94] 94 #[t15, t16] w fun t17 w =>
 Sto P 94 t5 t17 w fun w =>
 k1 w)
 (k1 w))
 (fun w =>
 Dv P false (Instr.loadAt 94 t5) w.drew fun t18 =>
 Dv P false (Instr.loadAt 94 t2) w.drew fun t19 =>
 Cl P 104 #[t19, t11] w.drew (fun _ _ => False) fun t21 w =>
 Ke P (Instr.loadAt 94 t5) t18 w <|
 Cl P 78 #[t18, t21] w (fun _ _ => False) fun t22 w =>
 Sto P 94 t5 t22 w fun w =>
 next w))
 (fun D1 w =>
 Ld P 94 t5 w fun t23 w =>
 Tk P D1 w fun w =>
 R (.returned t23) w)
 (fun D1 w =>
 Tk P D1 w fun w =>
 R (.returned (.slice none 0 0)) w) []
theorem e_integer_number_times {t0 t1 : Value} {w : World} {R : Ending → World → Prop} (h : s_integer_number_times Tryz.prog t0 t1 w R) : Calls Tryz.prog 116 #[t0, t1] w R :=
 enter (h := (.sq .z (.sq .z (.sq (.sq .z (.bk (.rf (.bk (.jn [] [12, 13, 14, 15, 16, 17] (.sq .z (.cd .z .z)) (.dr (.pur false 0 (.pur false 1 (.pur true 2 (.eff 3 [0] (.eff 4 [] (.eff 5 [] .done))))))))) []))) (.sq .z .z))))) (args := [t0, t1]) Tryz.func116 (by kernel_rfl) (by kernel_rfl) (by kernel_rfl) (Eq.mp (by kernel_rfl) h)
theorem n_integer_number_times : Enters Tryz.prog 116 := enters_of Tryz.func116 (by kernel_rfl) rfl
def s_rational_work_quotient_1 (P : Program) (t0 t1 : Value) (w : World) (R : Ending → World → Prop) : Prop :=
 Cl P 51 #[t0, t1] w (Pk R) fun t12 w =>
 Ex t12 0 w fun t13 w =>
 Ex t12 1 w fun t14 w =>
 Ex t12 2 w fun t15 w =>
 R (.returned (.tuple #[t13, t15])) w
theorem e_rational_work_quotient_1 {t0 t1 : Value} {w : World} {R : Ending → World → Prop} (h : s_rational_work_quotient_1 Tryz.prog t0 t1 w R) : Calls Tryz.prog 117 #[t0, t1] w R :=
 enter (h := (.sq .z (.sq .z (.sq .z .z)))) (args := [t0, t1]) Tryz.func117 (by kernel_rfl) (by kernel_rfl) (by kernel_rfl) (Eq.mp (by kernel_rfl) h)
theorem n_rational_work_quotient_1 : Enters Tryz.prog 117 := enters_of Tryz.func117 (by kernel_rfl) rfl
theorem n_strings_TrimPrefix : Enters Tryz.prog 118 := enters_of Tryz.func118 (by kernel_rfl) rfl
def s_strings_Trim (P : Program) (t0 t1 : Value) (w : World) (R : Ending → World → Prop) : Prop :=
 Bn P .eql 9 true t0 (str []) w fun t8 w =>
 Gd t8 false (fun k => k t1 w) w fun t10 w =>
 Gd t8 false (fun k => Bn P .eql 9 true t10 (str []) w k) w fun t11 w =>
 Pick t8 (.bool true) t11 w fun t12 w =>
 If t12
 (R (.returned t0) w)
 (Bt P .len #[9] 3 #[t1] w fun t15 w =>
 Bn P .eql 3 true t15 (.int .i64 1) w fun t16 w =>
 Gd t16 true (fun k => k t1 w) w fun t18 w =>
 Gd t16 true (fun k => Ix P 9 t18 (.int .i64 0) w k) w fun t19 w =>
 Gd t16 true (fun k => Bn P .lss 5 true t19 (.int .u8 128) w k) w fun t20 w =>
 Pick t16 t20 (.bool false) w fun t21 w =>
 If t21
 (Dv P true (Instr.index 9 t1 (.int .i64 0)) w.drew fun t24 =>
 Dv P true (Instr.index 9 t1 (.int .i64 0)) w.drew fun t27 =>
 Cl P 137 #[t0, t24] w.drew (Pk R) fun t25 w =>
 Cl P 136 #[t25, t27] w (Pk R) fun t28 w =>
 R (.returned t28) w)
 (Cl P 138 #[t1] w (Pk R) fun t31 w =>
 Ex t31 0 w fun t32 w =>
 Ex t31 1 w fun t33 w =>
 Al P 151 w fun t5 w =>
 Sto P 151 t5 t32 w fun w =>
 If t33
 (Cl P 140 #[t0, t5] w (Pk R) fun t36 w =>
 Cl P 139 #[t36, t5] w (Pk R) fun t37 w =>
 R (.returned t37) w)
 (Cl P 142 #[t0, t1] w (Pk R) fun t40 w =>
 Cl P 141 #[t40, t1] w (Pk R) fun t42 w =>
 R (.returned t42) w)))
theorem e_strings_Trim {t0 t1 : Value} {w : World} {R : Ending → World → Prop} (h : s_strings_Trim Tryz.prog t0 t1 w R) : Calls Tryz.prog 119 #[t0, t1] w R :=
 enter (h := (.sq .z (.sq (.sq .z (.cd (.sq .z .z) .z)) (.sq (.sq .z (.cd (.sq (.dr (.pur true 0 (.pur true 1 (.pur true 2 (.pur true 4 (.pur true 5 (.eff 3 [] (.eff 6 [] (.pur true 7 .done))))))))) .z) .z)) (.sq (.sq .z (.sq .z (.cd (.sq .z .z) .z))) (.sq .z .z)))))) (args := [t0, t1]) Tryz.func119 (by kernel_rfl) (by kernel_rfl) (by kernel_rfl) (Eq.mp (by kernel_rfl) h)
theorem n_strings_Trim : Enters Tryz.prog 119 := enters_of Tryz.func119 (by kernel_rfl) rfl
def s_ref03_sum (P : Program) (t0 t1 t2 t3 : Value) (w : World) (R : Ending → World → Prop) : Prop :=
 Jn2 (fun k1 =>
 Bn P .eql 4 false t0 t2 w fun t15 w =>
 If t15
 (Cl P 121 #[t1, t3] w (Pk R) fun t18 w =>
 k1 t0 t18 w)
 (Cl P 95 #[t1, t3] w (Pk R) fun t21 w =>
 Bn P .geq 3 true t21 (.int .i64 0) w fun t22 w =>
 If t22
 (Cl P 122 #[t1, t3] w (Pk R) fun t25 w =>
 k1 t0 t25 w)
 (Cl P 122 #[t3, t1] w (Pk R) fun t29 w =>
 k1 t2 t29 w)))
 (fun t10 t11 w =>
 Cl P 97 #[t10, t11] w (Pk R) fun t32 w =>
 Ex t32 0 w fun t33 w =>
 Ex t32 1 w fun t34 w =>
 R (.returned (.tuple #[t33, t34])) w)
theorem e_ref03_sum {t0 t1 t2 t3 : Value} {w : World} {R : Ending → World → Prop} (h : s_ref03_sum Tryz.prog t0 t1 t2 t3 w R) : Calls Tryz.prog 120 #[t0, t1, t2, t3] w R :=
 enter (h := (.sq .z (.sq .z (.sq .z (.jn [10, 11] [13, 14, 15, 16, 17, 18, 19, 20, 21, 22, 23, 24, 25, 26, 27, 28, 29] (.sq .z (.cd .z (.sq .z (.cd .z (.sq .z .z))))) (.sq .z .z)))))) (args := [t0, t1, t2, t3]) Tryz.func120 (by kernel_rfl) (by kernel_rfl) (by kernel_rfl) (Eq.mp (by kernel_rfl) h)
theorem n_ref03_sum : Enters Tryz.prog 120 := enters_of Tryz.func120 (by kernel_rfl) rfl
def s_ref03_plus (P : Program) (t0 t1 : Value) (w : World) (R : Ending → World → Prop) : Prop :=
 Lp3 (.slice none 0 0) (.int .i64 0) (.int .i64 0) w (fun t5 t6 t7 w k1 =>
 Bt P .len #[44] 3 #[t0] w fun t11 w =>
 Bn P .lss 3 false t7 t11 w fun t12 w =>
 Gd t12 false (fun k => k t7 w) w fun t14 w =>
 Gd t12 false (fun k => k t1 w) w fun t15 w =>
 Gd t12 false (fun k => Bt P .len #[44] 3 #[t15] w k) w fun t16 w =>
 Gd t12 false (fun k => Bn P .lss 3 false t14 t16 w k) w fun t17 w =>
 Pick t12 (.bool true) t17 w fun t18 w =>
 Gd t18 false (fun k => k t6 w) w fun t20 w =>
 Gd t18 false (fun k => Bn P .gtr 3 true t20 (.int .i64 0) w k) w fun t21 w =>
 Pick t18 (.bool true) t21 w fun t22 w =>
 If t22
 (Jn1 (fun k2 =>
 Bt P .len #[44] 3 #[t0] w fun t28 w =>
 Bn P .lss 3 false t7 t28 w fun t29 w =>
 If t29
 (Ia P 44 t0 t7 w fun t33 w =>
 Ld P 3 t33 w fun t34 w =>
 Bn P .add 3 false t6 t34 w fun t35 w =>
 k2 t35 w)
 (k2 t6 w))
 (fun t8 w =>
 Jn1 (fun k3 =>
 Bt P .len #[44] 3 #[t1] w fun t38 w =>
 Bn P .lss 3 false t7 t38 w fun t39 w =>
 If t39
 (Ia P 44 t1 t7 w fun t43 w =>
 Ld P 3 t43 w fun t44 w =>
 Bn P .add 3 false t8 t44 w fun t45 w =>
 k3 t45 w)
 (k3 t8 w))
 (fun t8x1 w =>
 Bn P .rem 3 true t8x1 (.int .i64 10) w fun t48 w =>
 Bs P 44 1 [(0, t48)] w fun t49 w =>
 Bt P .append #[44, 44] 44 #[t5, t49] w fun t50 w =>
 Bn P .quo 3 true t8x1 (.int .i64 10) w fun t52 w =>
 Bn P .add 3 true t7 (.int .i64 1) w fun t24 w =>
 k1 t50 t52 t24 w)))
 (R (.returned t5) w))
theorem e_ref03_plus {t0 t1 : Value} {w : World} {R : Ending → World → Prop} (h : s_ref03_plus Tryz.prog t0 t1 w R) : Calls Tryz.prog 121 #[t0, t1] w R :=
 enter (h := (.sq .z (.sq .z (.sq .z (.sq (.sq .z (.bk (.lp [5, 6, 7] [8, 9, 10, 11, 12, 13, 14, 15, 16, 17, 18, 19, 20, 21, 22, 23, 24, 25, 26, 27, 28, 29, 30, 31, 32, 33, 34, 35, 36, 37, 38, 39, 40, 41, 42, 43, 44, 45, 46, 47, 48, 49, 50, 51, 52] (.sq (.sq .z (.cd .z .z)) (.sq (.bk (.sq .z (.jn [8] [26, 27, 28, 29, 30, 31, 32, 33, 34, 35] (.sq .z (.cd .z .z)) (.jn [8] [36, 37, 38, 39, 40, 41, 42, 43, 44, 45] (.sq .z (.cd .z .z)) (.sq .z .z))))) .z))))) (.sq .z .z)))))) (args := [t0, t1]) Tryz.func121 (by kernel_rfl) (by kernel_rfl) (by kernel_rfl) (Eq.mp (by kernel_rfl) h)
theorem n_ref03_plus : Enters Tryz.prog 121 := enters_of Tryz.func121 (by kernel_rfl) rfl
def s_ref03_minus (P : Program) (t0 t1 : Value) (w : World) (R : Ending → World → Prop) : Prop :=
 Lp3 (.slice none 0 0) (.int .i64 0) (.int .i64 0) w (fun t5 t6 t7 w k1 =>
 Bt P .len #[44] 3 #[t0] w fun t11 w =>
 Bn P .lss 3 false t7 t11 w fun t12 w =>
 If t12
 (Ia P 44 t0 t7 w fun t17 w =>
 Ld P 3 t17 w fun t18 w =>
 Bn P .sub 3 false t18 t6 w fun t20 w =>
 Jn1 (fun k2 =>
 Bt P .len #[44] 3 #[t1] w fun t23 w =>
 Bn P .lss 3 false t7 t23 w fun t24 w =>
 If t24
 (Ia P 44 t1 t7 w fun t28 w =>
 Ld P 3 t28 w fun t29 w =>
 Bn P .sub 3 false t20 t29 w fun t30 w =>
 k2 t30 w)
 (k2 t20 w))
 (fun t8 w =>
 Bn P .lss 3 true t8 (.int .i64 0) w fun t32 w =>
 If t32
 (Bn P .add 3 true t8 (.int .i64 10) w fun t34 w =>
 Bs P 44 1 [(0, t34)] w fun t37 w =>
 Bt P .append #[44, 44] 44 #[t5, t37] w fun t38 w =>
 Bn P .add 3 true t7 (.int .i64 1) w fun t14 w =>
 k1 t38 (.int .i64 1) t14 w)
 (Bs P 44 1 [(0, t8)] w fun t37x1 w =>
 Bt P .append #[44, 44] 44 #[t5, t37x1] w fun t38x1 w =>
 Bn P .add 3 true t7 (.int .i64 1) w fun t14x1 w =>
 k1 t38x1 (.int .i64 0) t14x1 w)))
 (Cl P 123 #[t5] w (Pk R) fun t40 w =>
 R (.returned t40) w))
theorem e_ref03_minus {t0 t1 : Value} {w : World} {R : Ending → World → Prop} (h : s_ref03_minus Tryz.prog t0 t1 w R) : Calls Tryz.prog 122 #[t0, t1] w R :=
 enter (h := (.sq .z (.sq .z (.sq .z (.sq (.sq .z (.bk (.lp [5, 6, 7] [8, 9, 10, 11, 12, 13, 14, 15, 16, 17, 18, 19, 20, 21, 22, 23, 24, 25, 26, 27, 28, 29, 30, 31, 32, 33, 34, 35, 36, 37, 38] (.sq (.sq .z (.cd .z .z)) (.sq (.bk (.sq .z (.jn [8] [21, 22, 23, 24, 25, 26, 27, 28, 29, 30] (.sq .z (.cd .z .z)) (.sq .z (.sq (.sq .z (.cd (.sq .z .z) .z)) .z))))) .z))))) (.sq .z .z)))))) (args := [t0, t1]) Tryz.func122 (by kernel_rfl) (by kernel_rfl) (by kernel_rfl) (Eq.mp (by kernel_rfl) h)
theorem n_ref03_minus : Enters Tryz.prog 122 := enters_of Tryz.func122 (by kernel_rfl) rfl
def s_ref03_trim (P : Program) (t0 : Value) (w : World) (R : Ending → World → Prop) : Prop :=
 Lp1 t0 w (fun t0x1 w k1 =>
 Bt P .len #[44] 3 #[t0x1] w fun t4 w =>
 Bn P .gtr 3 true t4 (.int .i64 0) w fun t5 w =>
 Gd t5 true (fun k => k t0x1 w) w fun t7 w =>
 Gd t5 true (fun k => k t0x1 w) w fun t8 w =>
 Gd t5 true (fun k => Bt P .len #[44] 3 #[t8] w k) w fun t9 w =>
 Gd t5 true (fun k => Bn P .sub 3 true t9 (.int .i64 1) w k) w fun t10 w =>
 Gd t5 true (fun k => Ia P 44 t7 t10 w k) w fun t11 w =>
 Gd t5 true (fun k => Ld P 3 t11 w k) w fun t12 w =>
 Gd t5 true (fun k => Bn P .eql 3 true t12 (.int .i64 0) w k) w fun t13 w =>
 Pick t5 t13 (.bool false) w fun t14 w =>
 If t14
 (Bt P .len #[44] 3 #[t0x1] w fun t17 w =>
 Bn P .sub 3 true t17 (.int .i64 1) w fun t18 w =>
 Sc P 44 t0x1 none (some t18) none w fun t19 w =>
 k1 t19 w)
 (R (.returned t0x1) w))
theorem e_ref03_trim {t0 : Value} {w : World} {R : Ending → World → Prop} (h : s_ref03_trim Tryz.prog t0 w R) : Calls Tryz.prog 123 #[t0] w R :=
 enter (h := (.sq .z (.sq (.bk (.lp [0] [3, 4, 5, 6, 7, 8, 9, 10, 11, 12, 13, 14, 15, 16, 17, 18, 19] (.sq (.sq .z (.cd .z .z)) (.bk .z)))) (.sq .z .z)))) (args := [t0]) Tryz.func123 (by kernel_rfl) (by kernel_rfl) (by kernel_rfl) (Eq.mp (by kernel_rfl) h)
theorem n_ref03_trim : Enters Tryz.prog 123 := enters_of Tryz.func123 (by kernel_rfl) rfl
def s_ref03_times (P : Program) (t0 t1 : Value) (w : World) (R : Ending → World → Prop) : Prop :=
 Bt P .len #[44] 3 #[t0] w fun t11 w =>
 Bt P .len #[44] 3 #[t1] w fun t13 w =>
 Bn P .add 3 false t11 t13 w fun t14 w =>
 Ms P 44 t14 t14 w fun t15 w =>
 Lp1 (.int .i64 0) w (fun t6 w k1 =>
 Bt P .len #[44] 3 #[t0] w fun t18 w =>
 Bn P .lss 3 false t6 t18 w fun t19 w =>
 If t19
 (Lp2 (.int .i64 0) (.int .i64 0) w (fun t7 t8 w k2 =>
 Bt P .len #[44] 3 #[t1] w fun t24 w =>
 Bn P .lss 3 false t8 t24 w fun t25 w =>
 Gd t25 false (fun k => k t7 w) w fun t27 w =>
 Gd t25 false (fun k => Bn P .gtr 3 true t27 (.int .i64 0) w k) w fun t28 w =>
 Pick t25 (.bool true) t28 w fun t29 w =>
 If t29
 (Bn P .add 3 false t6 t8 w fun t35 w =>
 Ia P 44 t15 t35 w fun t36 w =>
 Ld P 3 t36 w fun t37 w =>
 Bn P .add 3 false t37 t7 w fun t39 w =>
 Jn1 (fun k3 =>
 Bt P .len #[44] 3 #[t1] w fun t42 w =>
 Bn P .lss 3 false t8 t42 w fun t43 w =>
 If t43
 (Dv P true (Instr.indexAt 44 t0 t6) w.drew fun t47 =>
 Dv P false (Instr.loadAt 3 t47) w.drew fun t48 =>
 Dv P true (Instr.indexAt 44 t1 t8) w.drew fun t51 =>
 Dv P false (Instr.loadAt 3 t51) w.drew fun t52 =>
 Dv P true (bn .mul 3 false t48 t52) w.drew fun t53 =>
 Dv P true (bn .add 3 false t39 t53) w.drew fun t54 =>
 k3 t54 w.drew)
 (k3 t39 w))
 (fun t9 w =>
 Bn P .add 3 false t6 t8 w fun t58 w =>
 Bn P .rem 3 true t9 (.int .i64 10) w fun t60 w =>
 Ia P 44 t15 t58 w fun t61 w =>
 Sto P 3 t61 t60 w fun w =>
 Bn P .quo 3 true t9 (.int .i64 10) w fun t63 w =>
 Bn P .add 3 true t8 (.int .i64 1) w fun t31 w =>
 k2 t63 t31 w))
 (Bn P .add 3 true t6 (.int .i64 1) w fun t21 w =>
 k1 t21 w)))
 (Cl P 123 #[t15] w (Pk R) fun t65 w =>
 R (.returned t65) w))
theorem e_ref03_times {t0 t1 : Value} {w : World} {R : Ending → World → Prop} (h : s_ref03_times Tryz.prog t0 t1 w R) : Calls Tryz.prog 124 #[t0, t1] w R :=
 enter (h := (.sq .z (.sq .z (.sq (.sq .z (.bk (.lp [6] [7, 8, 9, 16, 17, 18, 19, 20, 21, 22, 23, 24, 25, 26, 27, 28, 29, 30, 31, 32, 33, 34, 35, 36, 37, 38, 39, 40, 41, 42, 43, 44, 45, 46, 47, 48, 49, 50, 51, 52, 53, 54, 55, 56, 57, 58, 59, 60, 61, 62, 63] (.sq (.sq .z (.cd .z .z)) (.sq (.bk (.sq .z (.sq .z (.bk (.lp [7, 8] [9, 22, 23, 24, 25, 26, 27, 28, 29, 30, 31, 32, 33, 34, 35, 36, 37, 38, 39, 40, 41, 42, 43, 44, 45, 46, 47, 48, 49, 50, 51, 52, 53, 54, 55, 56, 57, 58, 59, 60, 61, 62, 63] (.sq (.sq .z (.cd .z .z)) (.sq (.bk (.sq .z (.jn [9] [40, 41, 42, 43, 44, 45, 46, 47, 48, 49, 50, 51, 52, 53, 54] (.sq .z (.cd (.dr (.pur true 0 (.pur true 1 (.pur true 2 (.pur true 3 (.pur false 4 (.pur true 5 (.pur true 6 (.pur true 7 (.pur false 8 (.pur true 9 (.pur true 10 (.pur true 11 .done))))))))))))) .z)) (.sq .z .z)))) .z))))))) .z))))) (.sq .z .z))))) (args := [t0, t1]) Tryz.func124 (by kernel_rfl) (by kernel_rfl) (by kernel_rfl) (Eq.mp (by kernel_rfl) h)
theorem n_ref03_times : Enters Tryz.prog 124 := enters_of Tryz.func124 (by kernel_rfl) rfl
theorem n_strconv_Atoi : Enters Tryz.prog 125 := enters_of Tryz.func125 (by kernel_rfl) rfl
def s_slices_Backward_integer_number_int_1 (P : Program) (t0 t1 : Value) (w : World) (R : Ending → World → Prop) : Prop :=
 Ld P 94 t1 w fun t4 w =>
 Bt P .len #[94] 3 #[t4] w fun t5 w =>
 Bn P .sub 3 true t5 (.int .i64 1) w fun t6 w =>
 Lp1 t6 w (fun t3 w k1 =>
 Bn P .geq 3 true t3 (.int .i64 0) w fun t8 w =>
 If t8
 (Ld P 94 t1 w fun t13 w =>
 Ia P 94 t13 t3 w fun t15 w =>
 Ld P 3 t15 w fun t16 w =>
 Cw P t0 #[t3, t16] w (Pk R) fun t17 w =>
 Un P .not t17 w fun t18 w =>
 If t18
 (R (.returned (.tuple #[])) w)
 (Bn P .sub 3 true t3 (.int .i64 1) w fun t10 w =>
 k1 t10 w))
 (R (.returned (.tuple #[])) w))
theorem e_slices_Backward_integer_number_int_1 {t0 t1 : Value} {w : World} {R : Ending → World → Prop} (h : s_slices_Backward_integer_number_int_1 Tryz.prog t0 t1 w R) : Calls Tryz.prog 126 #[t0, t1] w R :=
 enter (h := (.sq .z (.bk (.lp [3] [7, 8, 9, 10, 11, 12, 13, 14, 15, 16, 17, 18] (.sq (.sq .z (.cd .z .z)) (.sq (.bk (.sq .z (.cd .z .z))) .z)))))) (args := [t0, t1]) Tryz.func126 (by kernel_rfl) (by kernel_rfl) (by kernel_rfl) (Eq.mp (by kernel_rfl) h)
theorem n_slices_Backward_integer_number_int_1 : Enters Tryz.prog 126 := enters_of Tryz.func126 (by kernel_rfl) rfl
def s_integer_number_by_1 (P : Program) (t0 t1 t2 : Value) (w : World) (R : Ending → World → Prop) : Prop :=
 Dv P false (Instr.loadAt 94 t1) w.drew fun t5 =>
 Dv P false (Instr.loadAt 3 t2) w.drew fun t8 =>
 Cl P 109 #[t5, t0] w.drew (Pk R) fun t7 w =>
 Ke P (Instr.loadAt 3 t2) t8 w <|
 Dv P true (bn .mul 3 false t7 t8) w fun t9 =>
 R (.returned t9) w
theorem e_integer_number_by_1 {t0 t1 t2 : Value} {w : World} {R : Ending → World → Prop} (h : s_integer_number_by_1 Tryz.prog t0 t1 t2 w R) : Calls Tryz.prog 127 #[t0, t1, t2] w R :=
 enter (h := (.sq .z (.sq (.dr (.pur false 0 (.pur true 1 (.pur false 3 (.eff 2 [3] (.pur true 4 (.pur true 5 .done))))))) .z))) (args := [t0, t1, t2]) Tryz.func127 (by kernel_rfl) (by kernel_rfl) (by kernel_rfl) (Eq.mp (by kernel_rfl) h)
theorem n_integer_number_by_1 : Enters Tryz.prog 127 := enters_of Tryz.func127 (by kernel_rfl) rfl
def s_strings_Builder_copyCheck (P : Program) (t0 : Value) (w : World) (R : Ending → World → Prop) : Prop :=
 Nc t0 w fun t3 w =>
 Fa P 131 t3 0 w fun t4 w =>
 Ld P 128 t4 w fun t5 w =>
 Bn P .eql 128 true t5 (.pointer none) w fun t6 w =>
 If t6
 (Cv P 128 164 t0 w fun t9 w =>
 Cl P 150 #[t9] w (Pk R) fun t10 w =>
 Cv P 164 128 t10 w fun t11 w =>
 Nc t0 w fun t12 w =>
 Fa P 131 t12 0 w fun t13 w =>
 Sto P 128 t13 t11 w fun w =>
 R (.returned (.tuple #[])) w)
 (Nc t0 w fun t15 w =>
 Fa P 131 t15 0 w fun t16 w =>
 Ld P 128 t16 w fun t17 w =>
 Bn P .neq 128 false t17 t0 w fun t19 w =>
 If t19
 (False)
 (R (.returned (.tuple #[])) w))
theorem e_strings_Builder_copyCheck {t0 : Value} {w : World} {R : Ending → World → Prop} (h : s_strings_Builder_copyCheck Tryz.prog t0 w R) : Calls Tryz.prog 133 #[t0] w R :=
 enter (h := (.sq .z (.cd .z (.sq .z (.cd .z .z))))) (args := [t0]) Tryz.func133 (by kernel_rfl) (by kernel_rfl) (by kernel_rfl) (Eq.mp (by kernel_rfl) h)
theorem n_strings_Builder_copyCheck : Enters Tryz.prog 133 := enters_of Tryz.func133 (by kernel_rfl) rfl
def s_cmp_isNaN_int (P : Program) (t0 : Value) (w : World) (R : Ending → World → Prop) : Prop :=
 Bn P .neq 3 false t0 t0 w fun t5 w =>
 R (.returned t5) w
theorem e_cmp_isNaN_int {t0 : Value} {w : World} {R : Ending → World → Prop} (h : s_cmp_isNaN_int Tryz.prog t0 w R) : Calls Tryz.prog 134 #[t0] w R :=
 enter (h := (.sq .z (.sq .z .z))) (args := [t0]) Tryz.func134 (by kernel_rfl) (by kernel_rfl) (by kernel_rfl) (Eq.mp (by kernel_rfl) h)
theorem n_cmp_isNaN_int : Enters Tryz.prog 134 := enters_of Tryz.func134 (by kernel_rfl) rfl
theorem n_strings_makeASCIISet : Enters Tryz.prog 138 := enters_of Tryz.func138 (by kernel_rfl) rfl
def s_strings_trimLeftASCII (P : Program) (t0 t1 : Value) (w : World) (R : Ending → World → Prop) : Prop :=
 Lp1 t0 w (fun t0x1 w k1 =>
 Bt P .len #[9] 3 #[t0x1] w fun t6 w =>
 Bn P .gtr 3 true t6 (.int .i64 0) w fun t7 w =>
 If t7
 (Ix P 9 t0x1 (.int .i64 0) w fun t10 w =>
 Cl P 151 #[t1, t10] w (Pk R) fun t11 w =>
 Un P .not t11 w fun t12 w =>
 If t12
 (R (.returned t0x1) w)
 (Sc P 9 t0x1 (some (.int .i64 1)) none none w fun t14 w =>
 k1 t14 w))
 (R (.returned t0x1) w))
theorem e_strings_trimLeftASCII {t0 t1 : Value} {w : World} {R : Ending → World → Prop} (h : s_strings_trimLeftASCII Tryz.prog t0 t1 w R) : Calls Tryz.prog 139 #[t0, t1] w R :=
 enter (h := (.sq .z (.sq (.bk (.lp [0] [5, 6, 7, 8, 9, 10, 11, 12, 13, 14] (.sq (.sq .z (.cd .z .z)) (.bk (.sq (.sq .z (.cd .z .z)) .z))))) (.sq .z .z)))) (args := [t0, t1]) Tryz.func139 (by kernel_rfl) (by kernel_rfl) (by kernel_rfl) (Eq.mp (by kernel_rfl) h)
theorem n_strings_trimLeftASCII : Enters Tryz.prog 139 := enters_of Tryz.func139 (by kernel_rfl) rfl
def s_strings_trimRightASCII (P : Program) (t0 t1 : Value) (w : World) (R : Ending → World → Prop) : Prop :=
 Lp1 t0 w (fun t0x1 w k1 =>
 Bt P .len #[9] 3 #[t0x1] w fun t6 w =>
 Bn P .gtr 3 true t6 (.int .i64 0) w fun t7 w =>
 If t7
 (Bt P .len #[9] 3 #[t0x1] w fun t11 w =>
 Bn P .sub 3 true t11 (.int .i64 1) w fun t12 w =>
 Ix P 9 t0x1 t12 w fun t13 w =>
 Cl P 151 #[t1, t13] w (Pk R) fun t14 w =>
 Un P .not t14 w fun t15 w =>
 If t15
 (R (.returned t0x1) w)
 (Bt P .len #[9] 3 #[t0x1] w fun t18 w =>
 Bn P .sub 3 true t18 (.int .i64 1) w fun t19 w =>
 Sc P 9 t0x1 none (some t19) none w fun t20 w =>
 k1 t20 w))
 (R (.returned t0x1) w))
theorem e_strings_trimRightASCII {t0 t1 : Value} {w : World} {R : Ending → World → Prop} (h : s_strings_trimRightASCII Tryz.prog t0 t1 w R) : Calls Tryz.prog 140 #[t0, t1] w R :=
 enter (h := (.sq .z (.sq (.bk (.lp [0] [5, 6, 7, 8, 9, 10, 11, 12, 13, 14, 15, 16, 17, 18, 19, 20] (.sq (.sq .z (.cd .z .z)) (.bk (.sq (.sq .z (.cd .z .z)) .z))))) (.sq .z .z)))) (args := [t0, t1]) Tryz.func140 (by kernel_rfl) (by kernel_rfl) (by kernel_rfl) (Eq.mp (by kernel_rfl) h)
theorem n_strings_trimRightASCII : Enters Tryz.prog 140 := enters_of Tryz.func140 (by kernel_rfl) rfl
theorem n_strings_asciiSet_contains : Enters Tryz.prog 151 := enters_of Tryz.func151 (by kernel_rfl) rfl
end Go.Proofs.YtnocjgmmglmfiaaGreatDoor
