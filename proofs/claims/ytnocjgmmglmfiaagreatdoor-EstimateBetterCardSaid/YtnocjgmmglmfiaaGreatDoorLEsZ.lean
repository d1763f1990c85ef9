/-
  Contracts and plain lemmas. By an AI agent.
-/
import Derived.Test.YtnocjgmmglmfiaaGreatDoorEng
import Derived.Test.YtnocjgmmglmfiaaGreatDoorProg
set_option linter.unusedSimpArgs false
set_option linter.unusedVariables false
set_option linter.unusedSectionVars false
namespace Go.Proofs.YtnocjgmmglmfiaaGreatDoor
open Go Go.Eng Go.Shelf
set_option maxRecDepth 100000
set_option linter.unusedVariables false
def s_law16_EstimateBetter (P : Program) (t0 t1 t2 : Value) (w : World) (R : Ending → World → Prop) : Prop :=
 Cl P 11 #[] w (Pk R) fun t21 w =>
 Un P .not t21 w fun t22 w =>
 If t22
 (R (.returned (.bool false)) w)
 (Cl P 12 #[t0, (.int .i64 10)] w (Pk R) fun t25 w =>
 Ex t25 0 w fun t26 w =>
 Ex t25 1 w fun t27 w =>
 Bt P .len #[23] 3 #[t26] w fun t29 w =>
 Bn P .eql 3 true t29 (.int .i64 0) w fun t30 w =>
 If t30
 (R (.returned (.bool true)) w)
 (Bt P .len #[23] 3 #[t26] w fun t33 w =>
 Cl P 23 #[t1, t33] w (Pk R) fun t34 w =>
 Jn2 (fun k1 =>
 Dv P true (Instr.indexAt 23 t27 t34) w.drew fun t39 =>
 Dv P false (Instr.loadAt 30 t39) w.drew fun t40 =>
 (Cl P 22 #[(.int .i64 1), (.int .i64 1)] w.drew (Pk R) fun t36 w =>
 Ke P (Instr.loadAt 30 t39) t40 w <|
 (Cl P 27 #[t36, t40] w (Pk R) fun t41 w =>
 ExP t41 0 fun t42 =>
 ExP t41 1 fun t43 =>
 Al P 30 w fun t10 w =>
 Ke P (Instr.loadAt 30 t39) t40 w <|
 Sto P 30 t10 t42 w fun w =>
 k1 t10 t43 w) ∧
 (Al P 30 w fun t10x1 w =>
 Ke P (Instr.loadAt 30 t39) t40 w <|
 Cl P 27 #[t36, t40] w (Pk R) fun t41x1 w =>
 ExP t41x1 0 fun t42x1 =>
 ExP t41x1 1 fun t43x1 =>
 Sto P 30 t10x1 t42x1 w fun w =>
 k1 t10x1 t43x1 w)) ∧
 (Al P 30 w.drew fun t10x2 w =>
 Ke P (Instr.loadAt 30 t39) t40 w <|
 Cl P 22 #[(.int .i64 1), (.int .i64 1)] w (Pk R) fun t36x1 w =>
 Ke P (Instr.loadAt 30 t39) t40 w <|
 Cl P 27 #[t36x1, t40] w (Pk R) fun t41x2 w =>
 ExP t41x2 0 fun t42x2 =>
 ExP t41x2 1 fun t43x2 =>
 Sto P 30 t10x2 t42x2 w fun w =>
 k1 t10x2 t43x2 w))
 (fun t10x3 t11 w =>
 Jn2 (fun k2 =>
 Dv P false (Instr.loadAt 30 t10x3) w.drew fun t45 =>
 (Cl P 23 #[t2, (.int .i64 5)] w.drew (Pk R) fun t47 w =>
 Ke P (Instr.loadAt 30 t10x3) t45 w <|
 (Cl P 22 #[t47, (.int .i64 4)] w (Pk R) fun t48 w =>
 Ke P (Instr.loadAt 30 t10x3) t45 w <|
 (Cl P 24 #[t45, t48] w (Pk R) fun t49 w =>
 ExP t49 0 fun t50 =>
 ExP t49 1 fun t51 =>
 Al P 30 w fun t12 w =>
 Ke P (Instr.loadAt 30 t10x3) t45 w <|
 Sto P 30 t12 t50 w fun w =>
 k2 t12 t51 w) ∧
 (Al P 30 w fun t12x1 w =>
 Ke P (Instr.loadAt 30 t10x3) t45 w <|
 Cl P 24 #[t45, t48] w (Pk R) fun t49x1 w =>
 ExP t49x1 0 fun t50x1 =>
 ExP t49x1 1 fun t51x1 =>
 Sto P 30 t12x1 t50x1 w fun w =>
 k2 t12x1 t51x1 w)) ∧
 (Al P 30 w fun t12x2 w =>
 Ke P (Instr.loadAt 30 t10x3) t45 w <|
 Cl P 22 #[t47, (.int .i64 4)] w (Pk R) fun t48x1 w =>
 Ke P (Instr.loadAt 30 t10x3) t45 w <|
 Cl P 24 #[t45, t48x1] w (Pk R) fun t49x2 w =>
 ExP t49x2 0 fun t50x2 =>
 ExP t49x2 1 fun t51x2 =>
 Sto P 30 t12x2 t50x2 w fun w =>
 k2 t12x2 t51x2 w)) ∧
 (Al P 30 w.drew fun t12x3 w =>
 Ke P (Instr.loadAt 30 t10x3) t45 w <|
 Cl P 23 #[t2, (.int .i64 5)] w (Pk R) fun t47x1 w =>
 Ke P (Instr.loadAt 30 t10x3) t45 w <|
 Cl P 22 #[t47x1, (.int .i64 4)] w (Pk R) fun t48x2 w =>
 Ke P (Instr.loadAt 30 t10x3) t45 w <|
 Cl P 24 #[t45, t48x2] w (Pk R) fun t49x3 w =>
 ExP t49x3 0 fun t50x3 =>
 ExP t49x3 1 fun t51x3 =>
 Sto P 30 t12x3 t50x3 w fun w =>
 k2 t12x3 t51x3 w))
 (fun t12x4 t13 w =>
 Jn2 (fun k3 =>
 Dv P true (Instr.indexAt 23 t27 t34) w.drew fun t55 =>
 Dv P false (Instr.loadAt 30 t55) w.drew fun t56 =>
 Dv P false (Instr.loadAt 30 t12x4) w.drew fun t57 =>
 (Cl P 25 #[t56, t57] w.drew (Pk R) fun t58 w =>
 ExP t58 0 fun t59 =>
 ExP t58 1 fun t60 =>
 Al P 30 w fun t14 w =>
 Ke P (Instr.loadAt 30 t55) t56 w <|
 Ke P (Instr.loadAt 30 t12x4) t57 w <|
 Sto P 30 t14 t59 w fun w =>
 k3 t14 t60 w) ∧
 (Al P 30 w.drew fun t14x1 w =>
 Ke P (Instr.loadAt 30 t55) t56 w <|
 Ke P (Instr.loadAt 30 t12x4) t57 w <|
 Cl P 25 #[t56, t57] w (Pk R) fun t58x1 w =>
 ExP t58x1 0 fun t59x1 =>
 ExP t58x1 1 fun t60x1 =>
 Sto P 30 t14x1 t59x1 w fun w =>
 k3 t14x1 t60x1 w))
 (fun t14x2 t15 w =>
 Bn P .neq 31 true t11 (.int .i64 0) w fun t62 w =>
 Gd t62 false (fun k => k t13 w) w fun t64 w =>
 Gd t62 false (fun k => Bn P .neq 31 true t64 (.int .i64 0) w k) w fun t65 w =>
 Pick t62 (.bool true) t65 w fun t66 w =>
 Gd t66 false (fun k => k t15 w) w fun t68 w =>
 Gd t66 false (fun k => Bn P .neq 31 true t68 (.int .i64 0) w k) w fun t69 w =>
 Pick t66 (.bool true) t69 w fun t70 w =>
 If t70
 (R (.returned (.bool false)) w)
 (Bs P 23 0 [] w fun t71 w =>
 Bt P .append #[23, 23] 23 #[t71, t27] w fun t73 w =>
 Ld P 30 t14x2 w fun t76 w =>
 Ia P 23 t73 t34 w fun t77 w =>
 Sto P 30 t77 t76 w fun w =>
 Cl P 16 #[t26, t27] w (Pk R) fun t81 w =>
 Ex t81 0 w fun t82 w =>
 Ex t81 1 w fun t83 w =>
 Al P 30 w fun t17 w =>
 Sto P 30 t17 t82 w fun w =>
 Cl P 16 #[t26, t73] w (Pk R) fun t87 w =>
 Ex t87 0 w fun t88 w =>
 Ex t87 1 w fun t89 w =>
 Al P 30 w fun t19 w =>
 Sto P 30 t19 t88 w fun w =>
 Bn P .eql 31 true t83 (.int .i64 0) w fun t91 w =>
 Gd t91 true (fun k => k t89 w) w fun t93 w =>
 Gd t91 true (fun k => Bn P .eql 31 true t93 (.int .i64 0) w k) w fun t94 w =>
 Pick t91 t94 (.bool false) w fun t95 w =>
 Gd t95 true (fun k => Ld P 30 t19 w k) w fun t97 w =>
 Gd t95 true (fun k => Ld P 30 t17 w k) w fun t98 w =>
 Gd t95 true (fun k => Cl P 21 #[t97, t98] w (Pk R) k) w fun t99 w =>
 Gd t95 true (fun k => Bn P .leq 3 true t99 (.int .i64 0) w k) w fun t100 w =>
 Pick t95 t100 (.bool false) w fun t101 w =>
 R (.returned t101) w))))))
theorem e_law16_EstimateBetter {t0 t1 t2 : Value} {w : World} {R : Ending → World → Prop} (h : s_law16_EstimateBetter Tryz.prog t0 t1 t2 w R) : Calls Tryz.prog 10 #[t0, t1, t2] w R :=
 enter (h := (.sq .z (.sq (.sq .z (.cd (.sq .z .z) .z)) (.sq .z (.sq (.sq .z (.cd (.sq .z .z) .z)) (.sq .z (.jn [10, 11] [35, 36, 37, 38, 39, 40, 41, 42, 43] (.dr (.pur true 1 (.pur true 2 (.pur true 3 (.pur false 4 (.alt (.eff 0 [4] (.alt (.eff 5 [] (.pur true 6 (.pur true 7 (.pur true 8 (.eff 9 [4] (.eff 10 [] (.pur true 11 .done))))))) (.eff 9 [4] (.eff 5 [] (.pur true 6 (.pur true 7 (.pur true 8 (.eff 10 [] (.pur true 11 .done))))))))) (.eff 9 [4] (.eff 0 [4] (.eff 5 [] (.pur true 6 (.pur true 7 (.pur true 8 (.eff 10 [] (.pur true 11 .done)))))))))))))) (.jn [12, 13] [44, 45, 46, 47, 48, 49, 50, 51] (.dr (.pur false 0 (.pur true 1 (.alt (.eff 2 [0] (.alt (.eff 3 [0] (.alt (.eff 4 [] (.pur true 5 (.pur true 6 (.pur true 7 (.eff 8 [0] (.eff 9 [] (.pur true 10 .done))))))) (.eff 8 [0] (.eff 4 [] (.pur true 5 (.pur true 6 (.pur true 7 (.eff 9 [] (.pur true 10 .done))))))))) (.eff 8 [0] (.eff 3 [0] (.eff 4 [] (.pur true 5 (.pur true 6 (.pur true 7 (.eff 9 [] (.pur true 10 .done)))))))))) (.eff 8 [0] (.eff 2 [0] (.eff 3 [0] (.eff 4 [] (.pur true 5 (.pur true 6 (.pur true 7 (.eff 9 [] (.pur true 10 .done))))))))))))) (.jn [14, 15] [52, 53, 54, 55, 56, 57, 58, 59, 60] (.dr (.pur true 0 (.pur true 1 (.pur true 2 (.pur false 3 (.pur false 4 (.alt (.eff 5 [] (.pur true 6 (.pur true 7 (.pur true 8 (.eff 9 [3, 4] (.eff 10 [] (.pur true 11 .done))))))) (.eff 9 [3, 4] (.eff 5 [] (.pur true 6 (.pur true 7 (.pur true 8 (.eff 10 [] (.pur true 11 .done)))))))))))))) (.sq (.sq .z (.cd (.sq .z .z) .z)) (.sq .z (.sq .z (.sq .z (.sq .z (.sq .z .z))))))))))))))) (args := [t0, t1, t2]) Tryz.func10 (by kernel_rfl) (by kernel_rfl) (by kernel_rfl) (Eq.mp (by kernel_rfl) h)
end Go.Proofs.YtnocjgmmglmfiaaGreatDoor
