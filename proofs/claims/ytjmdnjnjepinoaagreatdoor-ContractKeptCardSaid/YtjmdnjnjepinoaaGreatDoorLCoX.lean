/-
  Contracts and plain lemmas. By an AI agent.
-/
import Derived.Test.YtjmdnjnjepinoaaGreatDoorEng
import Derived.Test.YtjmdnjnjepinoaaGreatDoorProg
set_option linter.unusedSimpArgs false
set_option linter.unusedVariables false
set_option linter.unusedSectionVars false
namespace Go.Proofs.YtjmdnjnjepinoaaGreatDoor
open Go Go.Eng Go.Shelf
set_option maxRecDepth 100000
set_option linter.unusedVariables false
def s_law26_ContractScale (P : Program) (t0 t1 t2 t3 : Value) (w : World) (R : Ending → World → Prop) : Prop :=
 Cl P 9 #[] w (Pk R) fun t21 w =>
 Cl P 23 #[t0, (.int .i64 100001)] w (Pk R) fun t23 w =>
 Cl P 26 #[t1] w (Pk R) fun t25 w =>
 Cl P 23 #[t2, (.int .i64 50)] w (Pk R) fun t27 w =>
 Bn P .add 3 true (.int .i64 1) t27 w fun t28 w =>
 Cl P 23 #[t3, (.int .i64 50)] w (Pk R) fun t30 w =>
 Bn P .add 3 true (.int .i64 1) t30 w fun t31 w =>
 Cl P 29 #[t28, t31] w (Pk R) fun t32 w =>
 Al P 23 w fun t12 w =>
 Sto P 23 t12 t32 w fun w =>
 Lp2 (.slice none 0 0) (.int .i64 0) w (fun t13 t14 w k1 =>
 Bt P .len #[28] 3 #[t25] w fun t35 w =>
 Bn P .lss 3 false t14 t35 w fun t36 w =>
 If t36
 (Jn2 (fun k2 =>
 Dv P true (Instr.indexAt 28 t25 t14) w.drew fun t42 =>
 Dv P false (Instr.loadAt 23 t42) w.drew fun t43 =>
 Dv P false (Instr.loadAt 23 t12) w.drew fun t44 =>
 (Cl P 28 #[t43, t44] w.drew (Pk R) fun t45 w =>
 ExP t45 0 fun t46 =>
 ExP t45 1 fun t47 =>
 Al P 23 w fun t15 w =>
 Ke P (Instr.loadAt 23 t42) t43 w <|
 Ke P (Instr.loadAt 23 t12) t44 w <|
 Sto P 23 t15 t46 w fun w =>
 k2 t15 t47 w) ∧
 (Al P 23 w.drew fun t15x1 w =>
 Ke P (Instr.loadAt 23 t42) t43 w <|
 Ke P (Instr.loadAt 23 t12) t44 w <|
 Cl P 28 #[t43, t44] w (Pk R) fun t45x1 w =>
 ExP t45x1 0 fun t46x1 =>
 ExP t45x1 1 fun t47x1 =>
 Sto P 23 t15x1 t46x1 w fun w =>
 k2 t15x1 t47x1 w))
 (fun t15x2 t16 w =>
 Bn P .neq 39 true t16 (.int .i64 0) w fun t49 w =>
 If t49
 (R (.returned (.bool false)) w)
 (Ld P 23 t15x2 w fun t51 w =>
 Bs P 28 1 [(0, t51)] w fun t52 w =>
 Bt P .append #[28, 28] 28 #[t13, t52] w fun t53 w =>
 Bn P .add 3 true t14 (.int .i64 1) w fun t38 w =>
 k1 t53 t38 w)))
 (Cl P 24 #[t23, t25] w (Pk R) fun t57 w =>
 Ex t57 0 w fun t58 w =>
 Ex t57 1 w fun t59 w =>
 Cl P 24 #[t23, t13] w (Pk R) fun t63 w =>
 Ex t63 0 w fun t64 w =>
 Ex t63 1 w fun t65 w =>
 Gd t21 true (fun k => k t59 w) w fun t68 w =>
 Gd t21 true (fun k => Bn P .eql 39 true t68 (.int .i64 0) w k) w fun t69 w =>
 Pick t21 t69 (.bool false) w fun t70 w =>
 Gd t70 true (fun k => k t65 w) w fun t72 w =>
 Gd t70 true (fun k => Bn P .eql 39 true t72 (.int .i64 0) w k) w fun t73 w =>
 Pick t70 t73 (.bool false) w fun t74 w =>
 Gd t74 true (fun k => k t58 w) w fun t76 w =>
 Gd t74 true (fun k => k t64 w) w fun t77 w =>
 Gd t74 true (fun k => Cl P 17 #[t76, t77] w (Pk R) k) w fun t78 w =>
 Pick t74 t78 (.bool false) w fun t79 w =>
 R (.returned t79) w))
theorem e_law26_ContractScale {t0 t1 t2 t3 : Value} {w : World} {R : Ending → World → Prop} (h : s_law26_ContractScale Tryz.prog t0 t1 t2 t3 w R) : Calls Tryz.prog 5 #[t0, t1, t2, t3] w R :=
 enter (h := (.sq .z (.sq .z (.sq .z (.sq .z (.sq .z (.sq .z (.sq (.sq .z (.bk (.lp [13, 14] [8, 15, 16, 33, 34, 35, 36, 37, 38, 39, 40, 41, 42, 43, 44, 45, 46, 47, 48, 49, 50, 51, 52, 53] (.sq (.sq .z (.cd .z .z)) (.sq (.bk (.jn [15, 16] [39, 40, 41, 42, 43, 44, 45, 46, 47] (.dr (.pur true 0 (.pur true 1 (.pur true 2 (.pur false 3 (.pur false 4 (.alt (.eff 5 [] (.pur true 6 (.pur true 7 (.pur true 8 (.eff 9 [3, 4] (.eff 10 [] (.pur true 11 .done))))))) (.eff 9 [3, 4] (.eff 5 [] (.pur true 6 (.pur true 7 (.pur true 8 (.eff 10 [] (.pur true 11 .done)))))))))))))) (.sq (.sq .z (.cd (.sq .z .z) .z)) .z))) .z))))) (.sq .z (.sq .z (.sq .z .z))))))))))) (args := [t0, t1, t2, t3]) Tryz.func5 (by kernel_rfl) (by kernel_rfl) (by kernel_rfl) (Eq.mp (by kernel_rfl) h)
end Go.Proofs.YtjmdnjnjepinoaaGreatDoor
