/-
  Contracts and plain lemmas. By an AI agent.
-/
import Derived.Test.YtnocjgmmglmfiaaGreatDoorEng
import Derived.Test.YtnocjgmmglmfiaaGreatDoorProg
set_option linter.unusedSimpArgs false
set_option linter.unusedVariables false
set_option linter.unusedSectionVars false
namespace Go.Proofs.YtnocjgmmglmfiaaGreatDoor
open Go Go.Eng Go.Shelf
set_option maxRecDepth 100000
set_option linter.unusedVariables false
def s_law16_EstimateUnbiased (P : Program) (t0 : Value) (w : World) (R : Ending → World → Prop) : Prop :=
 Cl P 11 #[] w (Pk R) fun t11 w =>
 Un P .not t11 w fun t12 w =>
 If t12
 (R (.returned (.bool false)) w)
 (Cl P 12 #[t0, (.int .i64 7)] w (Pk R) fun t15 w =>
 Ex t15 0 w fun t16 w =>
 Ex t15 1 w fun t17 w =>
 Cl P 18 #[t16, t17] w (Pk R) fun t21 w =>
 Ex t21 0 w fun t22 w =>
 Ex t21 1 w fun t23 w =>
 Ex t21 2 w fun t24 w =>
 Ex t21 3 w fun t25 w =>
 Al P 30 w fun t5 w =>
 Al P 30 w fun t6 w =>
 Al P 30 w fun t7 w =>
 Sto P 30 t5 t22 w fun w =>
 Sto P 30 t6 t23 w fun w =>
 Sto P 30 t7 t24 w fun w =>
 Cl P 20 #[t16] w (Pk R) fun t28 w =>
 Ex t28 0 w fun t29 w =>
 Ex t28 1 w fun t30 w =>
 Al P 30 w fun t9 w =>
 Sto P 30 t9 t29 w fun w =>
 Bn P .eql 31 true t25 (.int .i64 0) w fun t32 w =>
 Gd t32 true (fun k => k t30 w) w fun t34 w =>
 Gd t32 true (fun k => Bn P .eql 31 true t34 (.int .i64 0) w k) w fun t35 w =>
 Pick t32 t35 (.bool false) w fun t36 w =>
 Gd t36 true (fun k => Ld P 30 t5 w k) w fun t38 w =>
 Gd t36 true (fun k => Ld P 30 t9 w k) w fun t39 w =>
 Gd t36 true (fun k => Bn P .eql 30 false t38 t39 w k) w fun t40 w =>
 Pick t36 t40 (.bool false) w fun t41 w =>
 R (.returned t41) w)
theorem e_law16_EstimateUnbiased {t0 : Value} {w : World} {R : Ending → World → Prop} (h : s_law16_EstimateUnbiased Tryz.prog t0 w R) : Calls Tryz.prog 4 #[t0] w R :=
 enter (h := (.sq .z (.sq (.sq .z (.cd (.sq .z .z) .z)) (.sq .z (.sq .z (.sq .z (.sq .z .z))))))) (args := [t0]) Tryz.func4 (by kernel_rfl) (by kernel_rfl) (by kernel_rfl) (Eq.mp (by kernel_rfl) h)
def s_law16_EstimateVaries (P : Program) (t0 : Value) (w : World) (R : Ending → World → Prop) : Prop :=
 Cl P 11 #[] w (Pk R) fun t11 w =>
 Un P .not t11 w fun t12 w =>
 If t12
 (R (.returned (.bool false)) w)
 (Cl P 12 #[t0, (.int .i64 7)] w (Pk R) fun t15 w =>
 Ex t15 0 w fun t16 w =>
 Ex t15 1 w fun t17 w =>
 Cl P 18 #[t16, t17] w (Pk R) fun t21 w =>
 Ex t21 0 w fun t22 w =>
 Ex t21 1 w fun t23 w =>
 Ex t21 2 w fun t24 w =>
 Ex t21 3 w fun t25 w =>
 Al P 30 w fun t5 w =>
 Al P 30 w fun t6 w =>
 Al P 30 w fun t7 w =>
 Sto P 30 t5 t22 w fun w =>
 Sto P 30 t6 t23 w fun w =>
 Sto P 30 t7 t24 w fun w =>
 Cl P 16 #[t16, t17] w (Pk R) fun t29 w =>
 Ex t29 0 w fun t30 w =>
 Ex t29 1 w fun t31 w =>
 Al P 30 w fun t9 w =>
 Sto P 30 t9 t30 w fun w =>
 Dv P true (bn .eql 31 true t25 (.int .i64 0)) w.drew fun t33 =>
 GdP t33 true (fun k => k t31) fun t35 =>
 GdP t33 true (fun k => Dv P true (bn .eql 31 true t35 (.int .i64 0)) w.drew k) fun t36 =>
 PickP t33 t36 (.bool false) fun t37 =>
 GdP t37 true (fun k => Dv P false (Instr.loadAt 30 t6) w.drew k) fun t39 =>
 GdP t37 true (fun k => Dv P false (Instr.loadAt 30 t9) w.drew k) fun t40 =>
 GdP t37 true (fun k => Dv P false (bn .eql 30 false t39 t40) w.drew k) fun t41 =>
 PickP t37 t41 (.bool false) fun t42 =>
 GdP t42 true (fun k => Dv P false (Instr.loadAt 30 t7) w.drew k) fun t44 =>
 GdP t42 true (fun k => Dv P false (Instr.loadAt 30 t9) w.drew k) fun t45 =>
 GdP t42 true (fun k => Dv P false (bn .eql 30 false t44 t45) w.drew k) fun t46 =>
 PickP t42 t46 (.bool false) fun t47 =>
 GdP t47 true (fun k => Dv P false (Instr.loadAt 30 t9) w.drew k) fun t49 =>
 Gd t47 true (fun k => Cl P 22 #[(.int .i64 0), (.int .i64 1)] w.drew (Pk R) k) w.drew fun t50 w =>
 Kg t47 true P (Instr.loadAt 30 t9) t49 w <|
 Gd t47 true (fun k => Cl P 21 #[t49, t50] w (Pk R) k) w fun t51 w =>
 GdP t47 true (fun k => Dv P true (bn .geq 3 true t51 (.int .i64 0)) w k) fun t52 =>
 PickP t47 t52 (.bool false) fun t53 =>
 R (.returned t53) w)
theorem e_law16_EstimateVaries {t0 : Value} {w : World} {R : Ending → World → Prop} (h : s_law16_EstimateVaries Tryz.prog t0 w R) : Calls Tryz.prog 5 #[t0] w R :=
 enter (h := (.sq .z (.sq (.sq .z (.cd (.sq .z .z) .z)) (.sq .z (.sq .z (.sq .z (.sq (.dr (.pur true 0 (.pur true 1 (.pur true 2 (.pur true 3 (.pur true 4 (.pur true 5 (.pur true 6 (.pur false 7 (.pur false 8 (.pur false 9 (.pur true 10 (.pur true 11 (.pur false 12 (.pur false 13 (.pur false 14 (.pur true 15 (.pur true 16 (.pur false 17 (.eff 18 [17] (.eff 19 [] (.pur true 20 (.pur true 21 (.pur true 22 .done)))))))))))))))))))))))) .z))))))) (args := [t0]) Tryz.func5 (by kernel_rfl) (by kernel_rfl) (by kernel_rfl) (Eq.mp (by kernel_rfl) h)
end Go.Proofs.YtnocjgmmglmfiaaGreatDoor
