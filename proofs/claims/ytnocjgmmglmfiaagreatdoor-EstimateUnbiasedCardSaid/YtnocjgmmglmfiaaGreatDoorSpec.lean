/-
  The formulas of the program's functions, printed by a program of ours, each proved by the kernel. By an AI agent.
-/
import Derived.Test.YtnocjgmmglmfiaaGreatDoorSpecA
import Derived.Test.YtnocjgmmglmfiaaGreatDoorProg
set_option linter.unusedSimpArgs false
set_option linter.unusedVariables false
set_option linter.unusedSectionVars false
namespace Go.Proofs.YtnocjgmmglmfiaaGreatDoor
open Go Go.Eng Go.Shelf
set_option maxRecDepth 100000
set_option linter.unusedVariables false
def s_law16_EstimateUnbiased (P : Program) (t0 : Value) (w : World) (R : Ending → World → Prop) : Prop :=
  Cl P 11 #[] w (Pk R) fun t11 w =>
  Un P .not t11 w fun t12 w =>
  If t12
  (R (.returned (.bool false)) w)
  (Cl P 12 #[t0, (.int .i64 7)] w (Pk R) fun t15 w =>
  Ex t15 0 w fun t16 w =>
  Ex t15 1 w fun t17 w =>
  Cl P 18 #[t16, t17] w (Pk R) fun t21 w =>
  Ex t21 0 w fun t22 w =>
  Ex t21 1 w fun t23 w =>
  Ex t21 2 w fun t24 w =>
  Ex t21 3 w fun t25 w =>
  Al P 30 w fun t5 w =>
  Al P 30 w fun t6 w =>
  Al P 30 w fun t7 w =>
  Sto P 30 t5 t22 w fun w =>
  Sto P 30 t6 t23 w fun w =>
  Sto P 30 t7 t24 w fun w =>
  Cl P 20 #[t16] w (Pk R) fun t28 w =>
  Ex t28 0 w fun t29 w =>
  Ex t28 1 w fun t30 w =>
  Al P 30 w fun t9 w =>
  Sto P 30 t9 t29 w fun w =>
  Bn P .eql 31 true t25 (.int .i64 0) w fun t32 w =>
  Gd t32 true (fun k => k t30 w) w fun t34 w =>
  Gd t32 true (fun k => Bn P .eql 31 true t34 (.int .i64 0) w k) w fun t35 w =>
  Pick t32 t35 (.bool false) w fun t36 w =>
  Gd t36 true (fun k => Ld P 30 t5 w k) w fun t38 w =>
  Gd t36 true (fun k => Ld P 30 t9 w k) w fun t39 w =>
  Gd t36 true (fun k => Bn P .eql 30 false t38 t39 w k) w fun t40 w =>
  Pick t36 t40 (.bool false) w fun t41 w =>
  R (.returned t41) w)
theorem e_law16_EstimateUnbiased {t0 : Value} {w : World} {R : Ending → World → Prop} (h : s_law16_EstimateUnbiased Tryz.prog t0 w R) : Calls Tryz.prog 4 #[t0] w R :=
  enter (h := (.sq .z (.sq (.sq .z (.cd (.sq .z .z) .z)) (.sq .z (.sq .z (.sq .z (.sq .z .z))))))) (args := [t0]) Tryz.func4 (by kernel_rfl) (by kernel_rfl) (by kernel_rfl) (Eq.mp (by kernel_rfl) h)
def s_law16_EstimateVaries (P : Program) (t0 : Value) (w : World) (R : Ending → World → Prop) : Prop :=
  Cl P 11 #[] w (Pk R) fun t11 w =>
  Un P .not t11 w fun t12 w =>
  If t12
  (R (.returned (.bool false)) w)
  (Cl P 12 #[t0, (.int .i64 7)] w (Pk R) fun t15 w =>
  Ex t15 0 w fun t16 w =>
  Ex t15 1 w fun t17 w =>
  Cl P 18 #[t16, t17] w (Pk R) fun t21 w =>
  Ex t21 0 w fun t22 w =>
  Ex t21 1 w fun t23 w =>
  Ex t21 2 w fun t24 w =>
  Ex t21 3 w fun t25 w =>
  Al P 30 w fun t5 w =>
  Al P 30 w fun t6 w =>
  Al P 30 w fun t7 w =>
  Sto P 30 t5 t22 w fun w =>
  Sto P 30 t6 t23 w fun w =>
  Sto P 30 t7 t24 w fun w =>
  Cl P 16 #[t16, t17] w (Pk R) fun t29 w =>
  Ex t29 0 w fun t30 w =>
  Ex t29 1 w fun t31 w =>
  Al P 30 w fun t9 w =>
  Sto P 30 t9 t30 w fun w =>
  Dv P true (bn .eql 31 true t25 (.int .i64 0)) w.drew fun t33 =>
  GdP t33 true (fun k => k t31) fun t35 =>
  GdP t33 true (fun k => Dv P true (bn .eql 31 true t35 (.int .i64 0)) w.drew k) fun t36 =>
  PickP t33 t36 (.bool false) fun t37 =>
  GdP t37 true (fun k => Dv P false (Instr.loadAt 30 t6) w.drew k) fun t39 =>
  GdP t37 true (fun k => Dv P false (Instr.loadAt 30 t9) w.drew k) fun t40 =>
  GdP t37 true (fun k => Dv P false (bn .eql 30 false t39 t40) w.drew k) fun t41 =>
  PickP t37 t41 (.bool false) fun t42 =>
  GdP t42 true (fun k => Dv P false (Instr.loadAt 30 t7) w.drew k) fun t44 =>
  GdP t42 true (fun k => Dv P false (Instr.loadAt 30 t9) w.drew k) fun t45 =>
  GdP t42 true (fun k => Dv P false (bn .eql 30 false t44 t45) w.drew k) fun t46 =>
  PickP t42 t46 (.bool false) fun t47 =>
  GdP t47 true (fun k => Dv P false (Instr.loadAt 30 t9) w.drew k) fun t49 =>
  Gd t47 true (fun k => Cl P 22 #[(.int .i64 0), (.int .i64 1)] w.drew (Pk R) k) w.drew fun t50 w =>
  Kg t47 true P (Instr.loadAt 30 t9) t49 w <|
  Gd t47 true (fun k => Cl P 21 #[t49, t50] w (Pk R) k) w fun t51 w =>
  GdP t47 true (fun k => Dv P true (bn .geq 3 true t51 (.int .i64 0)) w k) fun t52 =>
  PickP t47 t52 (.bool false) fun t53 =>
  R (.returned t53) w)
theorem e_law16_EstimateVaries {t0 : Value} {w : World} {R : Ending → World → Prop} (h : s_law16_EstimateVaries Tryz.prog t0 w R) : Calls Tryz.prog 5 #[t0] w R :=
  enter (h := (.sq .z (.sq (.sq .z (.cd (.sq .z .z) .z)) (.sq .z (.sq .z (.sq .z (.sq (.dr (.pur true 0 (.pur true 1 (.pur true 2 (.pur true 3 (.pur true 4 (.pur true 5 (.pur true 6 (.pur false 7 (.pur false 8 (.pur false 9 (.pur true 10 (.pur true 11 (.pur false 12 (.pur false 13 (.pur false 14 (.pur true 15 (.pur true 16 (.pur false 17 (.eff 18 [17] (.eff 19 [] (.pur true 20 (.pur true 21 (.pur true 22 .done)))))))))))))))))))))))) .z))))))) (args := [t0]) Tryz.func5 (by kernel_rfl) (by kernel_rfl) (by kernel_rfl) (Eq.mp (by kernel_rfl) h)
def s_law16_sane (P : Program) (w : World) (R : Ending → World → Prop) : Prop :=
  Cl P 22 #[(.int .i64 3), (.int .i64 1)] w (Pk R) fun t21 w =>
  Cl P 22 #[(.int .i64 5), (.int .i64 1)] w (Pk R) fun t22 w =>
  Bs P 23 2 [(0, t21), (1, t22)] w fun t23 w =>
  Cl P 22 #[(.int .i64 1), (.int .i64 2)] w (Pk R) fun t24 w =>
  Cl P 22 #[(.int .i64 1), (.int .i64 4)] w (Pk R) fun t25 w =>
  Bs P 23 2 [(0, t24), (1, t25)] w fun t26 w =>
  Cl P 14 #[t23, t26] w (Pk R) fun t30 w =>
  Ex t30 0 w fun t31 w =>
  Ex t30 1 w fun t32 w =>
  Ex t30 2 w fun t33 w =>
  Al P 30 w fun t3 w =>
  Al P 30 w fun t4 w =>
  Sto P 30 t3 t31 w fun w =>
  Sto P 30 t4 t32 w fun w =>
  Cl P 16 #[t23, t26] w (Pk R) fun t37 w =>
  Ex t37 0 w fun t38 w =>
  Ex t37 1 w fun t39 w =>
  Al P 30 w fun t6 w =>
  Sto P 30 t6 t38 w fun w =>
  Cl P 18 #[t23, t26] w (Pk R) fun t43 w =>
  Ex t43 0 w fun t44 w =>
  Ex t43 1 w fun t45 w =>
  Ex t43 2 w fun t46 w =>
  Ex t43 3 w fun t47 w =>
  Al P 30 w fun t8 w =>
  Al P 30 w fun t9 w =>
  Al P 30 w fun t10 w =>
  Sto P 30 t8 t44 w fun w =>
  Sto P 30 t9 t45 w fun w =>
  Sto P 30 t10 t46 w fun w =>
  Cl P 14 #[(.slice none 0 0), (.slice none 0 0)] w (Pk R) fun t49 w =>
  Ex t49 0 w fun t50 w =>
  Ex t49 1 w fun t51 w =>
  Ex t49 2 w fun t52 w =>
  Al P 30 w fun t12 w =>
  Al P 30 w fun t13 w =>
  Sto P 30 t12 t50 w fun w =>
  Sto P 30 t13 t51 w fun w =>
  Jn1 (fun k1 =>
  Dv P true (Instr.sliceAt 23 t23 none (some (.int .i64 1)) none) w.drew fun t55 =>
  (Cl P 22 #[(.int .i64 0), (.int .i64 1)] w.drew (Pk R) fun t56 w =>
  (Bs P 23 1 [(0, t56)] w fun t57 w =>
  (Cl P 14 #[t55, t57] w (Pk R) fun t58 w =>
  ExP t58 0 fun t59 =>
  ExP t58 1 fun t60 =>
  ExP t58 2 fun t61 =>
  (Al P 30 w fun t15 w =>
  Al P 30 w fun t16 w =>
  Sto P 30 t15 t59 w fun w =>
  Sto P 30 t16 t60 w fun w =>
  k1 t61 w) ∧
  (Al P 30 w fun t16x1 w =>
  Al P 30 w fun t15x1 w =>
  Sto P 30 t15x1 t59 w fun w =>
  Sto P 30 t16x1 t60 w fun w =>
  k1 t61 w)) ∧
  ((Al P 30 w fun t15x2 w =>
  (Cl P 14 #[t55, t57] w (Pk R) fun t58x1 w =>
  ExP t58x1 0 fun t59x1 =>
  ExP t58x1 1 fun t60x1 =>
  ExP t58x1 2 fun t61x1 =>
  Al P 30 w fun t16x2 w =>
  Sto P 30 t15x2 t59x1 w fun w =>
  Sto P 30 t16x2 t60x1 w fun w =>
  k1 t61x1 w) ∧
  (Al P 30 w fun t16x3 w =>
  Cl P 14 #[t55, t57] w (Pk R) fun t58x2 w =>
  ExP t58x2 0 fun t59x2 =>
  ExP t58x2 1 fun t60x2 =>
  ExP t58x2 2 fun t61x2 =>
  Sto P 30 t15x2 t59x2 w fun w =>
  Sto P 30 t16x3 t60x2 w fun w =>
  k1 t61x2 w)) ∧
  (Al P 30 w fun t16x4 w =>
  (Cl P 14 #[t55, t57] w (Pk R) fun t58x3 w =>
  ExP t58x3 0 fun t59x3 =>
  ExP t58x3 1 fun t60x3 =>
  ExP t58x3 2 fun t61x3 =>
  Al P 30 w fun t15x3 w =>
  Sto P 30 t15x3 t59x3 w fun w =>
  Sto P 30 t16x4 t60x3 w fun w =>
  k1 t61x3 w) ∧
  (Al P 30 w fun t15x4 w =>
  Cl P 14 #[t55, t57] w (Pk R) fun t58x4 w =>
  ExP t58x4 0 fun t59x4 =>
  ExP t58x4 1 fun t60x4 =>
  ExP t58x4 2 fun t61x4 =>
  Sto P 30 t15x4 t59x4 w fun w =>
  Sto P 30 t16x4 t60x4 w fun w =>
  k1 t61x4 w)))) ∧
  ((Al P 30 w fun t15x5 w =>
  (Bs P 23 1 [(0, t56)] w fun t57x1 w =>
  (Cl P 14 #[t55, t57x1] w (Pk R) fun t58x5 w =>
  ExP t58x5 0 fun t59x5 =>
  ExP t58x5 1 fun t60x5 =>
  ExP t58x5 2 fun t61x5 =>
  Al P 30 w fun t16x5 w =>
  Sto P 30 t15x5 t59x5 w fun w =>
  Sto P 30 t16x5 t60x5 w fun w =>
  k1 t61x5 w) ∧
  (Al P 30 w fun t16x6 w =>
  Cl P 14 #[t55, t57x1] w (Pk R) fun t58x6 w =>
  ExP t58x6 0 fun t59x6 =>
  ExP t58x6 1 fun t60x6 =>
  ExP t58x6 2 fun t61x6 =>
  Sto P 30 t15x5 t59x6 w fun w =>
  Sto P 30 t16x6 t60x6 w fun w =>
  k1 t61x6 w)) ∧
  (Al P 30 w fun t16x7 w =>
  Bs P 23 1 [(0, t56)] w fun t57x2 w =>
  Cl P 14 #[t55, t57x2] w (Pk R) fun t58x7 w =>
  ExP t58x7 0 fun t59x7 =>
  ExP t58x7 1 fun t60x7 =>
  ExP t58x7 2 fun t61x7 =>
  Sto P 30 t15x5 t59x7 w fun w =>
  Sto P 30 t16x7 t60x7 w fun w =>
  k1 t61x7 w)) ∧
  (Al P 30 w fun t16x8 w =>
  (Bs P 23 1 [(0, t56)] w fun t57x3 w =>
  (Cl P 14 #[t55, t57x3] w (Pk R) fun t58x8 w =>
  ExP t58x8 0 fun t59x8 =>
  ExP t58x8 1 fun t60x8 =>
  ExP t58x8 2 fun t61x8 =>
  Al P 30 w fun t15x6 w =>
  Sto P 30 t15x6 t59x8 w fun w =>
  Sto P 30 t16x8 t60x8 w fun w =>
  k1 t61x8 w) ∧
  (Al P 30 w fun t15x7 w =>
  Cl P 14 #[t55, t57x3] w (Pk R) fun t58x9 w =>
  ExP t58x9 0 fun t59x9 =>
  ExP t58x9 1 fun t60x9 =>
  ExP t58x9 2 fun t61x9 =>
  Sto P 30 t15x7 t59x9 w fun w =>
  Sto P 30 t16x8 t60x9 w fun w =>
  k1 t61x9 w)) ∧
  (Al P 30 w fun t15x8 w =>
  Bs P 23 1 [(0, t56)] w fun t57x4 w =>
  Cl P 14 #[t55, t57x4] w (Pk R) fun t58x10 w =>
  ExP t58x10 0 fun t59x10 =>
  ExP t58x10 1 fun t60x10 =>
  ExP t58x10 2 fun t61x10 =>
  Sto P 30 t15x8 t59x10 w fun w =>
  Sto P 30 t16x8 t60x10 w fun w =>
  k1 t61x10 w)))) ∧
  ((Al P 30 w.drew fun t15x9 w =>
  (Cl P 22 #[(.int .i64 0), (.int .i64 1)] w (Pk R) fun t56x1 w =>
  (Bs P 23 1 [(0, t56x1)] w fun t57x5 w =>
  (Cl P 14 #[t55, t57x5] w (Pk R) fun t58x11 w =>
  ExP t58x11 0 fun t59x11 =>
  ExP t58x11 1 fun t60x11 =>
  ExP t58x11 2 fun t61x11 =>
  Al P 30 w fun t16x9 w =>
  Sto P 30 t15x9 t59x11 w fun w =>
  Sto P 30 t16x9 t60x11 w fun w =>
  k1 t61x11 w) ∧
  (Al P 30 w fun t16x10 w =>
  Cl P 14 #[t55, t57x5] w (Pk R) fun t58x12 w =>
  ExP t58x12 0 fun t59x12 =>
  ExP t58x12 1 fun t60x12 =>
  ExP t58x12 2 fun t61x12 =>
  Sto P 30 t15x9 t59x12 w fun w =>
  Sto P 30 t16x10 t60x12 w fun w =>
  k1 t61x12 w)) ∧
  (Al P 30 w fun t16x11 w =>
  Bs P 23 1 [(0, t56x1)] w fun t57x6 w =>
  Cl P 14 #[t55, t57x6] w (Pk R) fun t58x13 w =>
  ExP t58x13 0 fun t59x13 =>
  ExP t58x13 1 fun t60x13 =>
  ExP t58x13 2 fun t61x13 =>
  Sto P 30 t15x9 t59x13 w fun w =>
  Sto P 30 t16x11 t60x13 w fun w =>
  k1 t61x13 w)) ∧
  (Al P 30 w fun t16x12 w =>
  Cl P 22 #[(.int .i64 0), (.int .i64 1)] w (Pk R) fun t56x2 w =>
  Bs P 23 1 [(0, t56x2)] w fun t57x7 w =>
  Cl P 14 #[t55, t57x7] w (Pk R) fun t58x14 w =>
  ExP t58x14 0 fun t59x14 =>
  ExP t58x14 1 fun t60x14 =>
  ExP t58x14 2 fun t61x14 =>
  Sto P 30 t15x9 t59x14 w fun w =>
  Sto P 30 t16x12 t60x14 w fun w =>
  k1 t61x14 w)) ∧
  (Al P 30 w.drew fun t16x13 w =>
  (Cl P 22 #[(.int .i64 0), (.int .i64 1)] w (Pk R) fun t56x3 w =>
  (Bs P 23 1 [(0, t56x3)] w fun t57x8 w =>
  (Cl P 14 #[t55, t57x8] w (Pk R) fun t58x15 w =>
  ExP t58x15 0 fun t59x15 =>
  ExP t58x15 1 fun t60x15 =>
  ExP t58x15 2 fun t61x15 =>
  Al P 30 w fun t15x10 w =>
  Sto P 30 t15x10 t59x15 w fun w =>
  Sto P 30 t16x13 t60x15 w fun w =>
  k1 t61x15 w) ∧
  (Al P 30 w fun t15x11 w =>
  Cl P 14 #[t55, t57x8] w (Pk R) fun t58x16 w =>
  ExP t58x16 0 fun t59x16 =>
  ExP t58x16 1 fun t60x16 =>
  ExP t58x16 2 fun t61x16 =>
  Sto P 30 t15x11 t59x16 w fun w =>
  Sto P 30 t16x13 t60x16 w fun w =>
  k1 t61x16 w)) ∧
  (Al P 30 w fun t15x12 w =>
  Bs P 23 1 [(0, t56x3)] w fun t57x9 w =>
  Cl P 14 #[t55, t57x9] w (Pk R) fun t58x17 w =>
  ExP t58x17 0 fun t59x17 =>
  ExP t58x17 1 fun t60x17 =>
  ExP t58x17 2 fun t61x17 =>
  Sto P 30 t15x12 t59x17 w fun w =>
  Sto P 30 t16x13 t60x17 w fun w =>
  k1 t61x17 w)) ∧
  (Al P 30 w fun t15x13 w =>
  Cl P 22 #[(.int .i64 0), (.int .i64 1)] w (Pk R) fun t56x4 w =>
  Bs P 23 1 [(0, t56x4)] w fun t57x10 w =>
  Cl P 14 #[t55, t57x10] w (Pk R) fun t58x18 w =>
  ExP t58x18 0 fun t59x18 =>
  ExP t58x18 1 fun t60x18 =>
  ExP t58x18 2 fun t61x18 =>
  Sto P 30 t15x13 t59x18 w fun w =>
  Sto P 30 t16x13 t60x18 w fun w =>
  k1 t61x18 w))))
  (fun t17 w =>
  Sc P 23 t26 none (some (.int .i64 1)) none w fun t65 w =>
  Cl P 16 #[t23, t65] w (Pk R) fun t66 w =>
  Ex t66 0 w fun t67 w =>
  Ex t66 1 w fun t68 w =>
  Al P 30 w fun t18 w =>
  Sto P 30 t18 t67 w fun w =>
  Bn P .eql 31 true t33 (.int .i64 0) w fun t70 w =>
  Gd t70 true (fun k => k t39 w) w fun t72 w =>
  Gd t70 true (fun k => Bn P .eql 31 true t72 (.int .i64 0) w k) w fun t73 w =>
  Pick t70 t73 (.bool false) w fun t74 w =>
  Gd t74 true (fun k => k t47 w) w fun t76 w =>
  Gd t74 true (fun k => Bn P .eql 31 true t76 (.int .i64 0) w k) w fun t77 w =>
  Pick t74 t77 (.bool false) w fun t78 w =>
  Gd t78 true (fun k => k t52 w) w fun t80 w =>
  Gd t78 true (fun k => Bn P .eql 31 true t80 (.int .i64 0) w k) w fun t81 w =>
  Pick t78 t81 (.bool false) w fun t82 w =>
  Gd t82 true (fun k => k t17 w) w fun t84 w =>
  Gd t82 true (fun k => Bn P .eql 31 true t84 (.int .i64 160) w k) w fun t85 w =>
  Pick t82 t85 (.bool false) w fun t86 w =>
  Gd t86 true (fun k => k t68 w) w fun t88 w =>
  Gd t86 true (fun k => Bn P .eql 31 true t88 (.int .i64 160) w k) w fun t89 w =>
  Pick t86 t89 (.bool false) w fun t90 w =>
  GdP t90 true (fun k => Dv P false (Instr.loadAt 30 t3) w.drew k) fun t93 =>
  Gd t90 true (fun k => Cl P 22 #[(.int .i64 26), (.int .i64 1)] w.drew (Pk R) k) w.drew fun t94 w =>
  Kg t90 true P (Instr.loadAt 30 t3) t93 w <|
  GdP t90 true (fun k => Dv P false (bn .eql 30 false t93 t94) w k) fun t95 =>
  PickP t90 t95 (.bool false) fun t96 =>
  GdP t96 true (fun k => Dv P false (Instr.loadAt 30 t4) w k) fun t98 =>
  Gd t96 true (fun k => Cl P 22 #[(.int .i64 318), (.int .i64 1)] w (Pk R) k) w fun t99 w =>
  Kg t96 true P (Instr.loadAt 30 t4) t98 w <|
  GdP t96 true (fun k => Dv P false (bn .eql 30 false t98 t99) w k) fun t100 =>
  PickP t96 t100 (.bool false) fun t101 =>
  GdP t101 true (fun k => Dv P false (Instr.loadAt 30 t6) w k) fun t103 =>
  Gd t101 true (fun k => Cl P 22 #[(.int .i64 84), (.int .i64 1)] w (Pk R) k) w fun t104 w =>
  Kg t101 true P (Instr.loadAt 30 t6) t103 w <|
  GdP t101 true (fun k => Dv P false (bn .eql 30 false t103 t104) w k) fun t105 =>
  PickP t101 t105 (.bool false) fun t106 =>
  GdP t106 true (fun k => Dv P false (Instr.loadAt 30 t8) w k) fun t108 =>
  Gd t106 true (fun k => Cl P 22 #[(.int .i64 8), (.int .i64 1)] w (Pk R) k) w fun t109 w =>
  Kg t106 true P (Instr.loadAt 30 t8) t108 w <|
  GdP t106 true (fun k => Dv P false (bn .eql 30 false t108 t109) w k) fun t110 =>
  PickP t106 t110 (.bool false) fun t111 =>
  GdP t111 true (fun k => Dv P false (Instr.loadAt 30 t9) w k) fun t113 =>
  Gd t111 true (fun k => Cl P 22 #[(.int .i64 84), (.int .i64 1)] w (Pk R) k) w fun t114 w =>
  Kg t111 true P (Instr.loadAt 30 t9) t113 w <|
  GdP t111 true (fun k => Dv P false (bn .eql 30 false t113 t114) w k) fun t115 =>
  PickP t111 t115 (.bool false) fun t116 =>
  GdP t116 true (fun k => Dv P false (Instr.loadAt 30 t10) w k) fun t118 =>
  Gd t116 true (fun k => Cl P 22 #[(.int .i64 84), (.int .i64 1)] w (Pk R) k) w fun t119 w =>
  Kg t116 true P (Instr.loadAt 30 t10) t118 w <|
  GdP t116 true (fun k => Dv P false (bn .eql 30 false t118 t119) w k) fun t120 =>
  PickP t116 t120 (.bool false) fun t121 =>
  GdP t121 true (fun k => Dv P false (Instr.loadAt 30 t12) w k) fun t123 =>
  Gd t121 true (fun k => Cl P 22 #[(.int .i64 0), (.int .i64 1)] w (Pk R) k) w fun t124 w =>
  Kg t121 true P (Instr.loadAt 30 t12) t123 w <|
  GdP t121 true (fun k => Dv P false (bn .eql 30 false t123 t124) w k) fun t125 =>
  PickP t121 t125 (.bool false) fun t126 =>
  GdP t126 true (fun k => Dv P false (Instr.loadAt 30 t13) w k) fun t128 =>
  Gd t126 true (fun k => Cl P 22 #[(.int .i64 0), (.int .i64 1)] w (Pk R) k) w fun t129 w =>
  Kg t126 true P (Instr.loadAt 30 t13) t128 w <|
  GdP t126 true (fun k => Dv P false (bn .eql 30 false t128 t129) w k) fun t130 =>
  PickP t126 t130 (.bool false) fun t131 =>
  GdP t131 true (fun k => Dv P false (Instr.loadAt 30 t3) w k) fun t133 =>
  Gd t131 true (fun k => Cl P 28 #[t133] w (Pk R) k) w fun t134 w =>
  PickP t131 t134 (.bool false) fun t135 =>
  R (.returned t135) w)
theorem e_law16_sane {w : World} {R : Ending → World → Prop} (h : s_law16_sane Tryz.prog  w R) : Calls Tryz.prog 11 #[] w R :=
  enter (h := (.sq .z (.sq .z (.sq .z (.sq .z (.sq .z (.sq .z (.sq .z (.jn [17] [15, 16, 53, 54, 55, 56, 57, 58, 59, 60, 61] (.dr (.pur true 0 (.pur true 1 (.alt (.eff 2 [] (.alt (.eff 3 [] (.alt (.eff 4 [] (.pur true 5 (.pur true 6 (.pur true 7 (.pur true 8 (.alt (.eff 9 [] (.eff 10 [] (.eff 11 [] (.eff 12 [] (.pur true 13 .done))))) (.eff 10 [] (.eff 9 [] (.eff 11 [] (.eff 12 [] (.pur true 13 .done))))))))))) (.alt (.eff 9 [] (.alt (.eff 4 [] (.pur true 5 (.pur true 6 (.pur true 7 (.pur true 8 (.eff 10 [] (.eff 11 [] (.eff 12 [] (.pur true 13 .done))))))))) (.eff 10 [] (.eff 4 [] (.pur true 5 (.pur true 6 (.pur true 7 (.pur true 8 (.eff 11 [] (.eff 12 [] (.pur true 13 .done))))))))))) (.eff 10 [] (.alt (.eff 4 [] (.pur true 5 (.pur true 6 (.pur true 7 (.pur true 8 (.eff 9 [] (.eff 11 [] (.eff 12 [] (.pur true 13 .done))))))))) (.eff 9 [] (.eff 4 [] (.pur true 5 (.pur true 6 (.pur true 7 (.pur true 8 (.eff 11 [] (.eff 12 [] (.pur true 13 .done)))))))))))))) (.alt (.eff 9 [] (.alt (.eff 3 [] (.alt (.eff 4 [] (.pur true 5 (.pur true 6 (.pur true 7 (.pur true 8 (.eff 10 [] (.eff 11 [] (.eff 12 [] (.pur true 13 .done))))))))) (.eff 10 [] (.eff 4 [] (.pur true 5 (.pur true 6 (.pur true 7 (.pur true 8 (.eff 11 [] (.eff 12 [] (.pur true 13 .done))))))))))) (.eff 10 [] (.eff 3 [] (.eff 4 [] (.pur true 5 (.pur true 6 (.pur true 7 (.pur true 8 (.eff 11 [] (.eff 12 [] (.pur true 13 .done)))))))))))) (.eff 10 [] (.alt (.eff 3 [] (.alt (.eff 4 [] (.pur true 5 (.pur true 6 (.pur true 7 (.pur true 8 (.eff 9 [] (.eff 11 [] (.eff 12 [] (.pur true 13 .done))))))))) (.eff 9 [] (.eff 4 [] (.pur true 5 (.pur true 6 (.pur true 7 (.pur true 8 (.eff 11 [] (.eff 12 [] (.pur true 13 .done))))))))))) (.eff 9 [] (.eff 3 [] (.eff 4 [] (.pur true 5 (.pur true 6 (.pur true 7 (.pur true 8 (.eff 11 [] (.eff 12 [] (.pur true 13 .done))))))))))))))) (.alt (.eff 9 [] (.alt (.eff 2 [] (.alt (.eff 3 [] (.alt (.eff 4 [] (.pur true 5 (.pur true 6 (.pur true 7 (.pur true 8 (.eff 10 [] (.eff 11 [] (.eff 12 [] (.pur true 13 .done))))))))) (.eff 10 [] (.eff 4 [] (.pur true 5 (.pur true 6 (.pur true 7 (.pur true 8 (.eff 11 [] (.eff 12 [] (.pur true 13 .done))))))))))) (.eff 10 [] (.eff 3 [] (.eff 4 [] (.pur true 5 (.pur true 6 (.pur true 7 (.pur true 8 (.eff 11 [] (.eff 12 [] (.pur true 13 .done)))))))))))) (.eff 10 [] (.eff 2 [] (.eff 3 [] (.eff 4 [] (.pur true 5 (.pur true 6 (.pur true 7 (.pur true 8 (.eff 11 [] (.eff 12 [] (.pur true 13 .done))))))))))))) (.eff 10 [] (.alt (.eff 2 [] (.alt (.eff 3 [] (.alt (.eff 4 [] (.pur true 5 (.pur true 6 (.pur true 7 (.pur true 8 (.eff 9 [] (.eff 11 [] (.eff 12 [] (.pur true 13 .done))))))))) (.eff 9 [] (.eff 4 [] (.pur true 5 (.pur true 6 (.pur true 7 (.pur true 8 (.eff 11 [] (.eff 12 [] (.pur true 13 .done))))))))))) (.eff 9 [] (.eff 3 [] (.eff 4 [] (.pur true 5 (.pur true 6 (.pur true 7 (.pur true 8 (.eff 11 [] (.eff 12 [] (.pur true 13 .done)))))))))))) (.eff 9 [] (.eff 2 [] (.eff 3 [] (.eff 4 [] (.pur true 5 (.pur true 6 (.pur true 7 (.pur true 8 (.eff 11 [] (.eff 12 [] (.pur true 13 .done)))))))))))))))))) (.sq .z (.sq .z (.sq (.dr (.pur true 0 (.pur true 1 (.pur false 2 (.eff 3 [2] (.pur false 4 (.pur true 5 (.pur true 6 (.pur false 7 (.eff 8 [7] (.pur false 9 (.pur true 10 (.pur true 11 (.pur false 12 (.eff 13 [12] (.pur false 14 (.pur true 15 (.pur true 16 (.pur false 17 (.eff 18 [17] (.pur false 19 (.pur true 20 (.pur true 21 (.pur false 22 (.eff 23 [22] (.pur false 24 (.pur true 25 (.pur true 26 (.pur false 27 (.eff 28 [27] (.pur false 29 (.pur true 30 (.pur true 31 (.pur false 32 (.eff 33 [32] (.pur false 34 (.pur true 35 (.pur true 36 (.pur false 37 (.eff 38 [37] (.pur false 39 (.pur true 40 (.pur true 41 (.pur false 42 (.eff 43 [] (.pur true 44 (.pur true 45 .done))))))))))))))))))))))))))))))))))))))))))))))) .z)))))))))))) (args := []) Tryz.func11 (by kernel_rfl) (by kernel_rfl) (by kernel_rfl) (Eq.mp (by kernel_rfl) h)
theorem n_law16_sane : Enters Tryz.prog 11 := enters_of Tryz.func11 (by kernel_rfl) rfl
def s_ref16_Made (P : Program) (t0 t1 : Value) (w : World) (R : Ending → World → Prop) : Prop :=
  Lp3 (.slice none 0 0) (.slice none 0 0) (.int .i64 0) w (fun t6 t7 t8 w k1 =>
  Bt P .len #[22] 3 #[t0] w fun t16 w =>
  Bn P .lss 3 false t8 t16 w fun t17 w =>
  Gd t17 true (fun k => k t8 w) w fun t19 w =>
  Gd t17 true (fun k => k t1 w) w fun t20 w =>
  Gd t17 true (fun k => Bn P .lss 3 false t19 t20 w k) w fun t21 w =>
  Pick t17 t21 (.bool false) w fun t22 w =>
  If t22
  (Ia P 22 t0 t8 w fun t27 w =>
  Ia P 53 t27 (.int .i64 1) w fun t28 w =>
  Ld P 3 t28 w fun t29 w =>
  Cl P 29 #[t29, (.int .i64 10)] w (Pk R) fun t30 w =>
  Bn P .add 3 true (.int .i64 1) t30 w fun t31 w =>
  Jn2 (fun k2 =>
  Dv P true (Instr.indexAt 22 t0 t8) w.drew fun t35 =>
  Dv P true (Instr.indexAt 53 t35 (.int .i64 0)) w.drew fun t36 =>
  Dv P false (Instr.loadAt 3 t36) w.drew fun t37 =>
  Dv P true (Instr.indexAt 22 t0 t8) w.drew fun t42 =>
  Dv P true (Instr.indexAt 53 t42 (.int .i64 0)) w.drew fun t43 =>
  Dv P false (Instr.loadAt 3 t43) w.drew fun t44 =>
  Dv P true (bn .quo 3 true t44 (.int .i64 41)) w.drew fun t45 =>
  (Cl P 29 #[t37, (.int .i64 41)] w.drew (Pk R) fun t38 w =>
  Ke P (Instr.loadAt 3 t43) t44 w <|
  Dv P true (bn .sub 3 true t38 (.int .i64 10)) w fun t39 =>
  (Cl P 29 #[t45, (.int .i64 3)] w (Pk R) fun t46 w =>
  Dv P true (bn .add 3 true (.int .i64 1) t46) w fun t47 =>
  (Cl P 30 #[t39, t47] w (Pk R) fun t48 w =>
  ExP t48 0 fun t49 =>
  ExP t48 1 fun t50 =>
  Al P 30 w fun t10 w =>
  Ke P (Instr.loadAt 3 t36) t37 w <|
  Ke P (Instr.loadAt 3 t43) t44 w <|
  Sto P 30 t10 t49 w fun w =>
  k2 t10 t50 w) ∧
  (Al P 30 w fun t10x1 w =>
  Ke P (Instr.loadAt 3 t36) t37 w <|
  Ke P (Instr.loadAt 3 t43) t44 w <|
  Cl P 30 #[t39, t47] w (Pk R) fun t48x1 w =>
  ExP t48x1 0 fun t49x1 =>
  ExP t48x1 1 fun t50x1 =>
  Sto P 30 t10x1 t49x1 w fun w =>
  k2 t10x1 t50x1 w)) ∧
  (Al P 30 w fun t10x2 w =>
  Ke P (Instr.loadAt 3 t36) t37 w <|
  Ke P (Instr.loadAt 3 t43) t44 w <|
  Cl P 29 #[t45, (.int .i64 3)] w (Pk R) fun t46x1 w =>
  Dv P true (bn .add 3 true (.int .i64 1) t46x1) w fun t47x1 =>
  Cl P 30 #[t39, t47x1] w (Pk R) fun t48x2 w =>
  ExP t48x2 0 fun t49x2 =>
  ExP t48x2 1 fun t50x2 =>
  Sto P 30 t10x2 t49x2 w fun w =>
  k2 t10x2 t50x2 w)) ∧
  (Al P 30 w.drew fun t10x3 w =>
  Ke P (Instr.loadAt 3 t36) t37 w <|
  Ke P (Instr.loadAt 3 t43) t44 w <|
  Cl P 29 #[t37, (.int .i64 41)] w (Pk R) fun t38x1 w =>
  Ke P (Instr.loadAt 3 t43) t44 w <|
  Dv P true (bn .sub 3 true t38x1 (.int .i64 10)) w fun t39x1 =>
  Cl P 29 #[t45, (.int .i64 3)] w (Pk R) fun t46x2 w =>
  Dv P true (bn .add 3 true (.int .i64 1) t46x2) w fun t47x2 =>
  Cl P 30 #[t39x1, t47x2] w (Pk R) fun t48x3 w =>
  ExP t48x3 0 fun t49x3 =>
  ExP t48x3 1 fun t50x3 =>
  Sto P 30 t10x3 t49x3 w fun w =>
  k2 t10x3 t50x3 w))
  (fun t10x4 t11 w =>
  Ia P 22 t0 t8 w fun t54 w =>
  Ia P 53 t54 (.int .i64 2) w fun t55 w =>
  Ld P 3 t55 w fun t56 w =>
  Cl P 29 #[t56, t31] w (Pk R) fun t58 w =>
  Bn P .add 3 true (.int .i64 1) t58 w fun t59 w =>
  Cl P 30 #[t59, t31] w (Pk R) fun t61 w =>
  Ex t61 0 w fun t62 w =>
  Ex t61 1 w fun t63 w =>
  Al P 30 w fun t12 w =>
  Sto P 30 t12 t62 w fun w =>
  Bn P .eql 31 true t11 (.int .i64 0) w fun t65 w =>
  Gd t65 true (fun k => k t63 w) w fun t67 w =>
  Gd t65 true (fun k => Bn P .eql 31 true t67 (.int .i64 0) w k) w fun t68 w =>
  Pick t65 t68 (.bool false) w fun t69 w =>
  If t69
  (Ld P 30 t10x4 w fun t71 w =>
  Bs P 23 1 [(0, t71)] w fun t72 w =>
  Bt P .append #[23, 23] 23 #[t6, t72] w fun t73 w =>
  Ld P 30 t12 w fun t75 w =>
  Bs P 23 1 [(0, t75)] w fun t76 w =>
  Bt P .append #[23, 23] 23 #[t7, t76] w fun t77 w =>
  Bn P .add 3 true t8 (.int .i64 1) w fun t24 w =>
  k1 t73 t77 t24 w)
  (Bn P .add 3 true t8 (.int .i64 1) w fun t24x1 w =>
  k1 t6 t7 t24x1 w)))
  (R (.returned (.tuple #[t6, t7])) w))
theorem e_ref16_Made {t0 t1 : Value} {w : World} {R : Ending → World → Prop} (h : s_ref16_Made Tryz.prog t0 t1 w R) : Calls Tryz.prog 12 #[t0, t1] w R :=
  enter (h := (.sq .z (.sq .z (.sq .z (.sq (.sq .z (.bk (.lp [6, 7, 8] [9, 10, 11, 12, 13, 14, 15, 16, 17, 18, 19, 20, 21, 22, 23, 24, 25, 26, 27, 28, 29, 30, 31, 32, 33, 34, 35, 36, 37, 38, 39, 40, 41, 42, 43, 44, 45, 46, 47, 48, 49, 50, 51, 52, 53, 54, 55, 56, 57, 58, 59, 60, 61, 62, 63, 64, 65, 66, 67, 68, 69, 70, 71, 72, 73, 74, 75, 76, 77] (.sq (.sq .z (.cd .z .z)) (.sq (.bk (.sq .z (.jn [10, 11] [32, 33, 34, 35, 36, 37, 38, 39, 40, 41, 42, 43, 44, 45, 46, 47, 48, 49, 50] (.dr (.pur true 0 (.pur true 1 (.pur true 2 (.pur true 3 (.pur false 4 (.pur true 7 (.pur true 8 (.pur true 9 (.pur true 10 (.pur false 11 (.pur true 12 (.alt (.eff 5 [11] (.pur true 6 (.alt (.eff 13 [] (.pur true 14 (.alt (.eff 15 [] (.pur true 16 (.pur true 17 (.pur true 18 (.eff 19 [4, 11] (.eff 20 [] (.pur true 21 .done))))))) (.eff 19 [4, 11] (.eff 15 [] (.pur true 16 (.pur true 17 (.pur true 18 (.eff 20 [] (.pur true 21 .done)))))))))) (.eff 19 [4, 11] (.eff 13 [] (.pur true 14 (.eff 15 [] (.pur true 16 (.pur true 17 (.pur true 18 (.eff 20 [] (.pur true 21 .done)))))))))))) (.eff 19 [4, 11] (.eff 5 [11] (.pur true 6 (.eff 13 [] (.pur true 14 (.eff 15 [] (.pur true 16 (.pur true 17 (.pur true 18 (.eff 20 [] (.pur true 21 .done)))))))))))))))))))))))) (.sq .z (.sq .z (.cd (.sq .z .z) .z)))))) .z))))) (.sq .z .z)))))) (args := [t0, t1]) Tryz.func12 (by kernel_rfl) (by kernel_rfl) (by kernel_rfl) (Eq.mp (by kernel_rfl) h)
theorem n_ref16_Made : Enters Tryz.prog 12 := enters_of Tryz.func12 (by kernel_rfl) rfl
def s_estimate_Total (P : Program) (t0 t1 : Value) (w : World) (R : Ending → World → Prop) : Prop :=
  Al P 30 w fun t4 w =>
  Al P 30 w fun t5 w =>
  Cl P 31 #[t0, t1] w (Pk R) fun t15 w =>
  Ex t15 0 w fun t16 w =>
  Ex t15 1 w fun t17 w =>
  Al P 61 w fun t9 w =>
  Cl P 32 #[t9, t16] w (Pk R) fun t19 w =>
  Cl P 33 #[t9, t16] w (Pk R) fun t21 w =>
  Al P 30 w fun t10 w =>
  Al P 30 w fun t11 w =>
  Sto P 30 t10 t19 w fun w =>
  Sto P 30 t11 t21 w fun w =>
  Un P .not t17 w fun t23 w =>
  Gd t23 false (fun k => Fa P 61 t9 0 w k) w fun t25 w =>
  Gd t23 false (fun k => Fa P 59 t25 0 w k) w fun t26 w =>
  Gd t23 false (fun k => Ld P 4 t26 w k) w fun t27 w =>
  Pick t23 (.bool true) t27 w fun t28 w =>
  If t28
  (Bd P 30 [] w fun t29 w =>
  Bd P 30 [] w fun t30 w =>
  Sto P 30 t4 t29 w fun w =>
  Sto P 30 t5 t30 w fun w =>
  Rc P 30 t4 w fun r0 =>
  Rc P 30 t5 w fun r1 =>
  R (.returned (.tuple #[r0, r1, (.int .i64 160)])) w)
  (Dv P false (Instr.loadAt 30 t10) w.drew fun t31 =>
  Dv P false (Instr.loadAt 30 t11) w.drew fun t32 =>
  Sto P 30 t4 t31 w.drew fun w =>
  Ke P (Instr.loadAt 30 t11) t32 w <|
  Sto P 30 t5 t32 w fun w =>
  Rc P 30 t4 w fun r0 =>
  Rc P 30 t5 w fun r1 =>
  R (.returned (.tuple #[r0, r1, (.int .i64 0)])) w)
theorem e_estimate_Total {t0 t1 : Value} {w : World} {R : Ending → World → Prop} (h : s_estimate_Total Tryz.prog t0 t1 w R) : Calls Tryz.prog 14 #[t0, t1] w R :=
  enter (h := (.sq .z (.sq .z (.sq .z (.sq .z (.sq (.sq .z (.cd (.sq .z .z) .z)) (.sq (.dr (.pur false 0 (.pur false 1 (.eff 2 [1] (.eff 3 [] (.pur true 4 .done)))))) .z))))))) (args := [t0, t1]) Tryz.func14 (by kernel_rfl) (by kernel_rfl) (by kernel_rfl) (Eq.mp (by kernel_rfl) h)
theorem n_estimate_Total : Enters Tryz.prog 14 := enters_of Tryz.func14 (by kernel_rfl) rfl
def s_estimate_Variance (P : Program) (t0 t1 : Value) (w : World) (R : Ending → World → Prop) : Prop :=
  Al P 30 w fun t4 w =>
  Cl P 31 #[t0, t1] w (Pk R) fun t13 w =>
  Ex t13 0 w fun t14 w =>
  Ex t13 1 w fun t15 w =>
  Al P 61 w fun t8 w =>
  Ld P 30 (.pointer (some ⟨0, 0, none⟩)) w fun t17 w =>
  Cl P 37 #[t14, t17, t8, (.func (.func 38) #[] #[t8])] w (Pk R) fun t19 w =>
  Al P 30 w fun t9 w =>
  Sto P 30 t9 t19 w fun w =>
  Un P .not t15 w fun t21 w =>
  Gd t21 false (fun k => Fa P 61 t8 0 w k) w fun t23 w =>
  Gd t21 false (fun k => Fa P 59 t23 0 w k) w fun t24 w =>
  Gd t21 false (fun k => Ld P 4 t24 w k) w fun t25 w =>
  Pick t21 (.bool true) t25 w fun t26 w =>
  If t26
  (Bd P 30 [] w fun t27 w =>
  Sto P 30 t4 t27 w fun w =>
  Rc P 30 t4 w fun r0 =>
  R (.returned (.tuple #[r0, (.int .i64 160)])) w)
  (Ld P 30 t9 w fun t28 w =>
  Sto P 30 t4 t28 w fun w =>
  Rc P 30 t4 w fun r0 =>
  R (.returned (.tuple #[r0, (.int .i64 0)])) w)
theorem e_estimate_Variance {t0 t1 : Value} {w : World} {R : Ending → World → Prop} (h : s_estimate_Variance Tryz.prog t0 t1 w R) : Calls Tryz.prog 16 #[t0, t1] w R :=
  enter (h := (.sq .z (.sq .z (.sq .z (.sq .z (.sq (.sq .z (.cd (.sq .z .z) .z)) (.sq .z .z))))))) (args := [t0, t1]) Tryz.func16 (by kernel_rfl) (by kernel_rfl) (by kernel_rfl) (Eq.mp (by kernel_rfl) h)
theorem n_estimate_Variance : Enters Tryz.prog 16 := enters_of Tryz.func16 (by kernel_rfl) rfl
def s_estimate_Expect (P : Program) (t0 t1 : Value) (w : World) (R : Ending → World → Prop) : Prop :=
  Al P 30 w fun t4 w =>
  Al P 30 w fun t5 w =>
  Al P 30 w fun t6 w =>
  Cl P 31 #[t0, t1] w (Pk R) fun t22 w =>
  Ex t22 0 w fun t23 w =>
  Ex t22 1 w fun t24 w =>
  Un P .not t24 w fun t26 w =>
  Gd t26 false (fun k => k t23 w) w fun t28 w =>
  Gd t26 false (fun k => Bt P .len #[55] 3 #[t28] w k) w fun t29 w =>
  Gd t26 false (fun k => Bn P .gtr 3 true t29 (.int .i64 10) w k) w fun t30 w =>
  Pick t26 (.bool true) t30 w fun t31 w =>
  If t31
  (Bd P 30 [] w fun t32 w =>
  Bd P 30 [] w fun t33 w =>
  Bd P 30 [] w fun t34 w =>
  Sto P 30 t4 t32 w fun w =>
  Sto P 30 t5 t33 w fun w =>
  Sto P 30 t6 t34 w fun w =>
  Rc P 30 t4 w fun r0 =>
  Rc P 30 t5 w fun r1 =>
  Rc P 30 t6 w fun r2 =>
  R (.returned (.tuple #[r0, r1, r2, (.int .i64 160)])) w)
  (Al P 61 w fun t10 w =>
  Jn3 (fun k1 =>
  Dv P false (Instr.loadAt 30 (.pointer (some ⟨0, 0, none⟩))) w.drew fun t35 =>
  Dv P false (Instr.loadAt 30 (.pointer (some ⟨0, 0, none⟩))) w.drew fun t36 =>
  Dv P false (Instr.loadAt 30 (.pointer (some ⟨0, 0, none⟩))) w.drew fun t37 =>
  (Al P 30 w.drew fun t11 w =>
  Ke P (Instr.loadAt 30 (.pointer (some ⟨0, 0, none⟩))) t35 w <|
  Ke P (Instr.loadAt 30 (.pointer (some ⟨0, 0, none⟩))) t36 w <|
  Ke P (Instr.loadAt 30 (.pointer (some ⟨0, 0, none⟩))) t37 w <|
  (Al P 30 w fun t12 w =>
  Ke P (Instr.loadAt 30 (.pointer (some ⟨0, 0, none⟩))) t35 w <|
  Ke P (Instr.loadAt 30 (.pointer (some ⟨0, 0, none⟩))) t36 w <|
  Ke P (Instr.loadAt 30 (.pointer (some ⟨0, 0, none⟩))) t37 w <|
  Al P 30 w fun t13 w =>
  Ke P (Instr.loadAt 30 (.pointer (some ⟨0, 0, none⟩))) t35 w <|
  Ke P (Instr.loadAt 30 (.pointer (some ⟨0, 0, none⟩))) t36 w <|
  Ke P (Instr.loadAt 30 (.pointer (some ⟨0, 0, none⟩))) t37 w <|
  Sto P 30 t11 t35 w fun w =>
  Ke P (Instr.loadAt 30 (.pointer (some ⟨0, 0, none⟩))) t36 w <|
  Ke P (Instr.loadAt 30 (.pointer (some ⟨0, 0, none⟩))) t37 w <|
  Sto P 30 t12 t36 w fun w =>
  Ke P (Instr.loadAt 30 (.pointer (some ⟨0, 0, none⟩))) t37 w <|
  Sto P 30 t13 t37 w fun w =>
  k1 t11 t12 t13 w) ∧
  (Al P 30 w fun t13x1 w =>
  Ke P (Instr.loadAt 30 (.pointer (some ⟨0, 0, none⟩))) t35 w <|
  Ke P (Instr.loadAt 30 (.pointer (some ⟨0, 0, none⟩))) t36 w <|
  Ke P (Instr.loadAt 30 (.pointer (some ⟨0, 0, none⟩))) t37 w <|
  Al P 30 w fun t12x1 w =>
  Ke P (Instr.loadAt 30 (.pointer (some ⟨0, 0, none⟩))) t35 w <|
  Ke P (Instr.loadAt 30 (.pointer (some ⟨0, 0, none⟩))) t36 w <|
  Ke P (Instr.loadAt 30 (.pointer (some ⟨0, 0, none⟩))) t37 w <|
  Sto P 30 t11 t35 w fun w =>
  Ke P (Instr.loadAt 30 (.pointer (some ⟨0, 0, none⟩))) t36 w <|
  Ke P (Instr.loadAt 30 (.pointer (some ⟨0, 0, none⟩))) t37 w <|
  Sto P 30 t12x1 t36 w fun w =>
  Ke P (Instr.loadAt 30 (.pointer (some ⟨0, 0, none⟩))) t37 w <|
  Sto P 30 t13x1 t37 w fun w =>
  k1 t11 t12x1 t13x1 w)) ∧
  ((Al P 30 w.drew fun t12x2 w =>
  Ke P (Instr.loadAt 30 (.pointer (some ⟨0, 0, none⟩))) t35 w <|
  Ke P (Instr.loadAt 30 (.pointer (some ⟨0, 0, none⟩))) t36 w <|
  Ke P (Instr.loadAt 30 (.pointer (some ⟨0, 0, none⟩))) t37 w <|
  (Al P 30 w fun t11x1 w =>
  Ke P (Instr.loadAt 30 (.pointer (some ⟨0, 0, none⟩))) t35 w <|
  Ke P (Instr.loadAt 30 (.pointer (some ⟨0, 0, none⟩))) t36 w <|
  Ke P (Instr.loadAt 30 (.pointer (some ⟨0, 0, none⟩))) t37 w <|
  Al P 30 w fun t13x2 w =>
  Ke P (Instr.loadAt 30 (.pointer (some ⟨0, 0, none⟩))) t35 w <|
  Ke P (Instr.loadAt 30 (.pointer (some ⟨0, 0, none⟩))) t36 w <|
  Ke P (Instr.loadAt 30 (.pointer (some ⟨0, 0, none⟩))) t37 w <|
  Sto P 30 t11x1 t35 w fun w =>
  Ke P (Instr.loadAt 30 (.pointer (some ⟨0, 0, none⟩))) t36 w <|
  Ke P (Instr.loadAt 30 (.pointer (some ⟨0, 0, none⟩))) t37 w <|
  Sto P 30 t12x2 t36 w fun w =>
  Ke P (Instr.loadAt 30 (.pointer (some ⟨0, 0, none⟩))) t37 w <|
  Sto P 30 t13x2 t37 w fun w =>
  k1 t11x1 t12x2 t13x2 w) ∧
  (Al P 30 w fun t13x3 w =>
  Ke P (Instr.loadAt 30 (.pointer (some ⟨0, 0, none⟩))) t35 w <|
  Ke P (Instr.loadAt 30 (.pointer (some ⟨0, 0, none⟩))) t36 w <|
  Ke P (Instr.loadAt 30 (.pointer (some ⟨0, 0, none⟩))) t37 w <|
  Al P 30 w fun t11x2 w =>
  Ke P (Instr.loadAt 30 (.pointer (some ⟨0, 0, none⟩))) t35 w <|
  Ke P (Instr.loadAt 30 (.pointer (some ⟨0, 0, none⟩))) t36 w <|
  Ke P (Instr.loadAt 30 (.pointer (some ⟨0, 0, none⟩))) t37 w <|
  Sto P 30 t11x2 t35 w fun w =>
  Ke P (Instr.loadAt 30 (.pointer (some ⟨0, 0, none⟩))) t36 w <|
  Ke P (Instr.loadAt 30 (.pointer (some ⟨0, 0, none⟩))) t37 w <|
  Sto P 30 t12x2 t36 w fun w =>
  Ke P (Instr.loadAt 30 (.pointer (some ⟨0, 0, none⟩))) t37 w <|
  Sto P 30 t13x3 t37 w fun w =>
  k1 t11x2 t12x2 t13x3 w)) ∧
  (Al P 30 w.drew fun t13x4 w =>
  Ke P (Instr.loadAt 30 (.pointer (some ⟨0, 0, none⟩))) t35 w <|
  Ke P (Instr.loadAt 30 (.pointer (some ⟨0, 0, none⟩))) t36 w <|
  Ke P (Instr.loadAt 30 (.pointer (some ⟨0, 0, none⟩))) t37 w <|
  (Al P 30 w fun t11x3 w =>
  Ke P (Instr.loadAt 30 (.pointer (some ⟨0, 0, none⟩))) t35 w <|
  Ke P (Instr.loadAt 30 (.pointer (some ⟨0, 0, none⟩))) t36 w <|
  Ke P (Instr.loadAt 30 (.pointer (some ⟨0, 0, none⟩))) t37 w <|
  Al P 30 w fun t12x3 w =>
  Ke P (Instr.loadAt 30 (.pointer (some ⟨0, 0, none⟩))) t35 w <|
  Ke P (Instr.loadAt 30 (.pointer (some ⟨0, 0, none⟩))) t36 w <|
  Ke P (Instr.loadAt 30 (.pointer (some ⟨0, 0, none⟩))) t37 w <|
  Sto P 30 t11x3 t35 w fun w =>
  Ke P (Instr.loadAt 30 (.pointer (some ⟨0, 0, none⟩))) t36 w <|
  Ke P (Instr.loadAt 30 (.pointer (some ⟨0, 0, none⟩))) t37 w <|
  Sto P 30 t12x3 t36 w fun w =>
  Ke P (Instr.loadAt 30 (.pointer (some ⟨0, 0, none⟩))) t37 w <|
  Sto P 30 t13x4 t37 w fun w =>
  k1 t11x3 t12x3 t13x4 w) ∧
  (Al P 30 w fun t12x4 w =>
  Ke P (Instr.loadAt 30 (.pointer (some ⟨0, 0, none⟩))) t35 w <|
  Ke P (Instr.loadAt 30 (.pointer (some ⟨0, 0, none⟩))) t36 w <|
  Ke P (Instr.loadAt 30 (.pointer (some ⟨0, 0, none⟩))) t37 w <|
  Al P 30 w fun t11x4 w =>
  Ke P (Instr.loadAt 30 (.pointer (some ⟨0, 0, none⟩))) t35 w <|
  Ke P (Instr.loadAt 30 (.pointer (some ⟨0, 0, none⟩))) t36 w <|
  Ke P (Instr.loadAt 30 (.pointer (some ⟨0, 0, none⟩))) t37 w <|
  Sto P 30 t11x4 t35 w fun w =>
  Ke P (Instr.loadAt 30 (.pointer (some ⟨0, 0, none⟩))) t36 w <|
  Ke P (Instr.loadAt 30 (.pointer (some ⟨0, 0, none⟩))) t37 w <|
  Sto P 30 t12x4 t36 w fun w =>
  Ke P (Instr.loadAt 30 (.pointer (some ⟨0, 0, none⟩))) t37 w <|
  Sto P 30 t13x4 t37 w fun w =>
  k1 t11x4 t12x4 t13x4 w))))
  (fun t11x5 t12x5 t13x5 w =>
  Cl P 46 #[t10, t23] w (Pk R) fun t39 w =>
  Rf2 P t39 w (fun t40 t41 w next lv =>
  Mid w fun w mid =>
  Al P 30 w fun t14 w =>
  Sto P 30 t14 t40 w fun w =>
  mid w fun w =>
  Dv P false (Instr.loadAt 30 t11x5) w.drew fun t42 =>
  Dv P false (Instr.loadAt 30 t14) w.drew fun t43 =>
  Cl P 32 #[t10, t41] w.drew (fun _ _ => False) fun t45 w =>
  Ke P (Instr.loadAt 30 t11x5) t42 w <|
  Ke P (Instr.loadAt 30 t14) t43 w <|
  Cl P 48 #[t10, t43, t45] w (fun _ _ => False) fun t46 w =>
  Ke P (Instr.loadAt 30 t11x5) t42 w <|
  Cl P 47 #[t10, t42, t46] w (fun _ _ => False) fun t47 w =>
  Sto P 30 t11x5 t47 w fun w =>
  Dv P false (Instr.loadAt 30 t12x5) w.drew fun t48 =>
  Dv P false (Instr.loadAt 30 t14) w.drew fun t49 =>
  Cl P 33 #[t10, t41] w.drew (fun _ _ => False) fun t51 w =>
  Ke P (Instr.loadAt 30 t12x5) t48 w <|
  Ke P (Instr.loadAt 30 t14) t49 w <|
  Cl P 48 #[t10, t49, t51] w (fun _ _ => False) fun t52 w =>
  Ke P (Instr.loadAt 30 t12x5) t48 w <|
  Cl P 47 #[t10, t48, t52] w (fun _ _ => False) fun t53 w =>
  Sto P 30 t12x5 t53 w fun w =>
  next w)
  (fun D1 w =>
  Cl P 46 #[t10, t23] w (fun c w => Tk P D1 w fun w => R (.panicked c) w) fun t55 w =>
  Rf2 P t55 w (fun t56 t57 w next lv =>
  Mid w fun w mid =>
  Al P 30 w fun t16 w =>
  Sto P 30 t16 t56 w fun w =>
  mid w fun w =>
  Jn1 (fun k2 =>
  Dv P false (Instr.loadAt 30 t11x5) w.drew fun t60 =>
  (Cl P 32 #[t10, t57] w.drew (fun _ _ => False) fun t59 w =>
  Ke P (Instr.loadAt 30 t11x5) t60 w <|
  (Cl P 49 #[t10, t59, t60] w (fun _ _ => False) fun t61 w =>
  Al P 30 w fun t18 w =>
  Ke P (Instr.loadAt 30 t11x5) t60 w <|
  Sto P 30 t18 t61 w fun w =>
  k2 t18 w) ∧
  (Al P 30 w fun t18x1 w =>
  Ke P (Instr.loadAt 30 t11x5) t60 w <|
  Cl P 49 #[t10, t59, t60] w (fun _ _ => False) fun t61x1 w =>
  Sto P 30 t18x1 t61x1 w fun w =>
  k2 t18x1 w)) ∧
  (Al P 30 w.drew fun t18x2 w =>
  Ke P (Instr.loadAt 30 t11x5) t60 w <|
  Cl P 32 #[t10, t57] w (fun _ _ => False) fun t59x1 w =>
  Ke P (Instr.loadAt 30 t11x5) t60 w <|
  Cl P 49 #[t10, t59x1, t60] w (fun _ _ => False) fun t61x2 w =>
  Sto P 30 t18x2 t61x2 w fun w =>
  k2 t18x2 w))
  (fun t18x3 w =>
  Dv P false (Instr.loadAt 30 t13x5) w.drew fun t62 =>
  Dv P false (Instr.loadAt 30 t16) w.drew fun t63 =>
  Dv P false (Instr.loadAt 30 t18x3) w.drew fun t64 =>
  Dv P false (Instr.loadAt 30 t18x3) w.drew fun t65 =>
  Cl P 48 #[t10, t64, t65] w.drew (fun _ _ => False) fun t66 w =>
  Ke P (Instr.loadAt 30 t13x5) t62 w <|
  Ke P (Instr.loadAt 30 t16) t63 w <|
  Cl P 48 #[t10, t63, t66] w (fun _ _ => False) fun t67 w =>
  Ke P (Instr.loadAt 30 t13x5) t62 w <|
  Cl P 47 #[t10, t62, t67] w (fun _ _ => False) fun t68 w =>
  Sto P 30 t13x5 t68 w fun w =>
  next w))
  (fun D2 w =>
  Fa P 61 t10 0 w fun t69 w =>
  Fa P 59 t69 0 w fun t70 w =>
  Ld P 4 t70 w fun t71 w =>
  If t71
  (Bd P 30 [] w fun t72 w =>
  Bd P 30 [] w fun t73 w =>
  Bd P 30 [] w fun t74 w =>
  Sto P 30 t4 t72 w fun w =>
  Sto P 30 t5 t73 w fun w =>
  Sto P 30 t6 t74 w fun w =>
  Tk P D2 w fun w =>
  Tk P D1 w fun w =>
  Rc P 30 t4 w fun r0 =>
  Rc P 30 t5 w fun r1 =>
  Rc P 30 t6 w fun r2 =>
  R (.returned (.tuple #[r0, r1, r2, (.int .i64 160)])) w)
  (Dv P false (Instr.loadAt 30 t11x5) w.drew fun t75 =>
  Dv P false (Instr.loadAt 30 t13x5) w.drew fun t76 =>
  Dv P false (Instr.loadAt 30 t12x5) w.drew fun t77 =>
  Sto P 30 t4 t75 w.drew fun w =>
  Ke P (Instr.loadAt 30 t13x5) t76 w <|
  Ke P (Instr.loadAt 30 t12x5) t77 w <|
  Sto P 30 t5 t76 w fun w =>
  Ke P (Instr.loadAt 30 t12x5) t77 w <|
  Sto P 30 t6 t77 w fun w =>
  Tk P D2 w fun w =>
  Tk P D1 w fun w =>
  Rc P 30 t4 w fun r0 =>
  Rc P 30 t5 w fun r1 =>
  Rc P 30 t6 w fun r2 =>
  R (.returned (.tuple #[r0, r1, r2, (.int .i64 0)])) w))
  (fun D2 w =>
  Tk P D2 w fun w =>
  Tk P D1 w fun w =>
  Rc P 30 t4 w fun r0 =>
  Rc P 30 t5 w fun r1 =>
  Rc P 30 t6 w fun r2 =>
  R (.returned (.tuple #[r0, r1, r2, (.int .i64 0)])) w) [])
  (fun D1 w =>
  Tk P D1 w fun w =>
  Rc P 30 t4 w fun r0 =>
  Rc P 30 t5 w fun r1 =>
  Rc P 30 t6 w fun r2 =>
  R (.returned (.tuple #[r0, r1, r2, (.int .i64 0)])) w) []))
theorem e_estimate_Expect {t0 t1 : Value} {w : World} {R : Ending → World → Prop} (h : s_estimate_Expect Tryz.prog t0 t1 w R) : Calls Tryz.prog 18 #[t0, t1] w R :=
  enter (h := (.sq .z (.sq .z (.sq (.sq .z (.cd (.sq .z .z) .z)) (.sq .z (.jn [11, 12, 13] [35, 36, 37] (.dr (.pur false 0 (.pur false 1 (.pur false 2 (.alt (.eff 3 [0, 1, 2] (.alt (.eff 4 [0, 1, 2] (.eff 5 [0, 1, 2] (.eff 6 [1, 2] (.eff 7 [2] (.eff 8 [] .done))))) (.eff 5 [0, 1, 2] (.eff 4 [0, 1, 2] (.eff 6 [1, 2] (.eff 7 [2] (.eff 8 [] .done))))))) (.alt (.eff 4 [0, 1, 2] (.alt (.eff 3 [0, 1, 2] (.eff 5 [0, 1, 2] (.eff 6 [1, 2] (.eff 7 [2] (.eff 8 [] .done))))) (.eff 5 [0, 1, 2] (.eff 3 [0, 1, 2] (.eff 6 [1, 2] (.eff 7 [2] (.eff 8 [] .done))))))) (.eff 5 [0, 1, 2] (.alt (.eff 3 [0, 1, 2] (.eff 4 [0, 1, 2] (.eff 6 [1, 2] (.eff 7 [2] (.eff 8 [] .done))))) (.eff 4 [0, 1, 2] (.eff 3 [0, 1, 2] (.eff 6 [1, 2] (.eff 7 [2] (.eff 8 [] .done))))))))))))) (.sq (.sq .z (.bk (.rf (.sq (.sq .z .z) (.bk (.sq (.dr (.pur false 0 (.pur false 1 (.pur true 2 (.eff 3 [0, 1] (.eff 4 [0] (.eff 5 [] (.eff 6 [] .done)))))))) (.dr (.pur false 0 (.pur false 1 (.pur true 2 (.eff 3 [0, 1] (.eff 4 [0] (.eff 5 [] (.eff 6 [] .done))))))))))) []))) (.sq (.sq .z (.bk (.rf (.sq (.sq .z .z) (.bk (.jn [18] [58, 59, 60, 61] (.dr (.pur true 0 (.pur false 2 (.alt (.eff 1 [2] (.alt (.eff 3 [] (.eff 4 [2] (.eff 5 [] .done))) (.eff 4 [2] (.eff 3 [] (.eff 5 [] .done))))) (.eff 4 [2] (.eff 1 [2] (.eff 3 [] (.eff 5 [] .done)))))))) (.dr (.pur false 0 (.pur false 1 (.pur false 2 (.pur false 3 (.eff 4 [0, 1] (.eff 5 [0] (.eff 6 [] (.eff 7 [] .done)))))))))))) []))) (.sq (.sq .z (.cd (.sq .z .z) .z)) (.sq (.dr (.pur false 0 (.pur false 1 (.pur false 2 (.eff 3 [1, 2] (.eff 4 [2] (.eff 5 [] (.pur true 6 .done)))))))) .z)))))))))) (args := [t0, t1]) Tryz.func18 (by kernel_rfl) (by kernel_rfl) (by kernel_rfl) (Eq.mp (by kernel_rfl) h)
theorem n_estimate_Expect : Enters Tryz.prog 18 := enters_of Tryz.func18 (by kernel_rfl) rfl
def s_law16_sum (P : Program) (t0 : Value) (w : World) (R : Ending → World → Prop) : Prop :=
  Al P 30 w fun t2 w =>
  Cl P 22 #[(.int .i64 0), (.int .i64 1)] w (Pk R) fun t8 w =>
  Al P 30 w fun t4 w =>
  Sto P 30 t4 t8 w fun w =>
  Lp1 (.int .i64 0) w (fun t5 w k1 =>
  Bt P .len #[23] 3 #[t0] w fun t11 w =>
  Bn P .lss 3 false t5 t11 w fun t12 w =>
  If t12
  (Jn2 (fun k2 =>
  Dv P false (Instr.loadAt 30 t4) w.drew fun t16 =>
  Dv P true (Instr.indexAt 23 t0 t5) w.drew fun t19 =>
  Dv P false (Instr.loadAt 30 t19) w.drew fun t20 =>
  (Cl P 25 #[t16, t20] w.drew (Pk R) fun t21 w =>
  ExP t21 0 fun t22 =>
  ExP t21 1 fun t23 =>
  Al P 30 w fun t6 w =>
  Ke P (Instr.loadAt 30 t4) t16 w <|
  Ke P (Instr.loadAt 30 t19) t20 w <|
  Sto P 30 t6 t22 w fun w =>
  k2 t6 t23 w) ∧
  (Al P 30 w.drew fun t6x1 w =>
  Ke P (Instr.loadAt 30 t4) t16 w <|
  Ke P (Instr.loadAt 30 t19) t20 w <|
  Cl P 25 #[t16, t20] w (Pk R) fun t21x1 w =>
  ExP t21x1 0 fun t22x1 =>
  ExP t21x1 1 fun t23x1 =>
  Sto P 30 t6x1 t22x1 w fun w =>
  k2 t6x1 t23x1 w))
  (fun t6x2 t7 w =>
  Bn P .neq 31 true t7 (.int .i64 0) w fun t25 w =>
  If t25
  (Bd P 30 [] w fun t26 w =>
  Sto P 30 t2 t26 w fun w =>
  Rc P 30 t2 w fun r0 =>
  R (.returned (.tuple #[r0, t7])) w)
  (Ld P 30 t6x2 w fun t28 w =>
  Sto P 30 t4 t28 w fun w =>
  Bn P .add 3 true t5 (.int .i64 1) w fun t14 w =>
  k1 t14 w)))
  (Ld P 30 t4 w fun t29 w =>
  Sto P 30 t2 t29 w fun w =>
  Rc P 30 t2 w fun r0 =>
  R (.returned (.tuple #[r0, (.int .i64 0)])) w))
theorem e_law16_sum {t0 : Value} {w : World} {R : Ending → World → Prop} (h : s_law16_sum Tryz.prog t0 w R) : Calls Tryz.prog 20 #[t0] w R :=
  enter (h := (.sq .z (.sq .z (.sq (.sq .z (.bk (.lp [5] [3, 6, 7, 9, 10, 11, 12, 13, 14, 15, 16, 17, 18, 19, 20, 21, 22, 23, 24, 25, 26, 27, 28] (.sq (.sq .z (.cd .z .z)) (.sq (.bk (.jn [6, 7] [15, 16, 17, 18, 19, 20, 21, 22, 23] (.dr (.pur false 0 (.pur true 1 (.pur true 2 (.pur true 3 (.pur false 4 (.alt (.eff 5 [] (.pur true 6 (.pur true 7 (.pur true 8 (.eff 9 [0, 4] (.eff 10 [] (.pur true 11 .done))))))) (.eff 9 [0, 4] (.eff 5 [] (.pur true 6 (.pur true 7 (.pur true 8 (.eff 10 [] (.pur true 11 .done)))))))))))))) (.sq (.sq .z (.cd (.sq .z .z) .z)) .z))) .z))))) (.sq .z .z))))) (args := [t0]) Tryz.func20 (by kernel_rfl) (by kernel_rfl) (by kernel_rfl) (Eq.mp (by kernel_rfl) h)
theorem n_law16_sum : Enters Tryz.prog 20 := enters_of Tryz.func20 (by kernel_rfl) rfl
def s_law16_of (P : Program) (t0 t1 : Value) (w : World) (R : Ending → World → Prop) : Prop :=
  Al P 30 w fun t4 w =>
  Cl P 53 #[t0, t1] w (Pk R) fun t10 w =>
  Ex t10 0 w fun t11 w =>
  Ex t10 1 w fun t12 w =>
  Al P 30 w fun t5 w =>
  Sto P 30 t5 t11 w fun w =>
  Bn P .neq 31 true t12 (.int .i64 0) w fun t14 w =>
  If t14
  (Bd P 30 [] w fun t15 w =>
  Sto P 30 t4 t15 w fun w =>
  Rc P 30 t4 w fun r0 =>
  R (.returned r0) w)
  (Ld P 30 t5 w fun t16 w =>
  Sto P 30 t4 t16 w fun w =>
  Rc P 30 t4 w fun r0 =>
  R (.returned r0) w)
theorem e_law16_of {t0 t1 : Value} {w : World} {R : Ending → World → Prop} (h : s_law16_of Tryz.prog t0 t1 w R) : Calls Tryz.prog 22 #[t0, t1] w R :=
  enter (h := (.sq .z (.sq .z (.sq (.sq .z (.cd (.sq .z .z) .z)) (.sq .z .z))))) (args := [t0, t1]) Tryz.func22 (by kernel_rfl) (by kernel_rfl) (by kernel_rfl) (Eq.mp (by kernel_rfl) h)
theorem n_law16_of : Enters Tryz.prog 22 := enters_of Tryz.func22 (by kernel_rfl) rfl
def s_ref16_pick (P : Program) (t0 t1 : Value) (w : World) (R : Ending → World → Prop) : Prop :=
  Bn P .lss 3 true t0 (.int .i64 0) w fun t6 w =>
  If t6
  (Bn P .add 3 true t0 (.int .i64 1) w fun t8 w =>
  Un P .neg t8 w fun t9 w =>
  Bn P .rem 3 false t9 t1 w fun t12 w =>
  R (.returned t12) w)
  (Bn P .rem 3 false t0 t1 w fun t12x1 w =>
  R (.returned t12x1) w)
theorem e_ref16_pick {t0 t1 : Value} {w : World} {R : Ending → World → Prop} (h : s_ref16_pick Tryz.prog t0 t1 w R) : Calls Tryz.prog 29 #[t0, t1] w R :=
  enter (h := (.sq .z (.sq (.sq .z (.cd .z .z)) (.sq .z .z)))) (args := [t0, t1]) Tryz.func29 (by kernel_rfl) (by kernel_rfl) (by kernel_rfl) (Eq.mp (by kernel_rfl) h)
theorem n_ref16_pick : Enters Tryz.prog 29 := enters_of Tryz.func29 (by kernel_rfl) rfl
def s_estimate_elements (P : Program) (t0 t1 : Value) (w : World) (R : Ending → World → Prop) : Prop :=
  Bt P .len #[23] 3 #[t0] w fun t9 w =>
  Bt P .len #[23] 3 #[t1] w fun t11 w =>
  Bn P .neq 3 false t9 t11 w fun t12 w =>
  Gd t12 false (fun k => k t0 w) w fun t14 w =>
  Gd t12 false (fun k => Bt P .len #[23] 3 #[t14] w k) w fun t15 w =>
  Gd t12 false (fun k => Bn P .gtr 3 true t15 (.int .i64 400) w k) w fun t16 w =>
  Pick t12 (.bool true) t16 w fun t17 w =>
  If t17
  (R (.returned (.tuple #[(.slice none 0 0), (.bool false)])) w)
  (Bt P .len #[23] 3 #[t0] w fun t19 w =>
  Lp2 (.slice none 0 0) (.int .i64 0) w (fun t6 t20 w k1 =>
  Bn P .lss 3 false t20 t19 w fun t21 w =>
  If t21
  (Dv P true (Instr.indexAt 23 t0 t20) w.drew fun t25 =>
  Dv P false (Instr.loadAt 30 t25) w.drew fun t26 =>
  Cl P 28 #[t26] w.drew (Pk R) fun t27 w =>
  Dv P true (Op.unary .not t27) w fun t28 =>
  GdP t28 false (fun k => k t1) fun t30 =>
  GdP t28 false (fun k => k t20) fun t31 =>
  GdP t28 false (fun k => Dv P true (Instr.indexAt 23 t30 t31) w k) fun t32 =>
  GdP t28 false (fun k => Dv P false (Instr.loadAt 30 t32) w k) fun t33 =>
  Gd t28 false (fun k => Cl P 28 #[t33] w (Pk R) k) w fun t34 w =>
  GdP t28 false (fun k => Dv P true (Op.unary .not t34) w k) fun t35 =>
  PickP t28 (.bool true) t35 fun t36 =>
  GdP t36 false (fun k => k t1) fun t38 =>
  GdP t36 false (fun k => k t20) fun t39 =>
  GdP t36 false (fun k => Dv P true (Instr.indexAt 23 t38 t39) w k) fun t40 =>
  GdP t36 false (fun k => Dv P false (Instr.loadAt 30 t40) w k) fun t41 =>
  GdP t36 false (fun k => Dv P false (Instr.loadAt 30 (.pointer (some ⟨0, 0, none⟩))) w k) fun t42 =>
  Gd t36 false (fun k => Cl P 21 #[t41, t42] w (Pk R) k) w fun t43 w =>
  GdP t36 false (fun k => Dv P true (bn .leq 3 true t43 (.int .i64 0)) w k) fun t44 =>
  PickP t36 (.bool true) t44 fun t45 =>
  GdP t45 false (fun k => k t1) fun t47 =>
  GdP t45 false (fun k => k t20) fun t48 =>
  GdP t45 false (fun k => Dv P true (Instr.indexAt 23 t47 t48) w k) fun t49 =>
  GdP t45 false (fun k => Dv P false (Instr.loadAt 30 t49) w k) fun t50 =>
  GdP t45 false (fun k => Dv P false (Instr.loadAt 30 (.pointer (some ⟨1, 0, none⟩))) w k) fun t51 =>
  Gd t45 false (fun k => Cl P 21 #[t50, t51] w (Pk R) k) w fun t52 w =>
  GdP t45 false (fun k => Dv P true (bn .gtr 3 true t52 (.int .i64 0)) w k) fun t53 =>
  PickP t45 (.bool true) t53 fun t54 =>
  If t54
  (R (.returned (.tuple #[(.slice none 0 0), (.bool false)])) w)
  (Dv P true (Instr.indexAt 23 t0 t20) w.drew fun t58 =>
  Dv P false (Instr.loadAt 30 t58) w.drew fun t59 =>
  Dv P true (Instr.indexAt 23 t1 t20) w.drew fun t62 =>
  Dv P false (Instr.loadAt 30 t62) w.drew fun t63 =>
  Dv P true (Instr.build 68 #[(0, t59), (1, t63)]) w.drew fun t64 =>
  Bs P 55 1 [(0, t64)] w.drew fun t65 w =>
  Bt P .append #[55, 55] 55 #[t6, t65] w fun t66 w =>
  Bn P .add 3 true t20 (.int .i64 1) w fun t67 w =>
  k1 t66 t67 w))
  (R (.returned (.tuple #[t6, (.bool true)])) w)))
theorem e_estimate_elements {t0 t1 : Value} {w : World} {R : Ending → World → Prop} (h : s_estimate_elements Tryz.prog t0 t1 w R) : Calls Tryz.prog 31 #[t0, t1] w R :=
  enter (h := (.sq .z (.sq (.sq .z (.cd (.sq .z .z) .z)) (.sq .z (.sq (.sq .z (.bk (.lp [6, 20] [4, 5, 7, 21, 22, 23, 24, 25, 26, 27, 28, 29, 30, 31, 32, 33, 34, 35, 36, 37, 38, 39, 40, 41, 42, 43, 44, 45, 46, 47, 48, 49, 50, 51, 52, 53, 54, 55, 56, 57, 58, 59, 60, 61, 62, 63, 64, 65, 66, 67] (.sq .z (.sq (.cd .z .z) (.sq (.bk (.sq .z (.sq (.sq (.dr (.pur true 0 (.pur true 1 (.pur true 2 (.pur false 3 (.eff 4 [] (.pur true 5 (.pur true 6 (.pur true 7 (.pur true 8 (.pur true 9 (.pur false 10 (.eff 11 [] (.pur true 12 (.pur true 13 (.pur true 14 (.pur true 15 (.pur true 16 (.pur true 17 (.pur false 18 (.pur false 19 (.eff 20 [] (.pur true 21 (.pur true 22 (.pur true 23 (.pur true 24 (.pur true 25 (.pur true 26 (.pur false 27 (.pur false 28 (.eff 29 [] (.pur true 30 (.pur true 31 .done))))))))))))))))))))))))))))))))) (.cd (.sq .z .z) .z)) (.dr (.pur true 0 (.pur true 1 (.pur true 2 (.pur true 3 (.pur false 4 (.pur true 5 (.pur true 6 (.pur true 7 (.pur false 8 (.pur true 9 (.eff 10 [] (.eff 11 [] (.pur true 12 .done))))))))))))))))) .z)))))) (.sq .z .z)))))) (args := [t0, t1]) Tryz.func31 (by kernel_rfl) (by kernel_rfl) (by kernel_rfl) (Eq.mp (by kernel_rfl) h)
theorem n_estimate_elements : Enters Tryz.prog 31 := enters_of Tryz.func31 (by kernel_rfl) rfl
def s_estimate_calculator_estimate (P : Program) (t0 t1 : Value) (w : World) (R : Ending → World → Prop) : Prop :=
  Bx P 69 t0 w fun t2 w =>
  Al P 30 w fun t4 w =>
  Ld P 30 (.pointer (some ⟨0, 0, none⟩)) w fun t6 w =>
  Ld P 69 t2 w fun t7 w =>
  Cl P 37 #[t1, t6, t7, (.func (.func 64) #[] #[t2])] w (Pk R) fun t9 w =>
  Sto P 30 t4 t9 w fun w =>
  Rc P 30 t4 w fun r0 =>
  R (.returned r0) w
theorem e_estimate_calculator_estimate {t0 t1 : Value} {w : World} {R : Ending → World → Prop} (h : s_estimate_calculator_estimate Tryz.prog t0 t1 w R) : Calls Tryz.prog 32 #[t0, t1] w R :=
  enter (h := (.sq .z (.sq .z .z))) (args := [t0, t1]) Tryz.func32 (by kernel_rfl) (by kernel_rfl) (by kernel_rfl) (Eq.mp (by kernel_rfl) h)
theorem n_estimate_calculator_estimate : Enters Tryz.prog 32 := enters_of Tryz.func32 (by kernel_rfl) rfl
def s_estimate_calculator_estimated (P : Program) (t0 t1 : Value) (w : World) (R : Ending → World → Prop) : Prop :=
  Bx P 69 t0 w fun t2 w =>
  Al P 30 w fun t4 w =>
  Ld P 30 (.pointer (some ⟨0, 0, none⟩)) w fun t6 w =>
  Ld P 69 t2 w fun t7 w =>
  Cl P 37 #[t1, t6, t7, (.func (.func 65) #[] #[t2])] w (Pk R) fun t9 w =>
  Sto P 30 t4 t9 w fun w =>
  Rc P 30 t4 w fun r0 =>
  R (.returned r0) w
theorem e_estimate_calculator_estimated {t0 t1 : Value} {w : World} {R : Ending → World → Prop} (h : s_estimate_calculator_estimated Tryz.prog t0 t1 w R) : Calls Tryz.prog 33 #[t0, t1] w R :=
  enter (h := (.sq .z (.sq .z .z))) (args := [t0, t1]) Tryz.func33 (by kernel_rfl) (by kernel_rfl) (by kernel_rfl) (Eq.mp (by kernel_rfl) h)
theorem n_estimate_calculator_estimated : Enters Tryz.prog 33 := enters_of Tryz.func33 (by kernel_rfl) rfl
def s_estimate_fold_estimate_element (P : Program) (t0 t1 t2 t3 : Value) (w : World) (R : Ending → World → Prop) : Prop :=
  Bx P 30 t1 w fun t5 w =>
  Al P 30 w fun t8 w =>
  Bt P .len #[55] 3 #[t0] w fun t12 w =>
  Lp1 (.int .i64 0) w (fun t13 w k1 =>
  Bn P .lss 3 false t13 t12 w fun t14 w =>
  If t14
  (Ia P 55 t0 t13 w fun t15 w =>
  Ld P 68 t15 w fun t16 w =>
  Al P 68 w fun t10 w =>
  Sto P 68 t10 t16 w fun w =>
  Dv P false (Instr.loadAt 30 t5) w.drew fun t18 =>
  Dv P false (Instr.loadAt 68 t10) w.drew fun t20 =>
  Cw P t3 #[t20] w.drew (Pk R) fun t21 w =>
  Ke P (Instr.loadAt 30 t5) t18 w <|
  Cl P 47 #[t2, t18, t21] w (Pk R) fun t22 w =>
  Sto P 30 t5 t22 w fun w =>
  Bn P .add 3 true t13 (.int .i64 1) w fun t23 w =>
  k1 t23 w)
  (Ld P 30 t5 w fun t24 w =>
  Sto P 30 t8 t24 w fun w =>
  Rc P 30 t8 w fun r0 =>
  R (.returned r0) w))
theorem e_estimate_fold_estimate_element {t0 t1 t2 t3 : Value} {w : World} {R : Ending → World → Prop} (h : s_estimate_fold_estimate_element Tryz.prog t0 t1 t2 t3 w R) : Calls Tryz.prog 37 #[t0, t1, t2, t3] w R :=
  enter (h := (.sq .z (.sq (.sq .z (.bk (.lp [13] [10, 14, 15, 16, 17, 18, 19, 20, 21, 22, 23] (.sq .z (.sq (.cd .z .z) (.sq (.bk (.sq .z (.dr (.pur true 0 (.pur false 1 (.pur true 2 (.pur false 3 (.eff 4 [1] (.eff 5 [] (.eff 6 [] .done)))))))))) .z)))))) (.sq .z .z)))) (args := [t0, t1, t2, t3]) Tryz.func37 (by kernel_rfl) (by kernel_rfl) (by kernel_rfl) (Eq.mp (by kernel_rfl) h)
theorem n_estimate_fold_estimate_element : Enters Tryz.prog 37 := enters_of Tryz.func37 (by kernel_rfl) rfl
def s_estimate_Variance_1 (P : Program) (t0 t1 : Value) (w : World) (R : Ending → World → Prop) : Prop :=
  Bx P 68 t0 w fun t2 w =>
  Al P 30 w fun t3 w =>
  Dv P false (Instr.loadAt 68 t2) w.drew fun t4 =>
  Dv P true (Instr.fieldAt 68 t2 1) w.drew fun t6 =>
  Dv P false (Instr.loadAt 30 t6) w.drew fun t7 =>
  Cl P 40 #[t1, t4] w.drew (Pk R) fun t5 w =>
  Ke P (Instr.loadAt 30 t6) t7 w <|
  Cl P 39 #[t1, t5, t7] w (Pk R) fun t8 w =>
  Sto P 30 t3 t8 w fun w =>
  Rc P 30 t3 w fun r0 =>
  R (.returned r0) w
theorem e_estimate_Variance_1 {t0 t1 : Value} {w : World} {R : Ending → World → Prop} (h : s_estimate_Variance_1 Tryz.prog t0 t1 w R) : Calls Tryz.prog 38 #[t0, t1] w R :=
  enter (h := (.sq .z (.sq (.dr (.pur false 0 (.pur true 2 (.pur false 3 (.eff 1 [3] (.eff 4 [] (.eff 5 [] .done))))))) .z))) (args := [t0, t1]) Tryz.func38 (by kernel_rfl) (by kernel_rfl) (by kernel_rfl) (Eq.mp (by kernel_rfl) h)
theorem n_estimate_Variance_1 : Enters Tryz.prog 38 := enters_of Tryz.func38 (by kernel_rfl) rfl
def s_estimate_calculator_div (P : Program) (t0 t1 t2 : Value) (w : World) (R : Ending → World → Prop) : Prop :=
  Bx P 30 t1 w fun t4 w =>
  Bx P 30 t2 w fun t5 w =>
  Al P 30 w fun t6 w =>
  NcP t0 fun t8 =>
  Dv P true (Instr.fieldAt 61 t8 0) w.drew fun t9 =>
  Dv P false (Instr.loadAt 30 t4) w.drew fun t10 =>
  Dv P false (Instr.loadAt 30 t5) w.drew fun t11 =>
  Cl P 26 #[t10, t11] w.drew (Pk R) fun t12 w =>
  ExP t12 0 fun t13 =>
  ExP t12 1 fun t14 =>
  Cl P 70 #[t9, t13, t14] w (Pk R) fun t15 w =>
  Sto P 30 t6 t15 w fun w =>
  Rc P 30 t6 w fun r0 =>
  R (.returned r0) w
theorem e_estimate_calculator_div {t0 t1 t2 : Value} {w : World} {R : Ending → World → Prop} (h : s_estimate_calculator_div Tryz.prog t0 t1 t2 w R) : Calls Tryz.prog 39 #[t0, t1, t2] w R :=
  enter (h := (.sq .z (.sq (.dr (.pur true 0 (.pur true 1 (.pur true 2 (.pur false 3 (.pur false 4 (.eff 5 [] (.pur true 6 (.pur true 7 (.eff 8 [] (.eff 9 [] .done))))))))))) .z))) (args := [t0, t1, t2]) Tryz.func39 (by kernel_rfl) (by kernel_rfl) (by kernel_rfl) (Eq.mp (by kernel_rfl) h)
theorem n_estimate_calculator_div : Enters Tryz.prog 39 := enters_of Tryz.func39 (by kernel_rfl) rfl
def s_estimate_calculator_rest (P : Program) (t0 t1 : Value) (w : World) (R : Ending → World → Prop) : Prop :=
  Bx P 68 t1 w fun t3 w =>
  Al P 30 w fun t4 w =>
  Dv P true (Instr.fieldAt 68 t3 0) w.drew fun t7 =>
  Dv P false (Instr.loadAt 30 t7) w.drew fun t8 =>
  Dv P true (Instr.fieldAt 68 t3 0) w.drew fun t9 =>
  Dv P false (Instr.loadAt 30 t9) w.drew fun t10 =>
  Dv P false (Instr.loadAt 30 (.pointer (some ⟨1, 0, none⟩))) w.drew fun t13 =>
  Dv P true (Instr.fieldAt 68 t3 1) w.drew fun t14 =>
  Dv P false (Instr.loadAt 30 t14) w.drew fun t15 =>
  Cl P 48 #[t0, t8, t10] w.drew (Pk R) fun t11 w =>
  Ke P (Instr.loadAt 30 (.pointer (some ⟨1, 0, none⟩))) t13 w <|
  Ke P (Instr.loadAt 30 t14) t15 w <|
  Cl P 49 #[t0, t13, t15] w (Pk R) fun t16 w =>
  Cl P 48 #[t0, t11, t16] w (Pk R) fun t17 w =>
  Sto P 30 t4 t17 w fun w =>
  Rc P 30 t4 w fun r0 =>
  R (.returned r0) w
theorem e_estimate_calculator_rest {t0 t1 : Value} {w : World} {R : Ending → World → Prop} (h : s_estimate_calculator_rest Tryz.prog t0 t1 w R) : Calls Tryz.prog 40 #[t0, t1] w R :=
  enter (h := (.sq .z (.sq (.dr (.pur true 0 (.pur true 1 (.pur true 2 (.pur false 3 (.pur true 4 (.pur false 5 (.pur true 7 (.pur false 8 (.pur true 9 (.pur false 10 (.eff 6 [8, 10] (.eff 11 [] (.eff 12 [] (.eff 13 [] .done))))))))))))))) .z))) (args := [t0, t1]) Tryz.func40 (by kernel_rfl) (by kernel_rfl) (by kernel_rfl) (Eq.mp (by kernel_rfl) h)
theorem n_estimate_calculator_rest : Enters Tryz.prog 40 := enters_of Tryz.func40 (by kernel_rfl) rfl
def s_estimate_calculator_choices (P : Program) (t0 t1 : Value) (w : World) (R : Ending → World → Prop) : Prop :=
  Bx P 69 t0 w fun t2 w =>
  Bx P 55 t1 w fun t3 w =>
  R (.returned (.func (.func 75) #[] #[t3, t2])) w
theorem e_estimate_calculator_choices {t0 t1 : Value} {w : World} {R : Ending → World → Prop} (h : s_estimate_calculator_choices Tryz.prog t0 t1 w R) : Calls Tryz.prog 46 #[t0, t1] w R :=
  enter (h := (.sq .z (.sq .z .z))) (args := [t0, t1]) Tryz.func46 (by kernel_rfl) (by kernel_rfl) (by kernel_rfl) (Eq.mp (by kernel_rfl) h)
theorem n_estimate_calculator_choices : Enters Tryz.prog 46 := enters_of Tryz.func46 (by kernel_rfl) rfl
def s_estimate_calculator_add (P : Program) (t0 t1 t2 : Value) (w : World) (R : Ending → World → Prop) : Prop :=
  Bx P 30 t1 w fun t4 w =>
  Bx P 30 t2 w fun t5 w =>
  Al P 30 w fun t6 w =>
  NcP t0 fun t8 =>
  Dv P true (Instr.fieldAt 61 t8 0) w.drew fun t9 =>
  Dv P false (Instr.loadAt 30 t4) w.drew fun t10 =>
  Dv P false (Instr.loadAt 30 t5) w.drew fun t11 =>
  Cl P 25 #[t10, t11] w.drew (Pk R) fun t12 w =>
  ExP t12 0 fun t13 =>
  ExP t12 1 fun t14 =>
  Cl P 70 #[t9, t13, t14] w (Pk R) fun t15 w =>
  Sto P 30 t6 t15 w fun w =>
  Rc P 30 t6 w fun r0 =>
  R (.returned r0) w
theorem e_estimate_calculator_add {t0 t1 t2 : Value} {w : World} {R : Ending → World → Prop} (h : s_estimate_calculator_add Tryz.prog t0 t1 t2 w R) : Calls Tryz.prog 47 #[t0, t1, t2] w R :=
  enter (h := (.sq .z (.sq (.dr (.pur true 0 (.pur true 1 (.pur true 2 (.pur false 3 (.pur false 4 (.eff 5 [] (.pur true 6 (.pur true 7 (.eff 8 [] (.eff 9 [] .done))))))))))) .z))) (args := [t0, t1, t2]) Tryz.func47 (by kernel_rfl) (by kernel_rfl) (by kernel_rfl) (Eq.mp (by kernel_rfl) h)
theorem n_estimate_calculator_add : Enters Tryz.prog 47 := enters_of Tryz.func47 (by kernel_rfl) rfl
def s_estimate_calculator_mul (P : Program) (t0 t1 t2 : Value) (w : World) (R : Ending → World → Prop) : Prop :=
  Bx P 30 t1 w fun t4 w =>
  Bx P 30 t2 w fun t5 w =>
  Al P 30 w fun t6 w =>
  NcP t0 fun t8 =>
  Dv P true (Instr.fieldAt 61 t8 0) w.drew fun t9 =>
  Dv P false (Instr.loadAt 30 t4) w.drew fun t10 =>
  Dv P false (Instr.loadAt 30 t5) w.drew fun t11 =>
  Cl P 24 #[t10, t11] w.drew (Pk R) fun t12 w =>
  ExP t12 0 fun t13 =>
  ExP t12 1 fun t14 =>
  Cl P 70 #[t9, t13, t14] w (Pk R) fun t15 w =>
  Sto P 30 t6 t15 w fun w =>
  Rc P 30 t6 w fun r0 =>
  R (.returned r0) w
theorem e_estimate_calculator_mul {t0 t1 t2 : Value} {w : World} {R : Ending → World → Prop} (h : s_estimate_calculator_mul Tryz.prog t0 t1 t2 w R) : Calls Tryz.prog 48 #[t0, t1, t2] w R :=
  enter (h := (.sq .z (.sq (.dr (.pur true 0 (.pur true 1 (.pur true 2 (.pur false 3 (.pur false 4 (.eff 5 [] (.pur true 6 (.pur true 7 (.eff 8 [] (.eff 9 [] .done))))))))))) .z))) (args := [t0, t1, t2]) Tryz.func48 (by kernel_rfl) (by kernel_rfl) (by kernel_rfl) (Eq.mp (by kernel_rfl) h)
theorem n_estimate_calculator_mul : Enters Tryz.prog 48 := enters_of Tryz.func48 (by kernel_rfl) rfl
def s_estimate_calculator_sub (P : Program) (t0 t1 t2 : Value) (w : World) (R : Ending → World → Prop) : Prop :=
  Bx P 30 t1 w fun t4 w =>
  Bx P 30 t2 w fun t5 w =>
  Al P 30 w fun t6 w =>
  NcP t0 fun t8 =>
  Dv P true (Instr.fieldAt 61 t8 0) w.drew fun t9 =>
  Dv P false (Instr.loadAt 30 t4) w.drew fun t10 =>
  Dv P false (Instr.loadAt 30 t5) w.drew fun t11 =>
  Cl P 27 #[t10, t11] w.drew (Pk R) fun t12 w =>
  ExP t12 0 fun t13 =>
  ExP t12 1 fun t14 =>
  Cl P 70 #[t9, t13, t14] w (Pk R) fun t15 w =>
  Sto P 30 t6 t15 w fun w =>
  Rc P 30 t6 w fun r0 =>
  R (.returned r0) w
theorem e_estimate_calculator_sub {t0 t1 t2 : Value} {w : World} {R : Ending → World → Prop} (h : s_estimate_calculator_sub Tryz.prog t0 t1 t2 w R) : Calls Tryz.prog 49 #[t0, t1, t2] w R :=
  enter (h := (.sq .z (.sq (.dr (.pur true 0 (.pur true 1 (.pur true 2 (.pur false 3 (.pur false 4 (.eff 5 [] (.pur true 6 (.pur true 7 (.eff 8 [] (.eff 9 [] .done))))))))))) .z))) (args := [t0, t1, t2]) Tryz.func49 (by kernel_rfl) (by kernel_rfl) (by kernel_rfl) (Eq.mp (by kernel_rfl) h)
theorem n_estimate_calculator_sub : Enters Tryz.prog 49 := enters_of Tryz.func49 (by kernel_rfl) rfl
def s_estimate_calculator_estimate_1 (P : Program) (t0 t1 : Value) (w : World) (R : Ending → World → Prop) : Prop :=
  Bx P 68 t0 w fun t2 w =>
  Al P 30 w fun t3 w =>
  Ld P 69 t1 w fun t4 w =>
  Fa P 68 t2 0 w fun t5 w =>
  Ld P 30 t5 w fun t6 w =>
  Fa P 68 t2 1 w fun t7 w =>
  Ld P 30 t7 w fun t8 w =>
  Cl P 39 #[t4, t6, t8] w (Pk R) fun t9 w =>
  Sto P 30 t3 t9 w fun w =>
  Rc P 30 t3 w fun r0 =>
  R (.returned r0) w
theorem e_estimate_calculator_estimate_1 {t0 t1 : Value} {w : World} {R : Ending → World → Prop} (h : s_estimate_calculator_estimate_1 Tryz.prog t0 t1 w R) : Calls Tryz.prog 64 #[t0, t1] w R :=
  enter (h := (.sq .z (.sq .z .z))) (args := [t0, t1]) Tryz.func64 (by kernel_rfl) (by kernel_rfl) (by kernel_rfl) (Eq.mp (by kernel_rfl) h)
theorem n_estimate_calculator_estimate_1 : Enters Tryz.prog 64 := enters_of Tryz.func64 (by kernel_rfl) rfl
def s_estimate_calculator_estimated_1 (P : Program) (t0 t1 : Value) (w : World) (R : Ending → World → Prop) : Prop :=
  Bx P 68 t0 w fun t2 w =>
  Al P 30 w fun t3 w =>
  Dv P false (Instr.loadAt 69 t1) w.drew fun t4 =>
  Dv P false (Instr.loadAt 69 t1) w.drew fun t5 =>
  Dv P false (Instr.loadAt 68 t2) w.drew fun t6 =>
  Dv P false (Instr.loadAt 69 t1) w.drew fun t8 =>
  Dv P true (Instr.fieldAt 68 t2 1) w.drew fun t9 =>
  Dv P false (Instr.loadAt 30 t9) w.drew fun t10 =>
  Dv P true (Instr.fieldAt 68 t2 1) w.drew fun t11 =>
  Dv P false (Instr.loadAt 30 t11) w.drew fun t12 =>
  Cl P 40 #[t5, t6] w.drew (Pk R) fun t7 w =>
  Ke P (Instr.loadAt 69 t1) t4 w <|
  Ke P (Instr.loadAt 69 t1) t8 w <|
  Ke P (Instr.loadAt 30 t9) t10 w <|
  Ke P (Instr.loadAt 30 t11) t12 w <|
  Cl P 48 #[t8, t10, t12] w (Pk R) fun t13 w =>
  Ke P (Instr.loadAt 69 t1) t4 w <|
  Cl P 39 #[t4, t7, t13] w (Pk R) fun t14 w =>
  Sto P 30 t3 t14 w fun w =>
  Rc P 30 t3 w fun r0 =>
  R (.returned r0) w
theorem e_estimate_calculator_estimated_1 {t0 t1 : Value} {w : World} {R : Ending → World → Prop} (h : s_estimate_calculator_estimated_1 Tryz.prog t0 t1 w R) : Calls Tryz.prog 65 #[t0, t1] w R :=
  enter (h := (.sq .z (.sq (.dr (.pur false 0 (.pur false 1 (.pur false 2 (.pur false 4 (.pur true 5 (.pur false 6 (.pur true 7 (.pur false 8 (.eff 3 [0, 4, 6, 8] (.eff 9 [0] (.eff 10 [] (.eff 11 [] .done))))))))))))) .z))) (args := [t0, t1]) Tryz.func65 (by kernel_rfl) (by kernel_rfl) (by kernel_rfl) (Eq.mp (by kernel_rfl) h)
theorem n_estimate_calculator_estimated_1 : Enters Tryz.prog 65 := enters_of Tryz.func65 (by kernel_rfl) rfl
def s_estimate_state_note (P : Program) (t0 t1 t2 : Value) (w : World) (R : Ending → World → Prop) : Prop :=
  Bx P 30 t1 w fun t4 w =>
  Al P 30 w fun t6 w =>
  Nc t0 w fun t9 w =>
  Fa P 59 t9 0 w fun t10 w =>
  Ld P 4 t10 w fun t11 w =>
  Gd t11 false (fun k => k t2 w) w fun t13 w =>
  Gd t11 false (fun k => Bn P .neq 31 true t13 (.int .i64 0) w k) w fun t14 w =>
  Pick t11 (.bool true) t14 w fun t15 w =>
  Nc t0 w fun t16 w =>
  Fa P 59 t16 0 w fun t17 w =>
  Sto P 4 t17 t15 w fun w =>
  Nc t0 w fun t19 w =>
  Fa P 59 t19 0 w fun t20 w =>
  Ld P 4 t20 w fun t21 w =>
  If t21
  (Bd P 30 [] w fun t22 w =>
  Sto P 30 t6 t22 w fun w =>
  Rc P 30 t6 w fun r0 =>
  R (.returned r0) w)
  (Ld P 30 t4 w fun t23 w =>
  Sto P 30 t6 t23 w fun w =>
  Rc P 30 t6 w fun r0 =>
  R (.returned r0) w)
theorem e_estimate_state_note {t0 t1 t2 : Value} {w : World} {R : Ending → World → Prop} (h : s_estimate_state_note Tryz.prog t0 t1 t2 w R) : Calls Tryz.prog 70 #[t0, t1, t2] w R :=
  enter (h := (.sq .z (.sq .z (.sq (.sq .z (.cd (.sq .z .z) .z)) (.sq .z .z))))) (args := [t0, t1, t2]) Tryz.func70 (by kernel_rfl) (by kernel_rfl) (by kernel_rfl) (Eq.mp (by kernel_rfl) h)
theorem n_estimate_state_note : Enters Tryz.prog 70 := enters_of Tryz.func70 (by kernel_rfl) rfl
def s_estimate_calculator_choices_1 (P : Program) (t0 t1 t2 : Value) (w : World) (R : Ending → World → Prop) : Prop :=
  Ld P 55 t1 w fun t9 w =>
  Bt P .len #[55] 3 #[t9] w fun t10 w =>
  Bn P .shl 3 true (.int .i64 1) t10 w fun t11 w =>
  Lp1 (.int .i64 0) w (fun t12 w k1 =>
  Bn P .lss 3 false t12 t11 w fun t13 w =>
  If t13
  (Ld P 30 (.pointer (some ⟨1, 0, none⟩)) w fun t15 w =>
  Al P 30 w fun t5 w =>
  Sto P 30 t5 t15 w fun w =>
  Ld P 55 t1 w fun t16 w =>
  Bt P .len #[55] 3 #[t16] w fun t17 w =>
  Lp2 (.slice none 0 0) (.int .i64 0) w (fun t6 t18 w k2 =>
  Bn P .lss 3 false t18 t17 w fun t19 w =>
  If t19
  (Ia P 55 t16 t18 w fun t21 w =>
  Ld P 68 t21 w fun t22 w =>
  Al P 68 w fun t8 w =>
  Sto P 68 t8 t22 w fun w =>
  Bn P .shr 3 false t12 t18 w fun t25 w =>
  Bn P .and 3 true t25 (.int .i64 1) w fun t26 w =>
  Bn P .eql 3 true t26 (.int .i64 1) w fun t27 w =>
  If t27
  (Dv P false (Instr.loadAt 69 t2) w.drew fun t28 =>
  Dv P false (Instr.loadAt 30 t5) w.drew fun t29 =>
  Dv P true (Instr.fieldAt 68 t8 1) w.drew fun t30 =>
  Dv P false (Instr.loadAt 30 t30) w.drew fun t31 =>
  Dv P false (Instr.loadAt 68 t8) w.drew fun t34 =>
  (Cl P 48 #[t28, t29, t31] w.drew (Pk R) fun t32 w =>
  Ke P (Instr.loadAt 68 t8) t34 w <|
  Bs P 55 1 [(0, t34)] w fun t35 w =>
  Ke P (Instr.loadAt 69 t2) t28 w <|
  Ke P (Instr.loadAt 30 t5) t29 w <|
  Ke P (Instr.loadAt 30 t30) t31 w <|
  Bt P .append #[55, 55] 55 #[t6, t35] w fun t36 w =>
  Sto P 30 t5 t32 w fun w =>
  Bn P .add 3 true t18 (.int .i64 1) w fun t45 w =>
  k2 t36 t45 w) ∧
  (Bs P 55 1 [(0, t34)] w.drew fun t35x1 w =>
  Ke P (Instr.loadAt 69 t2) t28 w <|
  Ke P (Instr.loadAt 30 t5) t29 w <|
  Ke P (Instr.loadAt 30 t30) t31 w <|
  Cl P 48 #[t28, t29, t31] w (Pk R) fun t32x1 w =>
  Ke P (Instr.loadAt 68 t8) t34 w <|
  Bt P .append #[55, 55] 55 #[t6, t35x1] w fun t36x1 w =>
  Sto P 30 t5 t32x1 w fun w =>
  Bn P .add 3 true t18 (.int .i64 1) w fun t45x1 w =>
  k2 t36x1 t45x1 w))
  (Dv P false (Instr.loadAt 69 t2) w.drew fun t37 =>
  Dv P false (Instr.loadAt 30 t5) w.drew fun t38 =>
  Dv P false (Instr.loadAt 69 t2) w.drew fun t39 =>
  Dv P false (Instr.loadAt 30 (.pointer (some ⟨1, 0, none⟩))) w.drew fun t40 =>
  Dv P true (Instr.fieldAt 68 t8 1) w.drew fun t41 =>
  Dv P false (Instr.loadAt 30 t41) w.drew fun t42 =>
  Cl P 49 #[t39, t40, t42] w.drew (Pk R) fun t43 w =>
  Ke P (Instr.loadAt 69 t2) t37 w <|
  Ke P (Instr.loadAt 30 t5) t38 w <|
  Cl P 48 #[t37, t38, t43] w (Pk R) fun t44 w =>
  Sto P 30 t5 t44 w fun w =>
  Bn P .add 3 true t18 (.int .i64 1) w fun t45x2 w =>
  k2 t6 t45x2 w))
  (Ld P 30 t5 w fun t47 w =>
  Cw P t0 #[t47, t6] w (Pk R) fun t49 w =>
  Un P .not t49 w fun t50 w =>
  If t50
  (R (.returned (.tuple #[])) w)
  (Bn P .add 3 true t12 (.int .i64 1) w fun t51 w =>
  k1 t51 w))))
  (R (.returned (.tuple #[])) w))
theorem e_estimate_calculator_choices_1 {t0 t1 t2 : Value} {w : World} {R : Ending → World → Prop} (h : s_estimate_calculator_choices_1 Tryz.prog t0 t1 t2 w R) : Calls Tryz.prog 75 #[t0, t1, t2] w R :=
  enter (h := (.sq .z (.bk (.lp [12] [4, 5, 6, 7, 8, 13, 14, 15, 16, 17, 18, 19, 20, 21, 22, 23, 24, 25, 26, 27, 28, 29, 30, 31, 32, 33, 34, 35, 36, 37, 38, 39, 40, 41, 42, 43, 44, 45, 46, 47, 48, 49, 50, 51] (.sq .z (.sq (.cd .z .z) (.sq (.bk (.sq .z (.sq .z (.sq (.sq .z (.bk (.lp [6, 18] [7, 8, 19, 20, 21, 22, 23, 24, 25, 26, 27, 28, 29, 30, 31, 32, 33, 34, 35, 36, 37, 38, 39, 40, 41, 42, 43, 44, 45] (.sq .z (.sq (.cd .z .z) (.sq (.bk (.sq .z (.sq .z (.cd (.dr (.pur false 0 (.pur false 1 (.pur true 2 (.pur false 3 (.pur true 5 (.pur false 6 (.alt (.eff 4 [6] (.eff 7 [0, 1, 3] (.eff 8 [] (.eff 9 [] (.pur true 10 .done))))) (.eff 7 [0, 1, 3] (.eff 4 [6] (.eff 8 [] (.eff 9 [] (.pur true 10 .done))))))))))))) (.dr (.pur false 0 (.pur false 1 (.pur false 2 (.pur false 3 (.pur true 4 (.pur false 5 (.eff 6 [0, 1] (.eff 7 [] (.eff 8 [] .done)))))))))))))) .z)))))) (.sq .z (.cd .z .z)))))) .z))))))) (args := [t0, t1, t2]) Tryz.func75 (by kernel_rfl) (by kernel_rfl) (by kernel_rfl) (Eq.mp (by kernel_rfl) h)
theorem n_estimate_calculator_choices_1 : Enters Tryz.prog 75 := enters_of Tryz.func75 (by kernel_rfl) rfl
end Go.Proofs.YtnocjgmmglmfiaaGreatDoor
