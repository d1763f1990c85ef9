/-
  Contracts of functions of the program, and plain lemmas on numbers and strings. By an AI agent.
-/
import Derived.Test.YtnocjgmmglmfiaaGreatDoorEng
import Derived.Test.YtnocjgmmglmfiaaGreatDoorProg
set_option linter.unusedSimpArgs false
set_option linter.unusedVariables false
set_option linter.unusedSectionVars false
namespace Go.Proofs.YtnocjgmmglmfiaaGreatDoor
open Go Go.Eng Go.Shelf
set_option maxRecDepth 100000
set_option linter.unusedVariables false
def s_rational_Compare (P : Program) (t0 t1 : Value) (w : World) (R : Ending → World → Prop) : Prop :=
  Bx P 30 t0 w fun t2 w =>
  Bx P 30 t1 w fun t3 w =>
  Ld P 30 t2 w fun t13 w =>
  Cl P 28 #[t13] w (Pk R) fun t14 w =>
  Un P .not t14 w fun t15 w =>
  Gd t15 false (fun k => Ld P 30 t3 w k) w fun t17 w =>
  Gd t15 false (fun k => Cl P 28 #[t17] w (Pk R) k) w fun t18 w =>
  Gd t15 false (fun k => Un P .not t18 w k) w fun t19 w =>
  Pick t15 (.bool true) t19 w fun t20 w =>
  If t20
  (R (.returned (.int .i64 0)) w)
  (Lp1 (.int .i64 1) w (fun t5 w k1 =>
  Fa P 30 t2 0 w fun t22 w =>
  Ld P 9 t22 w fun t23 w =>
  Fa P 30 t2 1 w fun t24 w =>
  Ld P 9 t24 w fun t25 w =>
  Cl P 51 #[t23, t25] w (Pk R) fun t26 w =>
  Ex t26 0 w fun t27 w =>
  Ex t26 1 w fun t28 w =>
  Ex t26 2 w fun t29 w =>
  Fa P 30 t3 0 w fun t31 w =>
  Ld P 9 t31 w fun t32 w =>
  Fa P 30 t3 1 w fun t33 w =>
  Ld P 9 t33 w fun t34 w =>
  Cl P 51 #[t32, t34] w (Pk R) fun t35 w =>
  Ex t35 0 w fun t36 w =>
  Ex t35 1 w fun t37 w =>
  Ex t35 2 w fun t38 w =>
  Cl P 52 #[t27, t36] w (Pk R) fun t41 w =>
  Bn P .neq 3 true t41 (.int .i64 0) w fun t44 w =>
  If t44
  (Bn P .mul 3 false t5 t41 w fun t47 w =>
  R (.returned t47) w)
  (Bn P .eql 9 true t28 (str [48]) w fun t50 w =>
  Gd t50 true (fun k => k t37 w) w fun t52 w =>
  Gd t50 true (fun k => Bn P .eql 9 true t52 (str [48]) w k) w fun t53 w =>
  Pick t50 t53 (.bool false) w fun t54 w =>
  If t54
  (R (.returned (.int .i64 0)) w)
  (Bn P .eql 9 true t28 (str [48]) w fun t57 w =>
  If t57
  (Un P .neg t5 w fun t59 w =>
  R (.returned t59) w)
  (Bn P .eql 9 true t37 (str [48]) w fun t62 w =>
  If t62
  (R (.returned t5) w)
  (Dv P true (Instr.fieldAt 30 t2 1) w.drew fun t64 =>
  Dv P false (Instr.loadAt 9 t64) w.drew fun t65 =>
  Dv P true (Instr.build 30 #[(0, t65), (1, t28)]) w.drew fun t67 =>
  Dv P true (Instr.fieldAt 30 t3 1) w.drew fun t68 =>
  Dv P false (Instr.loadAt 9 t68) w.drew fun t69 =>
  Dv P true (Instr.build 30 #[(0, t69), (1, t37)]) w.drew fun t71 =>
  Dv P true (Op.unary .neg t5) w.drew fun t73 =>
  Sto P 30 t2 t67 w.drew fun w =>
  Ke P (Instr.loadAt 9 t68) t69 w <|
  Sto P 30 t3 t71 w fun w =>
  k1 t73 w))))))
theorem e_rational_Compare {t0 t1 : Value} {w : World} {R : Ending → World → Prop} (h : s_rational_Compare Tryz.prog t0 t1 w R) : Calls Tryz.prog 21 #[t0, t1] w R :=
  enter (h := (.sq .z (.sc [5] [4, 6, 7, 8, 9, 10, 11, 12, 21, 22, 23, 24, 25, 26, 27, 28, 29, 30, 31, 32, 33, 34, 35, 36, 37, 38, 39, 40, 41, 42, 43, 44, 45, 46, 47, 48, 49, 50, 51, 52, 53, 54, 55, 56, 57, 58, 59, 60, 61, 62, 63, 64, 65, 66, 67, 68, 69, 70, 71, 72, 73] (.sq .z (.cd (.sq .z .z) .z)) .z (.sq .z (.sq .z (.sq (.sq .z (.bk (.sq .z (.cd (.sq .z .z) (.sq .z (.cd (.sq .z .z) (.sq .z (.cd (.sq .z .z) (.sq .z (.cd (.sq .z .z) .z)))))))))) (.sq (.dr (.pur true 0 (.pur false 1 (.pur true 2 (.pur true 3 (.pur true 4 (.pur false 5 (.pur true 6 (.pur true 7 (.pur true 8 (.pur true 9 (.eff 10 [5] (.eff 11 [] (.pur true 12 .done)))))))))))))) .z))))))) (args := [t0, t1]) Tryz.func21 (by kernel_rfl) (by kernel_rfl) (by kernel_rfl) (Eq.mp (by kernel_rfl) h)
theorem n_rational_Compare : Enters Tryz.prog 21 := enters_of Tryz.func21 (by kernel_rfl) rfl
def s_rational_Mul (P : Program) (t0 t1 : Value) (w : World) (R : Ending → World → Prop) : Prop :=
  Bx P 30 t0 w fun t2 w =>
  Bx P 30 t1 w fun t3 w =>
  Al P 30 w fun t4 w =>
  Bd P 83 [] w fun t8 w =>
  Bx P 83 t8 w fun t9 w =>
  Ld P 30 t2 w fun t11 w =>
  Ld P 30 t3 w fun t12 w =>
  Bs P 23 2 [(0, t11), (1, t12)] w fun t13 w =>
  Cl P 54 #[t9, t13] w (Pk R) fun t14 w =>
  Fa P 30 t2 0 w fun t16 w =>
  Ld P 9 t16 w fun t17 w =>
  Fa P 30 t3 0 w fun t18 w =>
  Ld P 9 t18 w fun t19 w =>
  Cl P 55 #[t9, t17, t19] w (Pk R) fun t20 w =>
  Fa P 30 t2 1 w fun t24 w =>
  Ld P 9 t24 w fun t25 w =>
  Fa P 30 t3 1 w fun t26 w =>
  Ld P 9 t26 w fun t27 w =>
  Cl P 55 #[t9, t25, t27] w (Pk R) fun t28 w =>
  Cl P 56 #[t9, t20, t28] w (Pk R) fun t29 w =>
  Ex t29 0 w fun t30 w =>
  Ex t29 1 w fun t31 w =>
  Sto P 30 t4 t30 w fun w =>
  Rc P 30 t4 w fun r0 =>
  R (.returned (.tuple #[r0, t31])) w
theorem e_rational_Mul {t0 t1 : Value} {w : World} {R : Ending → World → Prop} (h : s_rational_Mul Tryz.prog t0 t1 w R) : Calls Tryz.prog 24 #[t0, t1] w R :=
  enter (h := (.sq .z (.sq .z (.sq .z (.sq .z (.sq .z .z)))))) (args := [t0, t1]) Tryz.func24 (by kernel_rfl) (by kernel_rfl) (by kernel_rfl) (Eq.mp (by kernel_rfl) h)
theorem n_rational_Mul : Enters Tryz.prog 24 := enters_of Tryz.func24 (by kernel_rfl) rfl
def s_rational_Add (P : Program) (t0 t1 : Value) (w : World) (R : Ending → World → Prop) : Prop :=
  Bx P 30 t0 w fun t2 w =>
  Bx P 30 t1 w fun t3 w =>
  Al P 30 w fun t4 w =>
  Ld P 30 t2 w fun t6 w =>
  Ld P 30 t3 w fun t7 w =>
  Cl P 57 #[(.func (.func 58) #[] #[]), t6, t7] w (Pk R) fun t8 w =>
  Ex t8 0 w fun t9 w =>
  Ex t8 1 w fun t10 w =>
  Sto P 30 t4 t9 w fun w =>
  Rc P 30 t4 w fun r0 =>
  R (.returned (.tuple #[r0, t10])) w
theorem e_rational_Add {t0 t1 : Value} {w : World} {R : Ending → World → Prop} (h : s_rational_Add Tryz.prog t0 t1 w R) : Calls Tryz.prog 25 #[t0, t1] w R :=
  enter (h := (.sq .z (.sq .z .z))) (args := [t0, t1]) Tryz.func25 (by kernel_rfl) (by kernel_rfl) (by kernel_rfl) (Eq.mp (by kernel_rfl) h)
theorem n_rational_Add : Enters Tryz.prog 25 := enters_of Tryz.func25 (by kernel_rfl) rfl
def s_rational_Div (P : Program) (t0 t1 : Value) (w : World) (R : Ending → World → Prop) : Prop :=
  Bx P 30 t0 w fun t2 w =>
  Bx P 30 t1 w fun t3 w =>
  Al P 30 w fun t4 w =>
  Bd P 83 [] w fun t8 w =>
  Bx P 83 t8 w fun t9 w =>
  Ld P 30 t2 w fun t11 w =>
  Ld P 30 t3 w fun t12 w =>
  Bs P 23 2 [(0, t11), (1, t12)] w fun t13 w =>
  Cl P 54 #[t9, t13] w (Pk R) fun t14 w =>
  Fa P 30 t2 0 w fun t16 w =>
  Ld P 9 t16 w fun t17 w =>
  Fa P 30 t3 1 w fun t18 w =>
  Ld P 9 t18 w fun t19 w =>
  Cl P 55 #[t9, t17, t19] w (Pk R) fun t20 w =>
  Fa P 30 t2 1 w fun t24 w =>
  Ld P 9 t24 w fun t25 w =>
  Fa P 30 t3 0 w fun t26 w =>
  Ld P 9 t26 w fun t27 w =>
  Cl P 55 #[t9, t25, t27] w (Pk R) fun t28 w =>
  Cl P 56 #[t9, t20, t28] w (Pk R) fun t29 w =>
  Ex t29 0 w fun t30 w =>
  Ex t29 1 w fun t31 w =>
  Sto P 30 t4 t30 w fun w =>
  Rc P 30 t4 w fun r0 =>
  R (.returned (.tuple #[r0, t31])) w
theorem e_rational_Div {t0 t1 : Value} {w : World} {R : Ending → World → Prop} (h : s_rational_Div Tryz.prog t0 t1 w R) : Calls Tryz.prog 26 #[t0, t1] w R :=
  enter (h := (.sq .z (.sq .z (.sq .z (.sq .z (.sq .z .z)))))) (args := [t0, t1]) Tryz.func26 (by kernel_rfl) (by kernel_rfl) (by kernel_rfl) (Eq.mp (by kernel_rfl) h)
theorem n_rational_Div : Enters Tryz.prog 26 := enters_of Tryz.func26 (by kernel_rfl) rfl
def s_rational_Sub (P : Program) (t0 t1 : Value) (w : World) (R : Ending → World → Prop) : Prop :=
  Bx P 30 t0 w fun t2 w =>
  Bx P 30 t1 w fun t3 w =>
  Al P 30 w fun t4 w =>
  Ld P 30 t2 w fun t6 w =>
  Ld P 30 t3 w fun t7 w =>
  Cl P 57 #[(.func (.func 59) #[] #[]), t6, t7] w (Pk R) fun t8 w =>
  Ex t8 0 w fun t9 w =>
  Ex t8 1 w fun t10 w =>
  Sto P 30 t4 t9 w fun w =>
  Rc P 30 t4 w fun r0 =>
  R (.returned (.tuple #[r0, t10])) w
theorem e_rational_Sub {t0 t1 : Value} {w : World} {R : Ending → World → Prop} (h : s_rational_Sub Tryz.prog t0 t1 w R) : Calls Tryz.prog 27 #[t0, t1] w R :=
  enter (h := (.sq .z (.sq .z .z))) (args := [t0, t1]) Tryz.func27 (by kernel_rfl) (by kernel_rfl) (by kernel_rfl) (Eq.mp (by kernel_rfl) h)
theorem n_rational_Sub : Enters Tryz.prog 27 := enters_of Tryz.func27 (by kernel_rfl) rfl
def s_rational_Valid (P : Program) (t0 : Value) (w : World) (R : Ending → World → Prop) : Prop :=
  Bx P 30 t0 w fun t1 w =>
  Fa P 30 t1 0 w fun t5 w =>
  Ld P 9 t5 w fun t6 w =>
  Cl P 60 #[t6] w (Pk R) fun t7 w =>
  Un P .not t7 w fun t8 w =>
  Gd t8 false (fun k => Fa P 30 t1 1 w k) w fun t10 w =>
  Gd t8 false (fun k => Ld P 9 t10 w k) w fun t11 w =>
  Gd t8 false (fun k => Cl P 60 #[t11] w (Pk R) k) w fun t12 w =>
  Gd t8 false (fun k => Un P .not t12 w k) w fun t13 w =>
  Pick t8 (.bool true) t13 w fun t14 w =>
  Gd t14 false (fun k => Fa P 30 t1 1 w k) w fun t16 w =>
  Gd t14 false (fun k => Ld P 9 t16 w k) w fun t17 w =>
  Gd t14 false (fun k => Cl P 52 #[t17, (str [48])] w (Pk R) k) w fun t18 w =>
  Gd t14 false (fun k => Bn P .leq 3 true t18 (.int .i64 0) w k) w fun t19 w =>
  Pick t14 (.bool true) t19 w fun t20 w =>
  If t20
  (R (.returned (.bool false)) w)
  (Fa P 30 t1 0 w fun t22 w =>
  Ld P 9 t22 w fun t23 w =>
  Fa P 30 t1 1 w fun t24 w =>
  Ld P 9 t24 w fun t25 w =>
  Cl P 61 #[t23, t25] w (Pk R) fun t26 w =>
  Ex t26 0 w fun t27 w =>
  Ex t26 1 w fun t28 w =>
  Bn P .eql 31 true t28 (.int .i64 0) w fun t30 w =>
  Gd t30 true (fun k => k t27 w) w fun t32 w =>
  Gd t30 true (fun k => Bn P .eql 9 true t32 (str [49]) w k) w fun t33 w =>
  Pick t30 t33 (.bool false) w fun t34 w =>
  R (.returned t34) w)
theorem e_rational_Valid {t0 : Value} {w : World} {R : Ending → World → Prop} (h : s_rational_Valid Tryz.prog t0 w R) : Calls Tryz.prog 28 #[t0] w R :=
  enter (h := (.sq .z (.sq (.sq .z (.cd (.sq .z .z) .z)) (.sq .z (.sq .z .z))))) (args := [t0]) Tryz.func28 (by kernel_rfl) (by kernel_rfl) (by kernel_rfl) (Eq.mp (by kernel_rfl) h)
theorem n_rational_Valid : Enters Tryz.prog 28 := enters_of Tryz.func28 (by kernel_rfl) rfl
def s_ref04_Of (P : Program) (t0 t1 : Value) (w : World) (R : Ending → World → Prop) : Prop :=
  Al P 30 w fun t4 w =>
  Cl P 63 #[t0] w (Pk R) fun t7 w =>
  Cl P 63 #[t1] w (Pk R) fun t9 w =>
  Cl P 62 #[t7, t9] w (Pk R) fun t10 w =>
  Ex t10 0 w fun t11 w =>
  Ex t10 1 w fun t12 w =>
  Sto P 30 t4 t11 w fun w =>
  Rc P 30 t4 w fun r0 =>
  R (.returned (.tuple #[r0, t12])) w
theorem e_ref04_Of {t0 t1 : Value} {w : World} {R : Ending → World → Prop} (h : s_ref04_Of Tryz.prog t0 t1 w R) : Calls Tryz.prog 30 #[t0, t1] w R :=
  enter (h := (.sq .z (.sq .z .z))) (args := [t0, t1]) Tryz.func30 (by kernel_rfl) (by kernel_rfl) (by kernel_rfl) (Eq.mp (by kernel_rfl) h)
theorem n_ref04_Of : Enters Tryz.prog 30 := enters_of Tryz.func30 (by kernel_rfl) rfl
def s_integer_Div (P : Program) (t0 t1 : Value) (w : World) (R : Ending → World → Prop) : Prop :=
  Cl P 76 #[t0, t1] w (Pk R) fun t19 w =>
  Ex t19 0 w fun t20 w =>
  Ex t19 1 w fun t21 w =>
  Ex t19 2 w fun t22 w =>
  Al P 96 w fun t7 w =>
  Al P 96 w fun t8 w =>
  Sto P 96 t7 t20 w fun w =>
  Sto P 96 t8 t21 w fun w =>
  Un P .not t22 w fun t24 w =>
  Gd t24 false (fun k => Fa P 96 t8 1 w k) w fun t26 w =>
  Gd t24 false (fun k => Ld P 94 t26 w k) w fun t27 w =>
  Gd t24 false (fun k => Bt P .len #[94] 3 #[t27] w k) w fun t28 w =>
  Gd t24 false (fun k => Bn P .eql 3 true t28 (.int .i64 0) w k) w fun t29 w =>
  Pick t24 (.bool true) t29 w fun t30 w =>
  If t30
  (R (.returned (.tuple #[(str []), (str []), (.int .i64 30)])) w)
  (Fa P 96 t7 1 w fun t32 w =>
  Ld P 94 t32 w fun t33 w =>
  Fa P 96 t8 1 w fun t34 w =>
  Ld P 94 t34 w fun t35 w =>
  Cl P 77 #[t33, t35] w (Pk R) fun t36 w =>
  Ex t36 0 w fun t37 w =>
  Ex t36 1 w fun t38 w =>
  Jn2 (fun k1 =>
  Fa P 96 t7 0 w fun t39 w =>
  Ld P 4 t39 w fun t40 w =>
  Gd t40 true (fun k => k t38 w) w fun t42 w =>
  Gd t40 true (fun k => Bt P .len #[94] 3 #[t42] w k) w fun t43 w =>
  Gd t40 true (fun k => Bn P .gtr 3 true t43 (.int .i64 0) w k) w fun t44 w =>
  Pick t40 t44 (.bool false) w fun t45 w =>
  If t45
  (Dv P true (Instr.fieldAt 96 t8 1) w.drew fun t49 =>
  Dv P false (Instr.loadAt 94 t49) w.drew fun t50 =>
  Cl P 79 #[] w.drew (Pk R) fun t47 w =>
  Ke P (Instr.loadAt 94 t49) t50 w <|
  Cl P 78 #[t37, t47] w (Pk R) fun t48 w =>
  Ke P (Instr.loadAt 94 t49) t50 w <|
  Cl P 80 #[t50, t38] w (Pk R) fun t52 w =>
  k1 t48 t52 w)
  (k1 t37 t38 w))
  (fun t10 t11 w =>
  Fa P 96 t7 0 w fun t54 w =>
  Ld P 4 t54 w fun t55 w =>
  Fa P 96 t8 0 w fun t56 w =>
  Ld P 4 t56 w fun t57 w =>
  Bn P .neq 4 false t55 t57 w fun t58 w =>
  Bd P 96 [(0, t58), (1, t10)] w fun t60 w =>
  Cl P 81 #[t60] w (Pk R) fun t61 w =>
  Ex t61 0 w fun t62 w =>
  Ex t61 1 w fun t63 w =>
  Bn P .neq 31 true t63 (.int .i64 0) w fun t65 w =>
  If t65
  (R (.returned (.tuple #[(str []), (str []), t63])) w)
  (Bd P 96 [(1, t11)] w fun t69 w =>
  Cl P 81 #[t69] w (Pk R) fun t70 w =>
  Ex t70 0 w fun t71 w =>
  Ex t70 1 w fun t72 w =>
  R (.returned (.tuple #[t62, t71, (.int .i64 0)])) w)))
theorem e_integer_Div {t0 t1 : Value} {w : World} {R : Ending → World → Prop} (h : s_integer_Div Tryz.prog t0 t1 w R) : Calls Tryz.prog 51 #[t0, t1] w R :=
  enter (h := (.sq .z (.sq .z (.sq (.sq .z (.cd (.sq .z .z) .z)) (.sq .z (.jn [10, 11] [39, 40, 41, 42, 43, 44, 45, 46, 47, 48, 49, 50, 51, 52] (.sq .z (.cd (.dr (.pur true 0 (.pur true 3 (.pur false 4 (.pur true 5 (.eff 1 [4] (.eff 2 [4] (.eff 6 [] (.pur true 7 (.pur true 8 .done)))))))))) .z)) (.sq .z (.sq (.sq .z (.cd (.sq .z .z) .z)) (.sq .z (.sq .z .z)))))))))) (args := [t0, t1]) Tryz.func51 (by kernel_rfl) (by kernel_rfl) (by kernel_rfl) (Eq.mp (by kernel_rfl) h)
theorem n_integer_Div : Enters Tryz.prog 51 := enters_of Tryz.func51 (by kernel_rfl) rfl
def s_integer_Compare (P : Program) (t0 t1 : Value) (w : World) (R : Ending → World → Prop) : Prop :=
  Cl P 76 #[t0, t1] w (Pk R) fun t11 w =>
  Ex t11 0 w fun t12 w =>
  Ex t11 1 w fun t13 w =>
  Ex t11 2 w fun t14 w =>
  Al P 96 w fun t5 w =>
  Al P 96 w fun t6 w =>
  Sto P 96 t5 t12 w fun w =>
  Sto P 96 t6 t13 w fun w =>
  Un P .not t14 w fun t17 w =>
  If t17
  (R (.returned (.int .i64 0)) w)
  (Fa P 96 t5 0 w fun t19 w =>
  Ld P 4 t19 w fun t20 w =>
  Gd t20 true (fun k => Fa P 96 t6 0 w k) w fun t22 w =>
  Gd t20 true (fun k => Ld P 4 t22 w k) w fun t23 w =>
  Pick t20 t23 (.bool false) w fun t24 w =>
  If t24
  (Fa P 96 t6 1 w fun t25 w =>
  Ld P 94 t25 w fun t26 w =>
  Fa P 96 t5 1 w fun t27 w =>
  Ld P 94 t27 w fun t28 w =>
  Cl P 82 #[t26, t28] w (Pk R) fun t29 w =>
  R (.returned t29) w)
  (Fa P 96 t5 0 w fun t31 w =>
  Ld P 4 t31 w fun t32 w =>
  If t32
  (R (.returned (.int .i64 (-1))) w)
  (Fa P 96 t6 0 w fun t34 w =>
  Ld P 4 t34 w fun t35 w =>
  If t35
  (R (.returned (.int .i64 1)) w)
  (Fa P 96 t5 1 w fun t36 w =>
  Ld P 94 t36 w fun t37 w =>
  Fa P 96 t6 1 w fun t38 w =>
  Ld P 94 t38 w fun t39 w =>
  Cl P 82 #[t37, t39] w (Pk R) fun t40 w =>
  R (.returned t40) w))))
theorem e_integer_Compare {t0 t1 : Value} {w : World} {R : Ending → World → Prop} (h : s_integer_Compare Tryz.prog t0 t1 w R) : Calls Tryz.prog 52 #[t0, t1] w R :=
  enter (h := (.sq .z (.sq .z (.sq (.bk (.sq .z (.cd (.sq .z .z) (.sq .z (.cd (.sq .z .z) (.sq .z (.cd (.sq .z .z) (.sq .z (.cd (.sq .z .z) .z))))))))) (.sq .z .z))))) (args := [t0, t1]) Tryz.func52 (by kernel_rfl) (by kernel_rfl) (by kernel_rfl) (Eq.mp (by kernel_rfl) h)
theorem n_integer_Compare : Enters Tryz.prog 52 := enters_of Tryz.func52 (by kernel_rfl) rfl
def s_rational_Of (P : Program) (t0 t1 : Value) (w : World) (R : Ending → World → Prop) : Prop :=
  Al P 30 w fun t4 w =>
  Cl P 84 #[t0] w (Pk R) fun t7 w =>
  Cl P 84 #[t1] w (Pk R) fun t9 w =>
  Cl P 83 #[t7, t9] w (Pk R) fun t10 w =>
  Ex t10 0 w fun t11 w =>
  Ex t10 1 w fun t12 w =>
  Sto P 30 t4 t11 w fun w =>
  Rc P 30 t4 w fun r0 =>
  R (.returned (.tuple #[r0, t12])) w
theorem e_rational_Of {t0 t1 : Value} {w : World} {R : Ending → World → Prop} (h : s_rational_Of Tryz.prog t0 t1 w R) : Calls Tryz.prog 53 #[t0, t1] w R :=
  enter (h := (.sq .z (.sq .z .z))) (args := [t0, t1]) Tryz.func53 (by kernel_rfl) (by kernel_rfl) (by kernel_rfl) (Eq.mp (by kernel_rfl) h)
theorem n_rational_Of : Enters Tryz.prog 53 := enters_of Tryz.func53 (by kernel_rfl) rfl
def s_rational_work_check (P : Program) (t0 t1 : Value) (w : World) (R : Ending → World → Prop) : Prop :=
  Bt P .len #[23] 3 #[t1] w fun t7 w =>
  Lp1 (.int .i64 0) w (fun t8 w k1 =>
  Bn P .lss 3 false t8 t7 w fun t9 w =>
  If t9
  (Ia P 23 t1 t8 w fun t10 w =>
  Ld P 30 t10 w fun t11 w =>
  Al P 30 w fun t5 w =>
  Sto P 30 t5 t11 w fun w =>
  Nc t0 w fun t14 w =>
  Fa P 83 t14 0 w fun t15 w =>
  Ld P 4 t15 w fun t16 w =>
  Gd t16 false (fun k => Ld P 30 t5 w k) w fun t18 w =>
  Gd t16 false (fun k => Cl P 28 #[t18] w (Pk R) k) w fun t19 w =>
  Gd t16 false (fun k => Un P .not t19 w k) w fun t20 w =>
  Pick t16 (.bool true) t20 w fun t21 w =>
  Nc t0 w fun t22 w =>
  Fa P 83 t22 0 w fun t23 w =>
  Sto P 4 t23 t21 w fun w =>
  Bn P .add 3 true t8 (.int .i64 1) w fun t24 w =>
  k1 t24 w)
  (R (.returned (.tuple #[])) w))
theorem e_rational_work_check {t0 t1 : Value} {w : World} {R : Ending → World → Prop} (h : s_rational_work_check Tryz.prog t0 t1 w R) : Calls Tryz.prog 54 #[t0, t1] w R :=
  enter (h := (.sq .z (.bk (.lp [8] [5, 9, 10, 11, 12, 13, 14, 15, 16, 17, 18, 19, 20, 21, 22, 23, 24] (.sq .z (.sq (.cd .z .z) (.sq (.bk (.sq .z .z)) .z))))))) (args := [t0, t1]) Tryz.func54 (by kernel_rfl) (by kernel_rfl) (by kernel_rfl) (Eq.mp (by kernel_rfl) h)
theorem n_rational_work_check : Enters Tryz.prog 54 := enters_of Tryz.func54 (by kernel_rfl) rfl
def s_rational_work_mul (P : Program) (t0 t1 t2 : Value) (w : World) (R : Ending → World → Prop) : Prop :=
  Cl P 85 #[t0, (.func (.func 86) #[] #[]), t1, t2] w (Pk R) fun t10 w =>
  R (.returned t10) w
theorem e_rational_work_mul {t0 t1 t2 : Value} {w : World} {R : Ending → World → Prop} (h : s_rational_work_mul Tryz.prog t0 t1 t2 w R) : Calls Tryz.prog 55 #[t0, t1, t2] w R :=
  enter (h := (.sq .z (.sq .z .z))) (args := [t0, t1, t2]) Tryz.func55 (by kernel_rfl) (by kernel_rfl) (by kernel_rfl) (Eq.mp (by kernel_rfl) h)
theorem n_rational_work_mul : Enters Tryz.prog 55 := enters_of Tryz.func55 (by kernel_rfl) rfl
def s_rational_work_reduced (P : Program) (t0 t1 t2 : Value) (w : World) (R : Ending → World → Prop) : Prop :=
  Al P 30 w fun t6 w =>
  Nc t0 w fun t11 w =>
  Fa P 83 t11 0 w fun t12 w =>
  Ld P 4 t12 w fun t13 w =>
  Gd t13 false (fun k => k t2 w) w fun t15 w =>
  Gd t13 false (fun k => Bn P .eql 9 true t15 (str [48]) w k) w fun t16 w =>
  Pick t13 (.bool true) t16 w fun t17 w =>
  If t17
  (Bd P 30 [] w fun t18 w =>
  Sto P 30 t6 t18 w fun w =>
  Rc P 30 t6 w fun r0 =>
  R (.returned (.tuple #[r0, (.int .i64 40)])) w)
  (Jn2 (fun k1 =>
  Cl P 52 #[t2, (str [48])] w (Pk R) fun t20 w =>
  Bn P .lss 3 true t20 (.int .i64 0) w fun t21 w =>
  If t21
  (Cl P 85 #[t0, (.func (.func 59) #[] #[]), (str [48]), t1] w (Pk R) fun t24 w =>
  Cl P 85 #[t0, (.func (.func 59) #[] #[]), (str [48]), t2] w (Pk R) fun t27 w =>
  k1 t24 t27 w)
  (k1 t1 t2 w))
  (fun t1x1 t2x1 w =>
  Cl P 85 #[t0, (.func (.func 61) #[] #[]), t1x1, t2x1] w (Pk R) fun t31 w =>
  Cl P 87 #[t0, t1x1, t31] w (Pk R) fun t35 w =>
  Cl P 87 #[t0, t2x1, t31] w (Pk R) fun t39 w =>
  Bd P 30 [(0, t35), (1, t39)] w fun t40 w =>
  Al P 30 w fun t9 w =>
  Sto P 30 t9 t40 w fun w =>
  Nc t0 w fun t42 w =>
  Fa P 83 t42 0 w fun t43 w =>
  Ld P 4 t43 w fun t44 w =>
  If t44
  (Bd P 30 [] w fun t45 w =>
  Sto P 30 t6 t45 w fun w =>
  Rc P 30 t6 w fun r0 =>
  R (.returned (.tuple #[r0, (.int .i64 40)])) w)
  (Ld P 30 t9 w fun t46 w =>
  Sto P 30 t6 t46 w fun w =>
  Rc P 30 t6 w fun r0 =>
  R (.returned (.tuple #[r0, (.int .i64 0)])) w)))
theorem e_rational_work_reduced {t0 t1 t2 : Value} {w : World} {R : Ending → World → Prop} (h : s_rational_work_reduced Tryz.prog t0 t1 t2 w R) : Calls Tryz.prog 56 #[t0, t1, t2] w R :=
  enter (h := (.sq .z (.sq (.sq .z (.cd (.sq .z .z) .z)) (.jn [1, 2] [19, 20, 21, 22, 23, 24, 25, 26, 27] (.sq .z (.cd .z .z)) (.sq .z (.sq .z (.sq (.sq .z (.cd (.sq .z .z) .z)) (.sq .z .z)))))))) (args := [t0, t1, t2]) Tryz.func56 (by kernel_rfl) (by kernel_rfl) (by kernel_rfl) (Eq.mp (by kernel_rfl) h)
theorem n_rational_work_reduced : Enters Tryz.prog 56 := enters_of Tryz.func56 (by kernel_rfl) rfl
def s_rational_sum (P : Program) (t0 t1 t2 : Value) (w : World) (R : Ending → World → Prop) : Prop :=
  Bx P 30 t1 w fun t4 w =>
  Bx P 30 t2 w fun t5 w =>
  Al P 30 w fun t6 w =>
  Bd P 83 [] w fun t10 w =>
  Bx P 83 t10 w fun t11 w =>
  Ld P 30 t4 w fun t13 w =>
  Ld P 30 t5 w fun t14 w =>
  Bs P 23 2 [(0, t13), (1, t14)] w fun t15 w =>
  Cl P 54 #[t11, t15] w (Pk R) fun t16 w =>
  Dv P true (Instr.fieldAt 30 t4 0) w.drew fun t20 =>
  Dv P false (Instr.loadAt 9 t20) w.drew fun t21 =>
  Dv P true (Instr.fieldAt 30 t5 1) w.drew fun t22 =>
  Dv P false (Instr.loadAt 9 t22) w.drew fun t23 =>
  Dv P true (Instr.fieldAt 30 t5 0) w.drew fun t26 =>
  Dv P false (Instr.loadAt 9 t26) w.drew fun t27 =>
  Dv P true (Instr.fieldAt 30 t4 1) w.drew fun t28 =>
  Dv P false (Instr.loadAt 9 t28) w.drew fun t29 =>
  Cl P 55 #[t11, t21, t23] w.drew (Pk R) fun t24 w =>
  Ke P (Instr.loadAt 9 t26) t27 w <|
  Ke P (Instr.loadAt 9 t28) t29 w <|
  Cl P 55 #[t11, t27, t29] w (Pk R) fun t30 w =>
  Cl P 85 #[t11, t0, t24, t30] w (Pk R) fun t31 w =>
  Fa P 30 t4 1 w fun t35 w =>
  Ld P 9 t35 w fun t36 w =>
  Fa P 30 t5 1 w fun t37 w =>
  Ld P 9 t37 w fun t38 w =>
  Cl P 55 #[t11, t36, t38] w (Pk R) fun t39 w =>
  Cl P 56 #[t11, t31, t39] w (Pk R) fun t40 w =>
  Ex t40 0 w fun t41 w =>
  Ex t40 1 w fun t42 w =>
  Sto P 30 t6 t41 w fun w =>
  Rc P 30 t6 w fun r0 =>
  R (.returned (.tuple #[r0, t42])) w
theorem e_rational_sum {t0 t1 t2 : Value} {w : World} {R : Ending → World → Prop} (h : s_rational_sum Tryz.prog t0 t1 t2 w R) : Calls Tryz.prog 57 #[t0, t1, t2] w R :=
  enter (h := (.sq .z (.sq .z (.sq .z (.sq (.dr (.pur true 0 (.pur true 1 (.pur true 2 (.pur true 3 (.pur false 4 (.pur true 5 (.pur false 6 (.pur true 8 (.pur true 9 (.pur false 10 (.pur true 11 (.pur false 12 (.eff 7 [10, 12] (.eff 13 [] (.eff 14 [] (.pur true 15 .done))))))))))))))))) (.sq .z .z)))))) (args := [t0, t1, t2]) Tryz.func57 (by kernel_rfl) (by kernel_rfl) (by kernel_rfl) (Eq.mp (by kernel_rfl) h)
theorem n_rational_sum : Enters Tryz.prog 57 := enters_of Tryz.func57 (by kernel_rfl) rfl
def s_integer_Add (P : Program) (t0 t1 : Value) (w : World) (R : Ending → World → Prop) : Prop :=
  Cl P 76 #[t0, t1] w (Pk R) fun t12 w =>
  Ex t12 0 w fun t13 w =>
  Ex t12 1 w fun t14 w =>
  Ex t12 2 w fun t15 w =>
  Al P 96 w fun t6 w =>
  Al P 96 w fun t7 w =>
  Sto P 96 t6 t13 w fun w =>
  Sto P 96 t7 t14 w fun w =>
  Un P .not t15 w fun t17 w =>
  If t17
  (R (.returned (.tuple #[(str []), (.int .i64 30)])) w)
  (Ld P 96 t6 w fun t18 w =>
  Ld P 96 t7 w fun t19 w =>
  Cl P 88 #[t18, t19] w (Pk R) fun t20 w =>
  Cl P 81 #[t20] w (Pk R) fun t21 w =>
  Ex t21 0 w fun t22 w =>
  Ex t21 1 w fun t23 w =>
  R (.returned (.tuple #[t22, t23])) w)
theorem e_integer_Add {t0 t1 : Value} {w : World} {R : Ending → World → Prop} (h : s_integer_Add Tryz.prog t0 t1 w R) : Calls Tryz.prog 58 #[t0, t1] w R :=
  enter (h := (.sq .z (.sq .z (.sq (.sq .z (.cd (.sq .z .z) .z)) (.sq .z .z))))) (args := [t0, t1]) Tryz.func58 (by kernel_rfl) (by kernel_rfl) (by kernel_rfl) (Eq.mp (by kernel_rfl) h)
theorem n_integer_Add : Enters Tryz.prog 58 := enters_of Tryz.func58 (by kernel_rfl) rfl
def s_integer_Sub (P : Program) (t0 t1 : Value) (w : World) (R : Ending → World → Prop) : Prop :=
  Cl P 76 #[t0, t1] w (Pk R) fun t12 w =>
  Ex t12 0 w fun t13 w =>
  Ex t12 1 w fun t14 w =>
  Ex t12 2 w fun t15 w =>
  Al P 96 w fun t6 w =>
  Al P 96 w fun t7 w =>
  Sto P 96 t6 t13 w fun w =>
  Sto P 96 t7 t14 w fun w =>
  Un P .not t15 w fun t17 w =>
  If t17
  (R (.returned (.tuple #[(str []), (.int .i64 30)])) w)
  (Fa P 96 t7 0 w fun t18 w =>
  Ld P 4 t18 w fun t19 w =>
  Un P .not t19 w fun t20 w =>
  Fa P 96 t7 0 w fun t21 w =>
  Sto P 4 t21 t20 w fun w =>
  Ld P 96 t6 w fun t22 w =>
  Ld P 96 t7 w fun t23 w =>
  Cl P 88 #[t22, t23] w (Pk R) fun t24 w =>
  Cl P 81 #[t24] w (Pk R) fun t25 w =>
  Ex t25 0 w fun t26 w =>
  Ex t25 1 w fun t27 w =>
  R (.returned (.tuple #[t26, t27])) w)
theorem e_integer_Sub {t0 t1 : Value} {w : World} {R : Ending → World → Prop} (h : s_integer_Sub Tryz.prog t0 t1 w R) : Calls Tryz.prog 59 #[t0, t1] w R :=
  enter (h := (.sq .z (.sq .z (.sq (.sq .z (.cd (.sq .z .z) .z)) (.sq .z (.sq .z .z)))))) (args := [t0, t1]) Tryz.func59 (by kernel_rfl) (by kernel_rfl) (by kernel_rfl) (Eq.mp (by kernel_rfl) h)
theorem n_integer_Sub : Enters Tryz.prog 59 := enters_of Tryz.func59 (by kernel_rfl) rfl
def s_integer_Valid (P : Program) (t0 : Value) (w : World) (R : Ending → World → Prop) : Prop :=
  Cl P 89 #[t0] w (Pk R) fun t4 w =>
  R (.returned t4) w
theorem e_integer_Valid {t0 : Value} {w : World} {R : Ending → World → Prop} (h : s_integer_Valid Tryz.prog t0 w R) : Calls Tryz.prog 60 #[t0] w R :=
  enter (h := (.sq .z (.sq .z .z))) (args := [t0]) Tryz.func60 (by kernel_rfl) (by kernel_rfl) (by kernel_rfl) (Eq.mp (by kernel_rfl) h)
theorem n_integer_Valid : Enters Tryz.prog 60 := enters_of Tryz.func60 (by kernel_rfl) rfl
def s_integer_Gcd (P : Program) (t0 t1 : Value) (w : World) (R : Ending → World → Prop) : Prop :=
  Cl P 76 #[t0, t1] w (Pk R) fun t16 w =>
  Ex t16 0 w fun t17 w =>
  Ex t16 1 w fun t18 w =>
  Ex t16 2 w fun t19 w =>
  Al P 96 w fun t6 w =>
  Al P 96 w fun t7 w =>
  Sto P 96 t6 t17 w fun w =>
  Sto P 96 t7 t18 w fun w =>
  Un P .not t19 w fun t21 w =>
  If t21
  (R (.returned (.tuple #[(str []), (.int .i64 30)])) w)
  (Dv P true (Instr.fieldAt 96 t6 1) w.drew fun t22 =>
  Dv P false (Instr.loadAt 94 t22) w.drew fun t23 =>
  Dv P true (Instr.fieldAt 96 t7 1) w.drew fun t24 =>
  Dv P false (Instr.loadAt 94 t24) w.drew fun t25 =>
  Lp2 t23 t25 w.drew (fun t9 t10 w k1 =>
  Bt P .len #[94] 3 #[t10] w fun t27 w =>
  Bn P .gtr 3 true t27 (.int .i64 0) w fun t28 w =>
  If t28
  (Cl P 77 #[t9, t10] w (Pk R) fun t32 w =>
  Ex t32 0 w fun t33 w =>
  Ex t32 1 w fun t34 w =>
  k1 t10 t34 w)
  (Bd P 96 [(1, t9)] w fun t38 w =>
  Cl P 81 #[t38] w (Pk R) fun t39 w =>
  Ex t39 0 w fun t40 w =>
  Ex t39 1 w fun t41 w =>
  R (.returned (.tuple #[t40, t41])) w)))
theorem e_integer_Gcd {t0 t1 : Value} {w : World} {R : Ending → World → Prop} (h : s_integer_Gcd Tryz.prog t0 t1 w R) : Calls Tryz.prog 61 #[t0, t1] w R :=
  enter (h := (.sq .z (.sq .z (.sq (.sq .z (.cd (.sq .z .z) .z)) (.sq (.dr (.pur true 0 (.pur false 1 (.pur true 2 (.pur false 3 (.pur true 4 (.pur true 5 .done))))))) (.sq (.bk (.lp [9, 10] [11, 12, 26, 27, 28, 29, 30, 31, 32, 33, 34, 35, 36] (.sq (.sq .z (.cd .z .z)) (.bk (.sq .z .z))))) (.sq .z .z))))))) (args := [t0, t1]) Tryz.func61 (by kernel_rfl) (by kernel_rfl) (by kernel_rfl) (Eq.mp (by kernel_rfl) h)
theorem n_integer_Gcd : Enters Tryz.prog 61 := enters_of Tryz.func61 (by kernel_rfl) rfl
def s_ref04_Make (P : Program) (t0 t1 : Value) (w : World) (R : Ending → World → Prop) : Prop :=
  Al P 30 w fun t4 w =>
  Cl P 67 #[t0] w (Pk R) fun t17 w =>
  Cl P 67 #[t1] w (Pk R) fun t19 w =>
  Un P .not t17 w fun t21 w =>
  Gd t21 false (fun k => k t19 w) w fun t23 w =>
  Gd t21 false (fun k => Un P .not t23 w k) w fun t24 w =>
  Pick t21 (.bool true) t24 w fun t25 w =>
  Gd t25 false (fun k => k t1 w) w fun t27 w =>
  Gd t25 false (fun k => Bn P .eql 9 true t27 (str [48]) w k) w fun t28 w =>
  Pick t25 (.bool true) t28 w fun t29 w =>
  If t29
  (Bd P 30 [] w fun t30 w =>
  Sto P 30 t4 t30 w fun w =>
  Rc P 30 t4 w fun r0 =>
  R (.returned (.tuple #[r0, (.int .i64 40)])) w)
  (Jn2 (fun k1 =>
  Cl P 68 #[t1, (str [48])] w (Pk R) fun t32 w =>
  Bn P .lss 3 true t32 (.int .i64 0) w fun t33 w =>
  If t33
  (Cl P 90 #[(str [48]), t0] w (Pk R) fun t36 w =>
  Ex t36 0 w fun t37 w =>
  Ex t36 1 w fun t38 w =>
  Cl P 90 #[(str [48]), t1] w (Pk R) fun t41 w =>
  Ex t41 0 w fun t42 w =>
  Ex t41 1 w fun t43 w =>
  k1 t37 t42 w)
  (k1 t0 t1 w))
  (fun t0x1 t1x1 w =>
  Cl P 69 #[t0x1, t1x1] w (Pk R) fun t47 w =>
  Ex t47 0 w fun t48 w =>
  Ex t47 1 w fun t49 w =>
  Cl P 91 #[t0x1, t48] w (Pk R) fun t53 w =>
  Ex t53 0 w fun t54 w =>
  Ex t53 1 w fun t55 w =>
  Ex t53 2 w fun t56 w =>
  Cl P 91 #[t1x1, t48] w (Pk R) fun t60 w =>
  Ex t60 0 w fun t61 w =>
  Ex t60 1 w fun t62 w =>
  Ex t60 2 w fun t63 w =>
  Bn P .neq 31 true t56 (.int .i64 0) w fun t65 w =>
  Gd t65 false (fun k => k t63 w) w fun t67 w =>
  Gd t65 false (fun k => Bn P .neq 31 true t67 (.int .i64 0) w k) w fun t68 w =>
  Pick t65 (.bool true) t68 w fun t69 w =>
  If t69
  (Bd P 30 [] w fun t70 w =>
  Sto P 30 t4 t70 w fun w =>
  Rc P 30 t4 w fun r0 =>
  R (.returned (.tuple #[r0, (.int .i64 40)])) w)
  (Bd P 30 [(0, t54), (1, t61)] w fun t73 w =>
  Sto P 30 t4 t73 w fun w =>
  Rc P 30 t4 w fun r0 =>
  R (.returned (.tuple #[r0, (.int .i64 0)])) w)))
theorem e_ref04_Make {t0 t1 : Value} {w : World} {R : Ending → World → Prop} (h : s_ref04_Make Tryz.prog t0 t1 w R) : Calls Tryz.prog 62 #[t0, t1] w R :=
  enter (h := (.sq .z (.sq .z (.sq .z (.sq (.sq .z (.cd (.sq .z .z) .z)) (.jn [0, 1] [31, 32, 33, 34, 35, 36, 37, 38, 39, 40, 41, 42, 43] (.sq .z (.cd (.sq .z .z) .z)) (.sq .z (.sq .z (.sq .z (.sq (.sq .z (.cd (.sq .z .z) .z)) (.sq .z .z))))))))))) (args := [t0, t1]) Tryz.func62 (by kernel_rfl) (by kernel_rfl) (by kernel_rfl) (Eq.mp (by kernel_rfl) h)
theorem n_ref04_Make : Enters Tryz.prog 62 := enters_of Tryz.func62 (by kernel_rfl) rfl
def s_ref03_FromInt (P : Program) (t0 : Value) (w : World) (R : Ending → World → Prop) : Prop :=
  Lp2 (.slice none 0 0) t0 w (fun t3 t4 w k1 =>
  Bn P .neq 3 true t4 (.int .i64 0) w fun t10 w =>
  If t10
  (Bn P .rem 3 true t4 (.int .i64 10) w fun t14 w =>
  Bn P .lss 3 true t14 (.int .i64 0) w fun t16 w =>
  If t16
  (Un P .neg t14 w fun t18 w =>
  Bs P 44 1 [(0, t18)] w fun t21 w =>
  Bt P .append #[44, 44] 44 #[t3, t21] w fun t22 w =>
  Bn P .quo 3 true t4 (.int .i64 10) w fun t12 w =>
  k1 t22 t12 w)
  (Bs P 44 1 [(0, t14)] w fun t21x1 w =>
  Bt P .append #[44, 44] 44 #[t3, t21x1] w fun t22x1 w =>
  Bn P .quo 3 true t4 (.int .i64 10) w fun t12x1 w =>
  k1 t22x1 t12x1 w))
  (Bn P .lss 3 true t0 (.int .i64 0) w fun t25 w =>
  Cl P 92 #[t25, t3] w (Pk R) fun t27 w =>
  Ex t27 0 w fun t28 w =>
  Ex t27 1 w fun t29 w =>
  R (.returned t28) w))
theorem e_ref03_FromInt {t0 : Value} {w : World} {R : Ending → World → Prop} (h : s_ref03_FromInt Tryz.prog t0 w R) : Calls Tryz.prog 63 #[t0] w R :=
  enter (h := (.sq .z (.sq .z (.sq (.sq .z (.bk (.lp [3, 4] [5, 9, 10, 11, 12, 13, 14, 15, 16, 17, 18, 19, 20, 21, 22] (.sq (.sq .z (.cd .z .z)) (.sq (.bk (.sq .z (.sq (.sq .z (.cd .z .z)) .z))) .z))))) (.sq .z (.sq .z .z)))))) (args := [t0]) Tryz.func63 (by kernel_rfl) (by kernel_rfl) (by kernel_rfl) (Eq.mp (by kernel_rfl) h)
theorem n_ref03_FromInt : Enters Tryz.prog 63 := enters_of Tryz.func63 (by kernel_rfl) rfl
def s_ref03_Valid (P : Program) (t0 : Value) (w : World) (R : Ending → World → Prop) : Prop :=
  Jn1 (fun k1 =>
  Bt P .len #[9] 3 #[t0] w fun t5 w =>
  Bn P .gtr 3 true t5 (.int .i64 0) w fun t6 w =>
  Gd t6 true (fun k => k t0 w) w fun t8 w =>
  Gd t6 true (fun k => Ix P 9 t8 (.int .i64 0) w k) w fun t9 w =>
  Gd t6 true (fun k => Bn P .eql 5 true t9 (.int .u8 45) w k) w fun t10 w =>
  Pick t6 t10 (.bool false) w fun t11 w =>
  If t11
  (Sc P 9 t0 (some (.int .i64 1)) none none w fun t13 w =>
  Bn P .eql 9 true t13 (str [48]) w fun t15 w =>
  If t15
  (R (.returned (.bool false)) w)
  (k1 t13 w))
  (k1 t0 w))
  (fun t0x1 w =>
  Lp1 (.int .i64 0) w (fun t3 w k2 =>
  Bt P .len #[9] 3 #[t0x1] w fun t18 w =>
  Bn P .lss 3 false t3 t18 w fun t19 w =>
  If t19
  (Ix P 9 t0x1 t3 w fun t24 w =>
  Bn P .lss 5 true t24 (.int .u8 48) w fun t25 w =>
  Gd t25 false (fun k => k t0x1 w) w fun t27 w =>
  Gd t25 false (fun k => k t3 w) w fun t28 w =>
  Gd t25 false (fun k => Ix P 9 t27 t28 w k) w fun t29 w =>
  Gd t25 false (fun k => Bn P .gtr 5 true t29 (.int .u8 57) w k) w fun t30 w =>
  Pick t25 (.bool true) t30 w fun t31 w =>
  If t31
  (R (.returned (.bool false)) w)
  (Bn P .add 3 true t3 (.int .i64 1) w fun t21 w =>
  k2 t21 w))
  (Bt P .len #[9] 3 #[t0x1] w fun t33 w =>
  Bn P .gtr 3 true t33 (.int .i64 0) w fun t34 w =>
  Gd t34 true (fun k => k t0x1 w) w fun t36 w =>
  Gd t34 true (fun k => Bt P .len #[9] 3 #[t36] w k) w fun t37 w =>
  Gd t34 true (fun k => Bn P .leq 3 true t37 (.int .i64 200) w k) w fun t38 w =>
  Pick t34 t38 (.bool false) w fun t39 w =>
  Gd t39 true (fun k => k t0x1 w) w fun t41 w =>
  Gd t39 true (fun k => Bn P .eql 9 true t41 (str [48]) w k) w fun t42 w =>
  Gd t39 true (fun k => k t42 w) w fun t43 w =>
  Gd t43 false (fun k => k t0x1 w) w fun t44 w =>
  Gd t43 false (fun k => Ix P 9 t44 (.int .i64 0) w k) w fun t45 w =>
  Gd t43 false (fun k => Bn P .neq 5 true t45 (.int .u8 48) w k) w fun t46 w =>
  Gd t39 true (fun k => Pick t43 (.bool true) t46 w k) w fun t47 w =>
  Pick t39 t47 (.bool false) w fun t48 w =>
  R (.returned t48) w)))
theorem e_ref03_Valid {t0 : Value} {w : World} {R : Ending → World → Prop} (h : s_ref03_Valid Tryz.prog t0 w R) : Calls Tryz.prog 67 #[t0] w R :=
  enter (h := (.sq .z (.jn [0] [2, 4, 5, 6, 7, 8, 9, 10, 11, 12, 13, 14, 15] (.sq .z (.cd (.sq .z (.sq .z (.cd (.sq .z .z) .z))) .z)) (.sq (.sq .z (.bk (.lp [3] [2, 16, 17, 18, 19, 20, 21, 22, 23, 24, 25, 26, 27, 28, 29, 30, 31] (.sq (.sq .z (.cd .z .z)) (.sq (.bk (.sq .z (.cd (.sq .z .z) .z))) .z))))) (.sq .z .z))))) (args := [t0]) Tryz.func67 (by kernel_rfl) (by kernel_rfl) (by kernel_rfl) (Eq.mp (by kernel_rfl) h)
theorem n_ref03_Valid : Enters Tryz.prog 67 := enters_of Tryz.func67 (by kernel_rfl) rfl
def s_ref03_Compare (P : Program) (t0 t1 : Value) (w : World) (R : Ending → World → Prop) : Prop :=
  Cl P 67 #[t0] w (Pk R) fun t10 w =>
  Un P .not t10 w fun t11 w =>
  Gd t11 false (fun k => k t1 w) w fun t13 w =>
  Gd t11 false (fun k => Cl P 67 #[t13] w (Pk R) k) w fun t14 w =>
  Gd t11 false (fun k => Un P .not t14 w k) w fun t15 w =>
  Pick t11 (.bool true) t15 w fun t16 w =>
  If t16
  (R (.returned (.int .i64 0)) w)
  (Cl P 94 #[t0] w (Pk R) fun t19 w =>
  Ex t19 0 w fun t20 w =>
  Ex t19 1 w fun t21 w =>
  Cl P 94 #[t1] w (Pk R) fun t24 w =>
  Ex t24 0 w fun t25 w =>
  Ex t24 1 w fun t26 w =>
  Bn P .neq 4 false t20 t25 w fun t29 w =>
  If t29
  (If t20
  (R (.returned (.int .i64 (-1))) w)
  (R (.returned (.int .i64 1)) w))
  (If t20
  (Cl P 95 #[t26, t21] w (Pk R) fun t34 w =>
  R (.returned t34) w)
  (Cl P 95 #[t21, t26] w (Pk R) fun t37 w =>
  R (.returned t37) w)))
theorem e_ref03_Compare {t0 t1 : Value} {w : World} {R : Ending → World → Prop} (h : s_ref03_Compare Tryz.prog t0 t1 w R) : Calls Tryz.prog 68 #[t0, t1] w R :=
  enter (h := (.sq .z (.sq (.sq .z (.cd (.sq .z .z) .z)) (.sq .z (.sq .z (.sq (.sq .z (.cd (.sq (.sq .z (.cd (.sq .z .z) .z)) (.sq .z .z)) .z)) (.sq (.sq .z (.cd (.sq .z .z) .z)) (.sq .z .z)))))))) (args := [t0, t1]) Tryz.func68 (by kernel_rfl) (by kernel_rfl) (by kernel_rfl) (Eq.mp (by kernel_rfl) h)
theorem n_ref03_Compare : Enters Tryz.prog 68 := enters_of Tryz.func68 (by kernel_rfl) rfl
def s_ref03_Gcd (P : Program) (t0 t1 : Value) (w : World) (R : Ending → World → Prop) : Prop :=
  Cl P 67 #[t0] w (Pk R) fun t13 w =>
  Un P .not t13 w fun t14 w =>
  Gd t14 false (fun k => k t1 w) w fun t16 w =>
  Gd t14 false (fun k => Cl P 67 #[t16] w (Pk R) k) w fun t17 w =>
  Gd t14 false (fun k => Un P .not t17 w k) w fun t18 w =>
  Pick t14 (.bool true) t18 w fun t19 w =>
  If t19
  (R (.returned (.tuple #[(str []), (.int .i64 30)])) w)
  (Cl P 94 #[t0] w (Pk R) fun t22 w =>
  Ex t22 0 w fun t23 w =>
  Ex t22 1 w fun t24 w =>
  Cl P 94 #[t1] w (Pk R) fun t27 w =>
  Ex t27 0 w fun t28 w =>
  Ex t27 1 w fun t29 w =>
  Lp2 t24 t29 w (fun t7 t9 w k1 =>
  Bt P .len #[44] 3 #[t9] w fun t31 w =>
  Bn P .gtr 3 true t31 (.int .i64 0) w fun t32 w =>
  If t32
  (Cl P 96 #[t7, t9] w (Pk R) fun t36 w =>
  Ex t36 0 w fun t37 w =>
  Ex t36 1 w fun t38 w =>
  k1 t9 t38 w)
  (Cl P 97 #[(.bool false), t7] w (Pk R) fun t42 w =>
  Ex t42 0 w fun t43 w =>
  Ex t42 1 w fun t44 w =>
  R (.returned (.tuple #[t43, t44])) w)))
theorem e_ref03_Gcd {t0 t1 : Value} {w : World} {R : Ending → World → Prop} (h : s_ref03_Gcd Tryz.prog t0 t1 w R) : Calls Tryz.prog 69 #[t0, t1] w R :=
  enter (h := (.sq .z (.sq (.sq .z (.cd (.sq .z .z) .z)) (.sq .z (.sq .z (.sq (.bk (.lp [7, 9] [10, 11, 30, 31, 32, 33, 34, 35, 36, 37, 38, 39, 40] (.sq (.sq .z (.cd .z .z)) (.bk (.sq .z (.sq .z .z)))))) (.sq .z .z))))))) (args := [t0, t1]) Tryz.func69 (by kernel_rfl) (by kernel_rfl) (by kernel_rfl) (Eq.mp (by kernel_rfl) h)
theorem n_ref03_Gcd : Enters Tryz.prog 69 := enters_of Tryz.func69 (by kernel_rfl) rfl
def s_integer_both (P : Program) (t0 t1 : Value) (w : World) (R : Ending → World → Prop) : Prop :=
  Al P 96 w fun t4 w =>
  Al P 96 w fun t5 w =>
  Cl P 89 #[t0] w (Pk R) fun t8 w =>
  Un P .not t8 w fun t9 w =>
  Gd t9 false (fun k => k t1 w) w fun t11 w =>
  Gd t9 false (fun k => Cl P 89 #[t11] w (Pk R) k) w fun t12 w =>
  Gd t9 false (fun k => Un P .not t12 w k) w fun t13 w =>
  Pick t9 (.bool true) t13 w fun t14 w =>
  If t14
  (Bd P 96 [] w fun t15 w =>
  Bd P 96 [] w fun t16 w =>
  Sto P 96 t4 t15 w fun w =>
  Sto P 96 t5 t16 w fun w =>
  Rc P 96 t4 w fun r0 =>
  Rc P 96 t5 w fun r1 =>
  R (.returned (.tuple #[r0, r1, (.bool false)])) w)
  (Cl P 101 #[t0] w (Pk R) fun t18 w =>
  Cl P 101 #[t1] w (Pk R) fun t20 w =>
  Sto P 96 t4 t18 w fun w =>
  Sto P 96 t5 t20 w fun w =>
  Rc P 96 t4 w fun r0 =>
  Rc P 96 t5 w fun r1 =>
  R (.returned (.tuple #[r0, r1, (.bool true)])) w)
theorem e_integer_both {t0 t1 : Value} {w : World} {R : Ending → World → Prop} (h : s_integer_both Tryz.prog t0 t1 w R) : Calls Tryz.prog 76 #[t0, t1] w R :=
  enter (h := (.sq .z (.sq (.sq .z (.cd (.sq .z .z) .z)) (.sq .z .z)))) (args := [t0, t1]) Tryz.func76 (by kernel_rfl) (by kernel_rfl) (by kernel_rfl) (Eq.mp (by kernel_rfl) h)
theorem n_integer_both : Enters Tryz.prog 76 := enters_of Tryz.func76 (by kernel_rfl) rfl
def s_integer_number_over (P : Program) (t0 t1 : Value) (w : World) (R : Ending → World → Prop) : Prop :=
  Bx P 94 t1 w fun t3 w =>
  Al P 94 w fun t4 w =>
  Al P 94 w fun t5 w =>
  Bt P .len #[94] 3 #[t0] w fun t11 w =>
  Ms P 94 t11 t11 w fun t12 w =>
  Sto P 94 t4 t12 w fun w =>
  Cl P 102 #[t0] w (Pk R) fun t14 w =>
  Rf2 P t14 w (fun t15 t16 w next lv =>
  Bs P 94 1 [(0, t16)] w fun t18 w =>
  Ld P 94 t5 w fun t19 w =>
  Bt P .append #[94, 94] 94 #[t18, t19] w fun t20 w =>
  Cl P 103 #[t20] w (fun _ _ => False) fun t21 w =>
  Sto P 94 t5 t21 w fun w =>
  Ld P 94 t3 w fun t22 w =>
  Al P 123 w fun t8 w =>
  Sto P 123 t8 (.func (.func 104) #[t22] #[]) w fun w =>
  Dv P false (Instr.loadAt 94 t4) w.drew fun t25 =>
  Cl P 106 #[(.int .i64 9999), (.func (.func 105) #[] #[t8, t5])] w.drew (fun _ _ => False) fun t28 w =>
  Ke P (Instr.loadAt 94 t4) t25 w <|
  Dv P true (Instr.indexAt 94 t25 t15) w fun t29 =>
  Sto P 3 t29 t28 w fun w =>
  Dv P false (Instr.loadAt 94 t5) w.drew fun t30 =>
  Dv P false (Instr.loadAt 123 t8) w.drew fun t31 =>
  Dv P false (Instr.loadAt 94 t4) w.drew fun t32 =>
  Dv P true (Instr.indexAt 94 t32 t15) w.drew fun t34 =>
  Dv P false (Instr.loadAt 3 t34) w.drew fun t35 =>
  Cw P t31 #[t35] w.drew (fun _ _ => False) fun t36 w =>
  Ke P (Instr.loadAt 94 t5) t30 w <|
  Cl P 80 #[t30, t36] w (fun _ _ => False) fun t37 w =>
  Sto P 94 t5 t37 w fun w =>
  next w)
  (fun D1 w =>
  Dv P false (Instr.loadAt 94 t4) w.drew fun t38 =>
  Dv P false (Instr.loadAt 94 t5) w.drew fun t40 =>
  Cl P 103 #[t38] w.drew (fun c w => Tk P D1 w fun w => R (.panicked c) w) fun t39 w =>
  Ke P (Instr.loadAt 94 t5) t40 w <|
  Sto P 94 t4 t39 w fun w =>
  Ke P (Instr.loadAt 94 t5) t40 w <|
  Sto P 94 t5 t40 w fun w =>
  Tk P D1 w fun w =>
  Rc P 94 t4 w fun r0 =>
  Rc P 94 t5 w fun r1 =>
  R (.returned (.tuple #[r0, r1])) w)
  (fun D1 w =>
  Tk P D1 w fun w =>
  Rc P 94 t4 w fun r0 =>
  Rc P 94 t5 w fun r1 =>
  R (.returned (.tuple #[r0, r1])) w) []
theorem e_integer_number_over {t0 t1 : Value} {w : World} {R : Ending → World → Prop} (h : s_integer_number_over Tryz.prog t0 t1 w R) : Calls Tryz.prog 77 #[t0, t1] w R :=
  enter (h := (.sq .z (.sq .z (.sq (.sq .z (.bk (.rf (.bk (.sq .z (.sq .z (.sq .z (.sq (.dr (.pur false 0 (.pur true 1 (.pur true 2 (.eff 3 [0] (.pur true 4 (.eff 5 [] .done))))))) (.dr (.pur false 0 (.pur false 1 (.pur false 2 (.pur true 3 (.pur true 4 (.pur false 5 (.eff 6 [0] (.eff 7 [] (.eff 8 [] .done))))))))))))))) []))) (.sq (.dr (.pur false 0 (.pur false 2 (.eff 1 [2] (.eff 3 [2] (.eff 4 [] .done)))))) .z))))) (args := [t0, t1]) Tryz.func77 (by kernel_rfl) (by kernel_rfl) (by kernel_rfl) (Eq.mp (by kernel_rfl) h)
theorem n_integer_number_over : Enters Tryz.prog 77 := enters_of Tryz.func77 (by kernel_rfl) rfl
def s_integer_number_plus (P : Program) (t0 t1 : Value) (w : World) (R : Ending → World → Prop) : Prop :=
  Bx P 94 t0 w fun t2 w =>
  Bx P 94 t1 w fun t3 w =>
  Ld P 94 t2 w fun t5 w =>
  Bt P .len #[94] 3 #[t5] w fun t6 w =>
  Ld P 94 t3 w fun t7 w =>
  Bt P .len #[94] 3 #[t7] w fun t8 w =>
  Bt P .max #[3, 3] 3 #[t6, t8] w fun t9 w =>
  Cl P 107 #[t9, (.int .i64 0), (.func (.func 108) #[] #[t2, t3])] w (Pk R) fun t11 w =>
  Cl P 103 #[t11] w (Pk R) fun t12 w =>
  R (.returned t12) w
theorem e_integer_number_plus {t0 t1 : Value} {w : World} {R : Ending → World → Prop} (h : s_integer_number_plus Tryz.prog t0 t1 w R) : Calls Tryz.prog 78 #[t0, t1] w R :=
  enter (h := (.sq .z (.sq .z .z))) (args := [t0, t1]) Tryz.func78 (by kernel_rfl) (by kernel_rfl) (by kernel_rfl) (Eq.mp (by kernel_rfl) h)
theorem n_integer_number_plus : Enters Tryz.prog 78 := enters_of Tryz.func78 (by kernel_rfl) rfl
def s_integer_one (P : Program) (w : World) (R : Ending → World → Prop) : Prop :=
  Bs P 94 1 [(0, (.int .i64 1))] w fun t1 w =>
  R (.returned t1) w
theorem e_integer_one {w : World} {R : Ending → World → Prop} (h : s_integer_one Tryz.prog  w R) : Calls Tryz.prog 79 #[] w R :=
  enter (h := (.sq .z (.sq .z .z))) (args := []) Tryz.func79 (by kernel_rfl) (by kernel_rfl) (by kernel_rfl) (Eq.mp (by kernel_rfl) h)
theorem n_integer_one : Enters Tryz.prog 79 := enters_of Tryz.func79 (by kernel_rfl) rfl
def s_integer_number_minus (P : Program) (t0 t1 : Value) (w : World) (R : Ending → World → Prop) : Prop :=
  Bx P 94 t0 w fun t2 w =>
  Bx P 94 t1 w fun t3 w =>
  Ld P 94 t2 w fun t5 w =>
  Bt P .len #[94] 3 #[t5] w fun t6 w =>
  Cl P 107 #[t6, (.int .i64 0), (.func (.func 110) #[] #[t2, t3])] w (Pk R) fun t8 w =>
  Cl P 103 #[t8] w (Pk R) fun t9 w =>
  R (.returned t9) w
theorem e_integer_number_minus {t0 t1 : Value} {w : World} {R : Ending → World → Prop} (h : s_integer_number_minus Tryz.prog t0 t1 w R) : Calls Tryz.prog 80 #[t0, t1] w R :=
  enter (h := (.sq .z (.sq .z .z))) (args := [t0, t1]) Tryz.func80 (by kernel_rfl) (by kernel_rfl) (by kernel_rfl) (Eq.mp (by kernel_rfl) h)
theorem n_integer_number_minus : Enters Tryz.prog 80 := enters_of Tryz.func80 (by kernel_rfl) rfl
def s_integer_signed_text (P : Program) (t0 : Value) (w : World) (R : Ending → World → Prop) : Prop :=
  Bx P 96 t0 w fun t1 w =>
  Fa P 96 t1 1 w fun t9 w =>
  Ld P 94 t9 w fun t10 w =>
  Bt P .len #[94] 3 #[t10] w fun t11 w =>
  Bn P .eql 3 true t11 (.int .i64 0) w fun t12 w =>
  If t12
  (R (.returned (.tuple #[(str [48]), (.int .i64 0)])) w)
  (Al P 131 w fun t4 w =>
  Fa P 96 t1 1 w fun t13 w =>
  Ld P 94 t13 w fun t14 w =>
  Cl P 102 #[t14] w (Pk R) fun t15 w =>
  Rf2 P t15 w (fun t16 t17 w next lv =>
  Cl P 111 #[t17] w (fun _ _ => False) fun t19 w =>
  Fa P 96 t1 1 w fun t21 w =>
  Ld P 94 t21 w fun t22 w =>
  Bt P .len #[94] 3 #[t22] w fun t23 w =>
  Bn P .sub 3 true t23 (.int .i64 1) w fun t24 w =>
  Bn P .lss 3 false t16 t24 w fun t25 w =>
  If t25
  (Bt P .len #[9] 3 #[t19] w fun t27 w =>
  Bn P .sub 3 true (.int .i64 4) t27 w fun t28 w =>
  Cl P 112 #[(str [48]), t28] w (fun _ _ => False) fun t29 w =>
  Bn P .add 9 false t29 t19 w fun t31 w =>
  Cl P 113 #[t4, t31] w (fun _ _ => False) fun t33 w =>
  next w)
  (Cl P 113 #[t4, t19] w (fun _ _ => False) fun t33x1 w =>
  next w))
  (fun D1 w =>
  Cl P 114 #[t4] w (fun c w => Tk P D1 w fun w => R (.panicked c) w) fun t34 w =>
  Bt P .len #[9] 3 #[t34] w fun t36 w =>
  Bn P .gtr 3 true t36 (.int .i64 200) w fun t37 w =>
  If t37
  (Tk P D1 w fun w =>
  R (.returned (.tuple #[(str []), (.int .i64 30)])) w)
  (Fa P 96 t1 0 w fun t38 w =>
  Ld P 4 t38 w fun t39 w =>
  If t39
  (Bn P .add 9 true (str [45]) t34 w fun t41 w =>
  Tk P D1 w fun w =>
  R (.returned (.tuple #[t41, (.int .i64 0)])) w)
  (Tk P D1 w fun w =>
  R (.returned (.tuple #[t34, (.int .i64 0)])) w)))
  (fun D1 w =>
  Tk P D1 w fun w =>
  R (.returned (.tuple #[(str []), (.int .i64 0)])) w) [])
theorem e_integer_signed_text {t0 : Value} {w : World} {R : Ending → World → Prop} (h : s_integer_signed_text Tryz.prog t0 w R) : Calls Tryz.prog 81 #[t0] w R :=
  enter (h := (.sq .z (.sq (.sq .z (.cd (.sq .z .z) .z)) (.sq .z (.sq (.sq .z (.bk (.rf (.bk (.sq .z (.sq (.sq .z (.cd .z .z)) .z))) []))) (.sq .z (.sq (.sq .z (.cd (.sq .z .z) .z)) (.sq (.sq .z (.cd (.sq .z .z) .z)) (.sq .z .z))))))))) (args := [t0]) Tryz.func81 (by kernel_rfl) (by kernel_rfl) (by kernel_rfl) (Eq.mp (by kernel_rfl) h)
theorem n_integer_signed_text : Enters Tryz.prog 81 := enters_of Tryz.func81 (by kernel_rfl) rfl
def s_integer_number_compare (P : Program) (t0 t1 : Value) (w : World) (R : Ending → World → Prop) : Prop :=
  Bx P 94 t1 w fun t3 w =>
  Al P 3 w fun t4 w =>
  Bt P .len #[94] 3 #[t0] w fun t8 w =>
  Ld P 94 t3 w fun t9 w =>
  Bt P .len #[94] 3 #[t9] w fun t10 w =>
  Bn P .neq 3 false t8 t10 w fun t11 w =>
  If t11
  (Bt P .len #[94] 3 #[t0] w fun t13 w =>
  Ld P 94 t3 w fun t14 w =>
  Bt P .len #[94] 3 #[t14] w fun t15 w =>
  Cl P 115 #[t13, t15] w (Pk R) fun t16 w =>
  Sto P 3 t4 t16 w fun w =>
  Rc P 3 t4 w fun r0 =>
  R (.returned r0) w)
  (Cl P 102 #[t0] w (Pk R) fun t18 w =>
  Rf2 P t18 w (fun t19 t20 w next lv =>
  Ld P 94 t3 w fun t22 w =>
  Ia P 94 t22 t19 w fun t24 w =>
  Ld P 3 t24 w fun t25 w =>
  Bn P .neq 3 false t20 t25 w fun t26 w =>
  If t26
  (Ld P 94 t3 w fun t28 w =>
  Ia P 94 t28 t19 w fun t30 w =>
  Ld P 3 t30 w fun t31 w =>
  Cl P 115 #[t20, t31] w (fun _ _ => False) fun t32 w =>
  Sto P 3 t4 t32 w fun w =>
  lv .ret w)
  (next w))
  (fun D1 w =>
  Sto P 3 t4 (.int .i64 0) w fun w =>
  Tk P D1 w fun w =>
  Rc P 3 t4 w fun r0 =>
  R (.returned r0) w)
  (fun D1 w =>
  Tk P D1 w fun w =>
  Rc P 3 t4 w fun r0 =>
  R (.returned r0) w) [])
theorem e_integer_number_compare {t0 t1 : Value} {w : World} {R : Ending → World → Prop} (h : s_integer_number_compare Tryz.prog t0 t1 w R) : Calls Tryz.prog 82 #[t0, t1] w R :=
  enter (h := (.sq .z (.sq (.sq .z (.cd (.sq .z .z) .z)) (.sq (.sq .z (.bk (.rf (.bk (.sq .z (.cd (.sq .z .z) .z))) []))) (.sq .z .z))))) (args := [t0, t1]) Tryz.func82 (by kernel_rfl) (by kernel_rfl) (by kernel_rfl) (Eq.mp (by kernel_rfl) h)
theorem n_integer_number_compare : Enters Tryz.prog 82 := enters_of Tryz.func82 (by kernel_rfl) rfl
def s_rational_Make (P : Program) (t0 t1 : Value) (w : World) (R : Ending → World → Prop) : Prop :=
  Al P 30 w fun t4 w =>
  Cl P 60 #[t0] w (Pk R) fun t8 w =>
  Un P .not t8 w fun t9 w =>
  Gd t9 false (fun k => k t1 w) w fun t11 w =>
  Gd t9 false (fun k => Cl P 60 #[t11] w (Pk R) k) w fun t12 w =>
  Gd t9 false (fun k => Un P .not t12 w k) w fun t13 w =>
  Pick t9 (.bool true) t13 w fun t14 w =>
  Bd P 83 [(0, t14)] w fun t15 w =>
  Bx P 83 t15 w fun t16 w =>
  Cl P 56 #[t16, t0, t1] w (Pk R) fun t20 w =>
  Ex t20 0 w fun t21 w =>
  Ex t20 1 w fun t22 w =>
  Sto P 30 t4 t21 w fun w =>
  Rc P 30 t4 w fun r0 =>
  R (.returned (.tuple #[r0, t22])) w
theorem e_rational_Make {t0 t1 : Value} {w : World} {R : Ending → World → Prop} (h : s_rational_Make Tryz.prog t0 t1 w R) : Calls Tryz.prog 83 #[t0, t1] w R :=
  enter (h := (.sq .z (.sq .z (.sq .z .z)))) (args := [t0, t1]) Tryz.func83 (by kernel_rfl) (by kernel_rfl) (by kernel_rfl) (Eq.mp (by kernel_rfl) h)
theorem n_rational_Make : Enters Tryz.prog 83 := enters_of Tryz.func83 (by kernel_rfl) rfl
def s_integer_FromInt (P : Program) (t0 : Value) (w : World) (R : Ending → World → Prop) : Prop :=
  Cl P 111 #[t0] w (Pk R) fun t4 w =>
  R (.returned t4) w
theorem e_integer_FromInt {t0 : Value} {w : World} {R : Ending → World → Prop} (h : s_integer_FromInt Tryz.prog t0 w R) : Calls Tryz.prog 84 #[t0] w R :=
  enter (h := (.sq .z (.sq .z .z))) (args := [t0]) Tryz.func84 (by kernel_rfl) (by kernel_rfl) (by kernel_rfl) (Eq.mp (by kernel_rfl) h)
theorem n_integer_FromInt : Enters Tryz.prog 84 := enters_of Tryz.func84 (by kernel_rfl) rfl
def s_rational_work_do (P : Program) (t0 t1 t2 t3 : Value) (w : World) (R : Ending → World → Prop) : Prop :=
  Nc t0 w fun t12 w =>
  Fa P 83 t12 0 w fun t13 w =>
  Ld P 4 t13 w fun t14 w =>
  If t14
  (R (.returned (str [])) w)
  (Cw P t1 #[t2, t3] w (Pk R) fun t19 w =>
  Ex t19 0 w fun t20 w =>
  Ex t19 1 w fun t21 w =>
  Bn P .neq 31 true t21 (.int .i64 0) w fun t24 w =>
  Nc t0 w fun t25 w =>
  Fa P 83 t25 0 w fun t26 w =>
  Sto P 4 t26 t24 w fun w =>
  R (.returned t20) w)
theorem e_rational_work_do {t0 t1 t2 t3 : Value} {w : World} {R : Ending → World → Prop} (h : s_rational_work_do Tryz.prog t0 t1 t2 t3 w R) : Calls Tryz.prog 85 #[t0, t1, t2, t3] w R :=
  enter (h := (.sq .z (.sq (.sq .z (.cd (.sq .z .z) .z)) (.sq .z (.sq .z (.sq .z .z)))))) (args := [t0, t1, t2, t3]) Tryz.func85 (by kernel_rfl) (by kernel_rfl) (by kernel_rfl) (Eq.mp (by kernel_rfl) h)
theorem n_rational_work_do : Enters Tryz.prog 85 := enters_of Tryz.func85 (by kernel_rfl) rfl
def s_integer_Mul (P : Program) (t0 t1 : Value) (w : World) (R : Ending → World → Prop) : Prop :=
  Cl P 76 #[t0, t1] w (Pk R) fun t12 w =>
  Ex t12 0 w fun t13 w =>
  Ex t12 1 w fun t14 w =>
  Ex t12 2 w fun t15 w =>
  Al P 96 w fun t6 w =>
  Al P 96 w fun t7 w =>
  Sto P 96 t6 t13 w fun w =>
  Sto P 96 t7 t14 w fun w =>
  Un P .not t15 w fun t17 w =>
  If t17
  (R (.returned (.tuple #[(str []), (.int .i64 30)])) w)
  (Dv P true (Instr.fieldAt 96 t6 0) w.drew fun t18 =>
  Dv P false (Instr.loadAt 4 t18) w.drew fun t19 =>
  Dv P true (Instr.fieldAt 96 t7 0) w.drew fun t20 =>
  Dv P false (Instr.loadAt 4 t20) w.drew fun t21 =>
  Dv P true (bn .neq 4 false t19 t21) w.drew fun t22 =>
  Dv P true (Instr.fieldAt 96 t6 1) w.drew fun t23 =>
  Dv P false (Instr.loadAt 94 t23) w.drew fun t24 =>
  Dv P true (Instr.fieldAt 96 t7 1) w.drew fun t25 =>
  Dv P false (Instr.loadAt 94 t25) w.drew fun t26 =>
  Cl P 116 #[t24, t26] w.drew (Pk R) fun t27 w =>
  Ke P (Instr.loadAt 4 t18) t19 w <|
  Ke P (Instr.loadAt 4 t20) t21 w <|
  Dv P true (Instr.build 96 #[(0, t22), (1, t27)]) w fun t28 =>
  Cl P 81 #[t28] w (Pk R) fun t29 w =>
  ExP t29 0 fun t30 =>
  ExP t29 1 fun t31 =>
  R (.returned (.tuple #[t30, t31])) w)
theorem e_integer_Mul {t0 t1 : Value} {w : World} {R : Ending → World → Prop} (h : s_integer_Mul Tryz.prog t0 t1 w R) : Calls Tryz.prog 86 #[t0, t1] w R :=
  enter (h := (.sq .z (.sq .z (.sq (.sq .z (.cd (.sq .z .z) .z)) (.sq (.dr (.pur true 0 (.pur false 1 (.pur true 2 (.pur false 3 (.pur true 4 (.pur true 5 (.pur false 6 (.pur true 7 (.pur false 8 (.eff 9 [1, 3] (.pur true 10 (.eff 11 [] (.pur true 12 (.pur true 13 (.pur true 14 (.pur true 15 .done))))))))))))))))) .z))))) (args := [t0, t1]) Tryz.func86 (by kernel_rfl) (by kernel_rfl) (by kernel_rfl) (Eq.mp (by kernel_rfl) h)
theorem n_integer_Mul : Enters Tryz.prog 86 := enters_of Tryz.func86 (by kernel_rfl) rfl
def s_rational_work_quotient (P : Program) (t0 t1 t2 : Value) (w : World) (R : Ending → World → Prop) : Prop :=
  Cl P 85 #[t0, (.func (.func 117) #[] #[]), t1, t2] w (Pk R) fun t10 w =>
  R (.returned t10) w
theorem e_rational_work_quotient {t0 t1 t2 : Value} {w : World} {R : Ending → World → Prop} (h : s_rational_work_quotient Tryz.prog t0 t1 t2 w R) : Calls Tryz.prog 87 #[t0, t1, t2] w R :=
  enter (h := (.sq .z (.sq .z .z))) (args := [t0, t1, t2]) Tryz.func87 (by kernel_rfl) (by kernel_rfl) (by kernel_rfl) (Eq.mp (by kernel_rfl) h)
theorem n_rational_work_quotient : Enters Tryz.prog 87 := enters_of Tryz.func87 (by kernel_rfl) rfl
def s_integer_signed_plus (P : Program) (t0 t1 : Value) (w : World) (R : Ending → World → Prop) : Prop :=
  Bx P 96 t0 w fun t2 w =>
  Bx P 96 t1 w fun t3 w =>
  Al P 96 w fun t4 w =>
  Fa P 96 t2 0 w fun t6 w =>
  Ld P 4 t6 w fun t7 w =>
  Fa P 96 t3 0 w fun t8 w =>
  Ld P 4 t8 w fun t9 w =>
  Bn P .eql 4 false t7 t9 w fun t10 w =>
  If t10
  (Dv P true (Instr.fieldAt 96 t2 0) w.drew fun t11 =>
  Dv P false (Instr.loadAt 4 t11) w.drew fun t12 =>
  Dv P true (Instr.fieldAt 96 t2 1) w.drew fun t13 =>
  Dv P false (Instr.loadAt 94 t13) w.drew fun t14 =>
  Dv P true (Instr.fieldAt 96 t3 1) w.drew fun t15 =>
  Dv P false (Instr.loadAt 94 t15) w.drew fun t16 =>
  Cl P 78 #[t14, t16] w.drew (Pk R) fun t17 w =>
  Ke P (Instr.loadAt 4 t11) t12 w <|
  Dv P true (Instr.build 96 #[(0, t12), (1, t17)]) w fun t18 =>
  Sto P 96 t4 t18 w fun w =>
  Rc P 96 t4 w fun r0 =>
  R (.returned r0) w)
  (Fa P 96 t2 1 w fun t20 w =>
  Ld P 94 t20 w fun t21 w =>
  Fa P 96 t3 1 w fun t22 w =>
  Ld P 94 t22 w fun t23 w =>
  Cl P 82 #[t21, t23] w (Pk R) fun t24 w =>
  Bn P .geq 3 true t24 (.int .i64 0) w fun t25 w =>
  If t25
  (Dv P true (Instr.fieldAt 96 t2 0) w.drew fun t26 =>
  Dv P false (Instr.loadAt 4 t26) w.drew fun t27 =>
  Dv P true (Instr.fieldAt 96 t2 1) w.drew fun t28 =>
  Dv P false (Instr.loadAt 94 t28) w.drew fun t29 =>
  Dv P true (Instr.fieldAt 96 t3 1) w.drew fun t30 =>
  Dv P false (Instr.loadAt 94 t30) w.drew fun t31 =>
  Cl P 80 #[t29, t31] w.drew (Pk R) fun t32 w =>
  Ke P (Instr.loadAt 4 t26) t27 w <|
  Dv P true (Instr.build 96 #[(0, t27), (1, t32)]) w fun t33 =>
  Sto P 96 t4 t33 w fun w =>
  Rc P 96 t4 w fun r0 =>
  R (.returned r0) w)
  (Dv P true (Instr.fieldAt 96 t3 0) w.drew fun t34 =>
  Dv P false (Instr.loadAt 4 t34) w.drew fun t35 =>
  Dv P true (Instr.fieldAt 96 t3 1) w.drew fun t36 =>
  Dv P false (Instr.loadAt 94 t36) w.drew fun t37 =>
  Dv P true (Instr.fieldAt 96 t2 1) w.drew fun t38 =>
  Dv P false (Instr.loadAt 94 t38) w.drew fun t39 =>
  Cl P 80 #[t37, t39] w.drew (Pk R) fun t40 w =>
  Ke P (Instr.loadAt 4 t34) t35 w <|
  Dv P true (Instr.build 96 #[(0, t35), (1, t40)]) w fun t41 =>
  Sto P 96 t4 t41 w fun w =>
  Rc P 96 t4 w fun r0 =>
  R (.returned r0) w))
theorem e_integer_signed_plus {t0 t1 : Value} {w : World} {R : Ending → World → Prop} (h : s_integer_signed_plus Tryz.prog t0 t1 w R) : Calls Tryz.prog 88 #[t0, t1] w R :=
  enter (h := (.sq .z (.sq (.bk (.sq .z (.cd (.sq (.dr (.pur true 0 (.pur false 1 (.pur true 2 (.pur false 3 (.pur true 4 (.pur false 5 (.eff 6 [1] (.pur true 7 (.eff 8 [] .done)))))))))) .z) (.sq .z (.cd (.sq (.dr (.pur true 0 (.pur false 1 (.pur true 2 (.pur false 3 (.pur true 4 (.pur false 5 (.eff 6 [1] (.pur true 7 (.eff 8 [] .done)))))))))) .z) .z))))) (.sq (.dr (.pur true 0 (.pur false 1 (.pur true 2 (.pur false 3 (.pur true 4 (.pur false 5 (.eff 6 [1] (.pur true 7 (.eff 8 [] .done)))))))))) .z)))) (args := [t0, t1]) Tryz.func88 (by kernel_rfl) (by kernel_rfl) (by kernel_rfl) (Eq.mp (by kernel_rfl) h)
theorem n_integer_signed_plus : Enters Tryz.prog 88 := enters_of Tryz.func88 (by kernel_rfl) rfl
def s_integer_isValid (P : Program) (t0 : Value) (w : World) (R : Ending → World → Prop) : Prop :=
  Cl P 118 #[t0, (str [45])] w (Pk R) fun t5 w =>
  Bn P .eql 9 true t5 (str []) w fun t7 w =>
  Gd t7 false (fun k => k t5 w) w fun t9 w =>
  Gd t7 false (fun k => Bt P .len #[9] 3 #[t9] w k) w fun t10 w =>
  Gd t7 false (fun k => Bn P .gtr 3 true t10 (.int .i64 200) w k) w fun t11 w =>
  Pick t7 (.bool true) t11 w fun t12 w =>
  Gd t12 false (fun k => k t5 w) w fun t14 w =>
  Gd t12 false (fun k => Cl P 119 #[t14, (str [48, 49, 50, 51, 52, 53, 54, 55, 56, 57])] w (Pk R) k) w fun t15 w =>
  Gd t12 false (fun k => Bn P .neq 9 true t15 (str []) w k) w fun t16 w =>
  Pick t12 (.bool true) t16 w fun t17 w =>
  If t17
  (R (.returned (.bool false)) w)
  (Bn P .eql 9 true t0 (str [48]) w fun t19 w =>
  Gd t19 false (fun k => k t5 w) w fun t21 w =>
  Gd t19 false (fun k => Ix P 9 t21 (.int .i64 0) w k) w fun t22 w =>
  Gd t19 false (fun k => Bn P .neq 5 true t22 (.int .u8 48) w k) w fun t23 w =>
  Pick t19 (.bool true) t23 w fun t24 w =>
  R (.returned t24) w)
theorem e_integer_isValid {t0 : Value} {w : World} {R : Ending → World → Prop} (h : s_integer_isValid Tryz.prog t0 w R) : Calls Tryz.prog 89 #[t0] w R :=
  enter (h := (.sq .z (.sq .z (.sq (.sq .z (.cd (.sq .z .z) .z)) (.sq .z .z))))) (args := [t0]) Tryz.func89 (by kernel_rfl) (by kernel_rfl) (by kernel_rfl) (Eq.mp (by kernel_rfl) h)
theorem n_integer_isValid : Enters Tryz.prog 89 := enters_of Tryz.func89 (by kernel_rfl) rfl
def s_ref03_Sub (P : Program) (t0 t1 : Value) (w : World) (R : Ending → World → Prop) : Prop :=
  Cl P 67 #[t0] w (Pk R) fun t11 w =>
  Un P .not t11 w fun t12 w =>
  Gd t12 false (fun k => k t1 w) w fun t14 w =>
  Gd t12 false (fun k => Cl P 67 #[t14] w (Pk R) k) w fun t15 w =>
  Gd t12 false (fun k => Un P .not t15 w k) w fun t16 w =>
  Pick t12 (.bool true) t16 w fun t17 w =>
  If t17
  (R (.returned (.tuple #[(str []), (.int .i64 30)])) w)
  (Cl P 94 #[t0] w (Pk R) fun t20 w =>
  Ex t20 0 w fun t21 w =>
  Ex t20 1 w fun t22 w =>
  Cl P 94 #[t1] w (Pk R) fun t25 w =>
  Ex t25 0 w fun t26 w =>
  Ex t25 1 w fun t27 w =>
  Un P .not t26 w fun t31 w =>
  Cl P 120 #[t21, t22, t31, t27] w (Pk R) fun t33 w =>
  Ex t33 0 w fun t34 w =>
  Ex t33 1 w fun t35 w =>
  R (.returned (.tuple #[t34, t35])) w)
theorem e_ref03_Sub {t0 t1 : Value} {w : World} {R : Ending → World → Prop} (h : s_ref03_Sub Tryz.prog t0 t1 w R) : Calls Tryz.prog 90 #[t0, t1] w R :=
  enter (h := (.sq .z (.sq (.sq .z (.cd (.sq .z .z) .z)) (.sq .z (.sq .z (.sq .z .z)))))) (args := [t0, t1]) Tryz.func90 (by kernel_rfl) (by kernel_rfl) (by kernel_rfl) (Eq.mp (by kernel_rfl) h)
theorem n_ref03_Sub : Enters Tryz.prog 90 := enters_of Tryz.func90 (by kernel_rfl) rfl
def s_ref03_Div (P : Program) (t0 t1 : Value) (w : World) (R : Ending → World → Prop) : Prop :=
  Cl P 67 #[t0] w (Pk R) fun t18 w =>
  Un P .not t18 w fun t19 w =>
  Gd t19 false (fun k => k t1 w) w fun t21 w =>
  Gd t19 false (fun k => Cl P 67 #[t21] w (Pk R) k) w fun t22 w =>
  Gd t19 false (fun k => Un P .not t22 w k) w fun t23 w =>
  Pick t19 (.bool true) t23 w fun t24 w =>
  Gd t24 false (fun k => k t1 w) w fun t26 w =>
  Gd t24 false (fun k => Bn P .eql 9 true t26 (str [48]) w k) w fun t27 w =>
  Pick t24 (.bool true) t27 w fun t28 w =>
  If t28
  (R (.returned (.tuple #[(str []), (str []), (.int .i64 30)])) w)
  (Cl P 94 #[t0] w (Pk R) fun t31 w =>
  Ex t31 0 w fun t32 w =>
  Ex t31 1 w fun t33 w =>
  Cl P 94 #[t1] w (Pk R) fun t36 w =>
  Ex t36 0 w fun t37 w =>
  Ex t36 1 w fun t38 w =>
  Cl P 96 #[t33, t38] w (Pk R) fun t42 w =>
  Ex t42 0 w fun t43 w =>
  Ex t42 1 w fun t44 w =>
  Jn2 (fun k1 =>
  Gd t32 true (fun k => k t44 w) w fun t47 w =>
  Gd t32 true (fun k => Bt P .len #[44] 3 #[t47] w k) w fun t48 w =>
  Gd t32 true (fun k => Bn P .gtr 3 true t48 (.int .i64 0) w k) w fun t49 w =>
  Pick t32 t49 (.bool false) w fun t50 w =>
  If t50
  (Bs P 44 1 [(0, (.int .i64 1))] w fun t52 w =>
  Cl P 121 #[t43, t52] w (Pk R) fun t53 w =>
  Cl P 122 #[t38, t44] w (Pk R) fun t56 w =>
  k1 t53 t56 w)
  (k1 t43 t44 w))
  (fun t11 t12 w =>
  Bn P .neq 4 false t32 t37 w fun t60 w =>
  Cl P 97 #[t60, t11] w (Pk R) fun t62 w =>
  Ex t62 0 w fun t63 w =>
  Ex t62 1 w fun t64 w =>
  Cl P 92 #[(.bool false), t12] w (Pk R) fun t67 w =>
  Ex t67 0 w fun t68 w =>
  Ex t67 1 w fun t69 w =>
  Bn P .neq 31 true t64 (.int .i64 0) w fun t71 w =>
  If t71
  (R (.returned (.tuple #[(str []), (str []), t64])) w)
  (R (.returned (.tuple #[t63, t68, (.int .i64 0)])) w)))
theorem e_ref03_Div {t0 t1 : Value} {w : World} {R : Ending → World → Prop} (h : s_ref03_Div Tryz.prog t0 t1 w R) : Calls Tryz.prog 91 #[t0, t1] w R :=
  enter (h := (.sq .z (.sq (.sq .z (.cd (.sq .z .z) .z)) (.sq .z (.sq .z (.sq .z (.jn [11, 12] [45, 46, 47, 48, 49, 50, 51, 52, 53, 54, 55, 56] (.sq .z (.cd (.sq .z .z) .z)) (.sq .z (.sq .z (.sq (.sq .z (.cd (.sq .z .z) .z)) (.sq .z .z))))))))))) (args := [t0, t1]) Tryz.func91 (by kernel_rfl) (by kernel_rfl) (by kernel_rfl) (Eq.mp (by kernel_rfl) h)
theorem n_ref03_Div : Enters Tryz.prog 91 := enters_of Tryz.func91 (by kernel_rfl) rfl
def s_ref03_text (P : Program) (t0 t1 : Value) (w : World) (R : Ending → World → Prop) : Prop :=
  Bt P .len #[44] 3 #[t1] w fun t9 w =>
  Bn P .eql 3 true t9 (.int .i64 0) w fun t10 w =>
  If t10
  (R (.returned (.tuple #[(str [48]), (.bool true)])) w)
  (Jn1 (fun k1 =>
  If t0
  (Bs P 129 1 [(0, (.int .u8 45))] w fun t13 w =>
  Bt P .append #[129, 129] 129 #[(.slice none 0 0), t13] w fun t14 w =>
  k1 t14 w)
  (k1 (.slice none 0 0) w))
  (fun t6 w =>
  Bt P .len #[44] 3 #[t1] w fun t16 w =>
  Bn P .sub 3 true t16 (.int .i64 1) w fun t17 w =>
  Lp2 t6 t17 w (fun t6x1 t7 w k2 =>
  Bn P .geq 3 true t7 (.int .i64 0) w fun t19 w =>
  If t19
  (Ia P 44 t1 t7 w fun t25 w =>
  Ld P 3 t25 w fun t26 w =>
  Bn P .add 3 true (.int .i64 48) t26 w fun t27 w =>
  Cv P 3 5 t27 w fun t28 w =>
  Bs P 129 1 [(0, t28)] w fun t29 w =>
  Bt P .append #[129, 129] 129 #[t6x1, t29] w fun t30 w =>
  Bn P .sub 3 true t7 (.int .i64 1) w fun t21 w =>
  k2 t30 t21 w)
  (Cv P 129 9 t6x1 w fun t32 w =>
  Bt P .len #[44] 3 #[t1] w fun t34 w =>
  Bn P .leq 3 true t34 (.int .i64 200) w fun t35 w =>
  R (.returned (.tuple #[t32, t35])) w))))
theorem e_ref03_text {t0 t1 : Value} {w : World} {R : Ending → World → Prop} (h : s_ref03_text Tryz.prog t0 t1 w R) : Calls Tryz.prog 92 #[t0, t1] w R :=
  enter (h := (.sq .z (.sq (.sq .z (.cd (.sq .z .z) .z)) (.sq .z (.jn [6] [11, 12, 13, 14] (.sq .z (.cd .z .z)) (.sq (.sq .z (.bk (.lp [6, 7] [18, 19, 20, 21, 22, 23, 24, 25, 26, 27, 28, 29, 30] (.sq (.sq .z (.cd .z .z)) (.sq (.bk .z) .z))))) (.sq .z .z))))))) (args := [t0, t1]) Tryz.func92 (by kernel_rfl) (by kernel_rfl) (by kernel_rfl) (Eq.mp (by kernel_rfl) h)
theorem n_ref03_text : Enters Tryz.prog 92 := enters_of Tryz.func92 (by kernel_rfl) rfl
def s_ref03_digits (P : Program) (t0 : Value) (w : World) (R : Ending → World → Prop) : Prop :=
  Ix P 9 t0 (.int .i64 0) w fun t8 w =>
  Bn P .eql 5 true t8 (.int .u8 45) w fun t9 w =>
  Jn1 (fun k1 =>
  If t9
  (Sc P 9 t0 (some (.int .i64 1)) none none w fun t12 w =>
  k1 t12 w)
  (k1 t0 w))
  (fun t0x1 w =>
  Bt P .len #[9] 3 #[t0x1] w fun t14 w =>
  Bn P .sub 3 true t14 (.int .i64 1) w fun t15 w =>
  Lp2 (.slice none 0 0) t15 w (fun t5 t6 w k2 =>
  Bn P .geq 3 true t6 (.int .i64 0) w fun t17 w =>
  Gd t17 true (fun k => k t0x1 w) w fun t19 w =>
  Gd t17 true (fun k => Bn P .neq 9 true t19 (str [48]) w k) w fun t20 w =>
  Pick t17 t20 (.bool false) w fun t21 w =>
  If t21
  (Ix P 9 t0x1 t6 w fun t27 w =>
  Bn P .sub 5 true t27 (.int .u8 48) w fun t28 w =>
  Cv P 5 3 t28 w fun t29 w =>
  Bs P 44 1 [(0, t29)] w fun t30 w =>
  Bt P .append #[44, 44] 44 #[t5, t30] w fun t31 w =>
  Bn P .sub 3 true t6 (.int .i64 1) w fun t23 w =>
  k2 t31 t23 w)
  (R (.returned (.tuple #[t9, t5])) w)))
theorem e_ref03_digits {t0 : Value} {w : World} {R : Ending → World → Prop} (h : s_ref03_digits Tryz.prog t0 w R) : Calls Tryz.prog 94 #[t0] w R :=
  enter (h := (.sq .z (.sq .z (.jn [0] [10, 11, 12] (.sq .z (.cd .z .z)) (.sq .z (.sq (.sq .z (.bk (.lp [5, 6] [16, 17, 18, 19, 20, 21, 22, 23, 24, 25, 26, 27, 28, 29, 30, 31] (.sq (.sq .z (.cd .z .z)) (.sq (.bk .z) .z))))) (.sq .z .z))))))) (args := [t0]) Tryz.func94 (by kernel_rfl) (by kernel_rfl) (by kernel_rfl) (Eq.mp (by kernel_rfl) h)
theorem n_ref03_digits : Enters Tryz.prog 94 := enters_of Tryz.func94 (by kernel_rfl) rfl
def s_ref03_order (P : Program) (t0 t1 : Value) (w : World) (R : Ending → World → Prop) : Prop :=
  Bt P .len #[44] 3 #[t0] w fun t7 w =>
  Bt P .len #[44] 3 #[t1] w fun t9 w =>
  Bn P .neq 3 false t7 t9 w fun t10 w =>
  If t10
  (Bt P .len #[44] 3 #[t0] w fun t12 w =>
  Bt P .len #[44] 3 #[t1] w fun t14 w =>
  Bn P .lss 3 false t12 t14 w fun t15 w =>
  If t15
  (R (.returned (.int .i64 (-1))) w)
  (R (.returned (.int .i64 1)) w))
  (Bt P .len #[44] 3 #[t0] w fun t17 w =>
  Bn P .sub 3 true t17 (.int .i64 1) w fun t18 w =>
  Lp1 t18 w (fun t5 w k1 =>
  Bn P .geq 3 true t5 (.int .i64 0) w fun t20 w =>
  If t20
  (Dv P true (Instr.indexAt 44 t0 t5) w.drew fun t25 =>
  Dv P false (Instr.loadAt 3 t25) w.drew fun t26 =>
  Dv P true (Instr.indexAt 44 t1 t5) w.drew fun t29 =>
  Dv P false (Instr.loadAt 3 t29) w.drew fun t30 =>
  Dv P true (bn .neq 3 false t26 t30) w.drew fun t31 =>
  If t31
  (Dv P true (Instr.indexAt 44 t0 t5) w.drew.drew fun t34 =>
  Dv P false (Instr.loadAt 3 t34) w.drew.drew fun t35 =>
  Dv P true (Instr.indexAt 44 t1 t5) w.drew.drew fun t38 =>
  Dv P false (Instr.loadAt 3 t38) w.drew.drew fun t39 =>
  Dv P true (bn .lss 3 false t35 t39) w.drew.drew fun t40 =>
  If t40
  (R (.returned (.int .i64 (-1))) w.drew.drew)
  (R (.returned (.int .i64 1)) w.drew.drew))
  (Bn P .sub 3 true t5 (.int .i64 1) w.drew fun t22 w =>
  k1 t22 w))
  (R (.returned (.int .i64 0)) w)))
theorem e_ref03_order {t0 t1 : Value} {w : World} {R : Ending → World → Prop} (h : s_ref03_order Tryz.prog t0 t1 w R) : Calls Tryz.prog 95 #[t0, t1] w R :=
  enter (h := (.sq .z (.sq (.sq .z (.cd (.sq (.sq .z (.cd (.sq .z .z) .z)) (.sq .z .z)) .z)) (.sq (.sq .z (.bk (.lp [5] [4, 19, 20, 21, 22, 23, 24, 25, 26, 27, 28, 29, 30, 31, 32, 33, 34, 35, 36, 37, 38, 39, 40] (.sq (.sq .z (.cd .z .z)) (.sq (.bk (.sq (.dr (.pur true 0 (.pur true 1 (.pur true 2 (.pur false 3 (.pur true 4 (.pur true 5 (.pur true 6 (.pur false 7 (.pur true 8 .done)))))))))) (.cd (.sq (.sq (.dr (.pur true 0 (.pur true 1 (.pur true 2 (.pur false 3 (.pur true 4 (.pur true 5 (.pur true 6 (.pur false 7 (.pur true 8 .done)))))))))) (.cd (.sq .z .z) .z)) (.sq .z .z)) .z))) .z))))) (.sq .z .z))))) (args := [t0, t1]) Tryz.func95 (by kernel_rfl) (by kernel_rfl) (by kernel_rfl) (Eq.mp (by kernel_rfl) h)
theorem n_ref03_order : Enters Tryz.prog 95 := enters_of Tryz.func95 (by kernel_rfl) rfl
def s_ref03_divided (P : Program) (t0 t1 : Value) (w : World) (R : Ending → World → Prop) : Prop :=
  Bt P .len #[44] 3 #[t0] w fun t10 w =>
  Ms P 44 t10 t10 w fun t11 w =>
  Bt P .len #[44] 3 #[t0] w fun t13 w =>
  Bn P .sub 3 true t13 (.int .i64 1) w fun t14 w =>
  Lp2 (.slice none 0 0) t14 w (fun t7 t8 w k1 =>
  Bn P .geq 3 true t8 (.int .i64 0) w fun t16 w =>
  If t16
  (Ia P 44 t0 t8 w fun t21 w =>
  Ld P 3 t21 w fun t22 w =>
  Bs P 44 1 [(0, t22)] w fun t23 w =>
  Bt P .append #[44, 44] 44 #[t23, t7] w fun t25 w =>
  Cl P 123 #[t25] w (Pk R) fun t26 w =>
  Lp1 t26 w (fun t7x1 w k2 =>
  Cl P 95 #[t7x1, t1] w (Pk R) fun t29 w =>
  Bn P .geq 3 true t29 (.int .i64 0) w fun t30 w =>
  If t30
  (Cl P 122 #[t7x1, t1] w (Pk R) fun t33 w =>
  Ia P 44 t11 t8 w fun t36 w =>
  Ld P 3 t36 w fun t37 w =>
  Bn P .add 3 true t37 (.int .i64 1) w fun t38 w =>
  Ia P 44 t11 t8 w fun t39 w =>
  Sto P 3 t39 t38 w fun w =>
  k2 t33 w)
  (Bn P .sub 3 true t8 (.int .i64 1) w fun t18 w =>
  k1 t7x1 t18 w)))
  (Cl P 123 #[t11] w (Pk R) fun t41 w =>
  R (.returned (.tuple #[t41, t7])) w))
theorem e_ref03_divided {t0 t1 : Value} {w : World} {R : Ending → World → Prop} (h : s_ref03_divided Tryz.prog t0 t1 w R) : Calls Tryz.prog 96 #[t0, t1] w R :=
  enter (h := (.sq .z (.sq .z (.sq .z (.sq (.sq .z (.bk (.lp [7, 8] [15, 16, 17, 18, 19, 20, 21, 22, 23, 24, 25, 26, 27, 28, 29, 30, 31, 32, 33, 34, 35, 36, 37, 38, 39] (.sq (.sq .z (.cd .z .z)) (.sq (.bk (.sq .z (.bk (.lp [7] [27, 28, 29, 30, 31, 32, 33, 34, 35, 36, 37, 38, 39] (.sq (.sq .z (.cd .z .z)) (.bk (.sq .z .z))))))) .z))))) (.sq .z .z)))))) (args := [t0, t1]) Tryz.func96 (by kernel_rfl) (by kernel_rfl) (by kernel_rfl) (Eq.mp (by kernel_rfl) h)
theorem n_ref03_divided : Enters Tryz.prog 96 := enters_of Tryz.func96 (by kernel_rfl) rfl
def s_ref03_checked (P : Program) (t0 t1 : Value) (w : World) (R : Ending → World → Prop) : Prop :=
  Cl P 92 #[t0, t1] w (Pk R) fun t11 w =>
  Ex t11 0 w fun t12 w =>
  Ex t11 1 w fun t13 w =>
  Un P .not t13 w fun t15 w =>
  If t15
  (R (.returned (.tuple #[(str []), (.int .i64 30)])) w)
  (R (.returned (.tuple #[t12, (.int .i64 0)])) w)
theorem e_ref03_checked {t0 t1 : Value} {w : World} {R : Ending → World → Prop} (h : s_ref03_checked Tryz.prog t0 t1 w R) : Calls Tryz.prog 97 #[t0, t1] w R :=
  enter (h := (.sq .z (.sq .z (.sq (.sq .z (.cd (.sq .z .z) .z)) (.sq .z .z))))) (args := [t0, t1]) Tryz.func97 (by kernel_rfl) (by kernel_rfl) (by kernel_rfl) (Eq.mp (by kernel_rfl) h)
theorem n_ref03_checked : Enters Tryz.prog 97 := enters_of Tryz.func97 (by kernel_rfl) rfl
def s_integer_parse (P : Program) (t0 : Value) (w : World) (R : Ending → World → Prop) : Prop :=
  Al P 96 w fun t2 w =>
  Cl P 118 #[t0, (str [45])] w (Pk R) fun t9 w =>
  Bt P .len #[9] 3 #[t9] w fun t11 w =>
  Bt P .len #[9] 3 #[t0] w fun t13 w =>
  Bn P .lss 3 false t11 t13 w fun t14 w =>
  Bd P 96 [(0, t14)] w fun t15 w =>
  Al P 96 w fun t4 w =>
  Sto P 96 t4 t15 w fun w =>
  Lp1 t9 w (fun t3 w k1 =>
  Bt P .len #[9] 3 #[t3] w fun t17 w =>
  Bn P .gtr 3 true t17 (.int .i64 0) w fun t18 w =>
  If t18
  (Bt P .len #[9] 3 #[t3] w fun t20 w =>
  Bn P .sub 3 true t20 (.int .i64 4) w fun t21 w =>
  Bt P .max #[3, 3] 3 #[(.int .i64 0), t21] w fun t22 w =>
  Sc P 9 t3 (some t22) none none w fun t26 w =>
  Cl P 125 #[t26] w (Pk R) fun t27 w =>
  Ex t27 0 w fun t28 w =>
  Ex t27 1 w fun t29 w =>
  Fa P 96 t4 1 w fun t30 w =>
  Ld P 94 t30 w fun t31 w =>
  Bs P 94 1 [(0, t28)] w fun t33 w =>
  Bt P .append #[94, 94] 94 #[t31, t33] w fun t34 w =>
  Fa P 96 t4 1 w fun t35 w =>
  Sto P 94 t35 t34 w fun w =>
  Sc P 9 t3 none (some t22) none w fun t38 w =>
  k1 t38 w)
  (Fa P 96 t4 1 w fun t39 w =>
  Ld P 94 t39 w fun t40 w =>
  Cl P 103 #[t40] w (Pk R) fun t41 w =>
  Fa P 96 t4 1 w fun t42 w =>
  Sto P 94 t42 t41 w fun w =>
  Ld P 96 t4 w fun t43 w =>
  Sto P 96 t2 t43 w fun w =>
  Rc P 96 t2 w fun r0 =>
  R (.returned r0) w))
theorem e_integer_parse {t0 : Value} {w : World} {R : Ending → World → Prop} (h : s_integer_parse Tryz.prog t0 w R) : Calls Tryz.prog 101 #[t0] w R :=
  enter (h := (.sq .z (.sq .z (.sq .z (.sq (.bk (.lp [3] [5, 6, 7, 16, 17, 18, 19, 20, 21, 22, 23, 24, 25, 26, 27, 28, 29, 30, 31, 32, 33, 34, 35, 36, 37, 38] (.sq (.sq .z (.cd .z .z)) (.bk (.sq .z (.sq .z (.sq .z .z))))))) (.sq .z (.sq .z .z))))))) (args := [t0]) Tryz.func101 (by kernel_rfl) (by kernel_rfl) (by kernel_rfl) (Eq.mp (by kernel_rfl) h)
theorem n_integer_parse : Enters Tryz.prog 101 := enters_of Tryz.func101 (by kernel_rfl) rfl
def s_slices_Backward_integer_number_int (P : Program) (t0 : Value) (w : World) (R : Ending → World → Prop) : Prop :=
  Bx P 94 t0 w fun t1 w =>
  R (.returned (.func (.func 126) #[] #[t1])) w
theorem e_slices_Backward_integer_number_int {t0 : Value} {w : World} {R : Ending → World → Prop} (h : s_slices_Backward_integer_number_int Tryz.prog t0 w R) : Calls Tryz.prog 102 #[t0] w R :=
  enter (h := (.sq .z (.sq .z .z))) (args := [t0]) Tryz.func102 (by kernel_rfl) (by kernel_rfl) (by kernel_rfl) (Eq.mp (by kernel_rfl) h)
theorem n_slices_Backward_integer_number_int : Enters Tryz.prog 102 := enters_of Tryz.func102 (by kernel_rfl) rfl
def s_integer_number_trimmed (P : Program) (t0 : Value) (w : World) (R : Ending → World → Prop) : Prop :=
  Lp1 t0 w (fun t0x1 w k1 =>
  Bt P .len #[94] 3 #[t0x1] w fun t4 w =>
  Bn P .gtr 3 true t4 (.int .i64 0) w fun t5 w =>
  Gd t5 true (fun k => k t0x1 w) w fun t7 w =>
  Gd t5 true (fun k => k t0x1 w) w fun t8 w =>
  Gd t5 true (fun k => Bt P .len #[94] 3 #[t8] w k) w fun t9 w =>
  Gd t5 true (fun k => Bn P .sub 3 true t9 (.int .i64 1) w k) w fun t10 w =>
  Gd t5 true (fun k => Ia P 94 t7 t10 w k) w fun t11 w =>
  Gd t5 true (fun k => Ld P 3 t11 w k) w fun t12 w =>
  Gd t5 true (fun k => Bn P .eql 3 true t12 (.int .i64 0) w k) w fun t13 w =>
  Pick t5 t13 (.bool false) w fun t14 w =>
  If t14
  (Bt P .len #[94] 3 #[t0x1] w fun t17 w =>
  Bn P .sub 3 true t17 (.int .i64 1) w fun t18 w =>
  Sc P 94 t0x1 none (some t18) none w fun t19 w =>
  k1 t19 w)
  (R (.returned t0x1) w))
theorem e_integer_number_trimmed {t0 : Value} {w : World} {R : Ending → World → Prop} (h : s_integer_number_trimmed Tryz.prog t0 w R) : Calls Tryz.prog 103 #[t0] w R :=
  enter (h := (.sq .z (.sq (.bk (.lp [0] [3, 4, 5, 6, 7, 8, 9, 10, 11, 12, 13, 14, 15, 16, 17, 18, 19] (.sq (.sq .z (.cd .z .z)) (.bk .z)))) (.sq .z .z)))) (args := [t0]) Tryz.func103 (by kernel_rfl) (by kernel_rfl) (by kernel_rfl) (Eq.mp (by kernel_rfl) h)
theorem n_integer_number_trimmed : Enters Tryz.prog 103 := enters_of Tryz.func103 (by kernel_rfl) rfl
def s_integer_number_by (P : Program) (t0 t1 : Value) (w : World) (R : Ending → World → Prop) : Prop :=
  Bx P 94 t0 w fun t2 w =>
  Bx P 3 t1 w fun t3 w =>
  Ld P 94 t2 w fun t5 w =>
  Bt P .len #[94] 3 #[t5] w fun t6 w =>
  Cl P 107 #[t6, (.int .i64 0), (.func (.func 127) #[] #[t2, t3])] w (Pk R) fun t8 w =>
  Cl P 103 #[t8] w (Pk R) fun t9 w =>
  R (.returned t9) w
theorem e_integer_number_by {t0 t1 : Value} {w : World} {R : Ending → World → Prop} (h : s_integer_number_by Tryz.prog t0 t1 w R) : Calls Tryz.prog 104 #[t0, t1] w R :=
  enter (h := (.sq .z (.sq .z .z))) (args := [t0, t1]) Tryz.func104 (by kernel_rfl) (by kernel_rfl) (by kernel_rfl) (Eq.mp (by kernel_rfl) h)
theorem n_integer_number_by : Enters Tryz.prog 104 := enters_of Tryz.func104 (by kernel_rfl) rfl
def s_integer_number_over_1 (P : Program) (t0 t1 t2 : Value) (w : World) (R : Ending → World → Prop) : Prop :=
  Dv P false (Instr.loadAt 123 t1) w.drew fun t5 =>
  Dv P true (bn .add 3 true t0 (.int .i64 1)) w.drew fun t7 =>
  Dv P false (Instr.loadAt 94 t2) w.drew fun t9 =>
  Cw P t5 #[t7] w.drew (Pk R) fun t8 w =>
  Ke P (Instr.loadAt 94 t2) t9 w <|
  Cl P 82 #[t8, t9] w (Pk R) fun t10 w =>
  Dv P true (bn .gtr 3 true t10 (.int .i64 0)) w fun t11 =>
  R (.returned t11) w
theorem e_integer_number_over_1 {t0 t1 t2 : Value} {w : World} {R : Ending → World → Prop} (h : s_integer_number_over_1 Tryz.prog t0 t1 t2 w R) : Calls Tryz.prog 105 #[t0, t1, t2] w R :=
  enter (h := (.sq .z (.sq (.dr (.pur false 0 (.pur true 1 (.pur true 2 (.pur false 4 (.eff 3 [4] (.eff 5 [] (.pur true 6 (.pur true 7 .done))))))))) .z))) (args := [t0, t1, t2]) Tryz.func105 (by kernel_rfl) (by kernel_rfl) (by kernel_rfl) (Eq.mp (by kernel_rfl) h)
theorem n_integer_number_over_1 : Enters Tryz.prog 105 := enters_of Tryz.func105 (by kernel_rfl) rfl
def s_sort_Search (P : Program) (t0 t1 : Value) (w : World) (R : Ending → World → Prop) : Prop :=
  Lp2 (.int .i64 0) t0 w (fun t5 t6 w k1 =>
  Bn P .lss 3 false t5 t6 w fun t11 w =>
  If t11
  (Bn P .add 3 false t5 t6 w fun t14 w =>
  Cv P 3 142 t14 w fun t15 w =>
  Bn P .shr 142 true t15 (.int .u64 1) w fun t16 w =>
  Cv P 142 3 t16 w fun t17 w =>
  Cw P t1 #[t17] w (Pk R) fun t20 w =>
  Un P .not t20 w fun t21 w =>
  If t21
  (Bn P .add 3 true t17 (.int .i64 1) w fun t23 w =>
  k1 t23 t6 w)
  (k1 t5 t17 w))
  (R (.returned t5) w))
theorem e_sort_Search {t0 t1 : Value} {w : World} {R : Ending → World → Prop} (h : s_sort_Search Tryz.prog t0 t1 w R) : Calls Tryz.prog 106 #[t0, t1] w R :=
  enter (h := (.sq .z (.sq .z (.sq (.bk (.lp [5, 6] [7, 9, 10, 11, 12, 13, 14, 15, 16, 17, 18, 19, 20, 21, 22, 23, 24] (.sq (.sq .z (.cd .z .z)) (.bk (.sq .z (.sq .z (.cd .z .z))))))) (.sq .z .z))))) (args := [t0, t1]) Tryz.func106 (by kernel_rfl) (by kernel_rfl) (by kernel_rfl) (Eq.mp (by kernel_rfl) h)
theorem n_sort_Search : Enters Tryz.prog 106 := enters_of Tryz.func106 (by kernel_rfl) rfl
def s_integer_fold_integer_number (P : Program) (t0 t1 t2 : Value) (w : World) (R : Ending → World → Prop) : Prop :=
  Bn P .add 3 true t0 (.int .i64 1) w fun t11 w =>
  Ms P 94 (.int .i64 0) t11 w fun t12 w =>
  Lp3 t1 t12 (.int .i64 0) w (fun t1x1 t7 t8 w k1 =>
  Bn P .lss 3 false t8 t0 w fun t15 w =>
  Gd t15 false (fun k => k t1x1 w) w fun t17 w =>
  Gd t15 false (fun k => Bn P .neq 3 true t17 (.int .i64 0) w k) w fun t18 w =>
  Pick t15 (.bool true) t18 w fun t19 w =>
  If t19
  (Cw P t2 #[t8] w (Pk R) fun t24 w =>
  Bn P .add 3 false t24 t1x1 w fun t26 w =>
  Bn P .lss 3 true t26 (.int .i64 0) w fun t28 w =>
  If t28
  (Bn P .add 3 true t26 (.int .i64 10000) w fun t30 w =>
  Bs P 94 1 [(0, t30)] w fun t39 w =>
  Bt P .append #[94, 94] 94 #[t7, t39] w fun t40 w =>
  Bn P .add 3 true t8 (.int .i64 1) w fun t21 w =>
  k1 (.int .i64 (-1)) t40 t21 w)
  (Bn P .geq 3 true t26 (.int .i64 10000) w fun t32 w =>
  If t32
  (Bn P .quo 3 true t26 (.int .i64 10000) w fun t34 w =>
  Bn P .rem 3 true t26 (.int .i64 10000) w fun t36 w =>
  Bs P 94 1 [(0, t36)] w fun t39x1 w =>
  Bt P .append #[94, 94] 94 #[t7, t39x1] w fun t40x1 w =>
  Bn P .add 3 true t8 (.int .i64 1) w fun t21x1 w =>
  k1 t34 t40x1 t21x1 w)
  (Bs P 94 1 [(0, t26)] w fun t39x2 w =>
  Bt P .append #[94, 94] 94 #[t7, t39x2] w fun t40x2 w =>
  Bn P .add 3 true t8 (.int .i64 1) w fun t21x2 w =>
  k1 (.int .i64 0) t40x2 t21x2 w)))
  (R (.returned t7) w))
theorem e_integer_fold_integer_number {t0 t1 t2 : Value} {w : World} {R : Ending → World → Prop} (h : s_integer_fold_integer_number Tryz.prog t0 t1 t2 w R) : Calls Tryz.prog 107 #[t0, t1, t2] w R :=
  enter (h := (.sq .z (.sq .z (.sq (.sq .z (.bk (.lp [1, 7, 8] [9, 13, 14, 15, 16, 17, 18, 19, 20, 21, 22, 23, 24, 25, 26, 27, 28, 29, 30, 31, 32, 33, 34, 35, 36, 37, 38, 39, 40] (.sq (.sq .z (.cd .z .z)) (.sq (.bk (.sq .z (.sq .z (.sq (.sq .z (.cd (.sq .z .z) (.sq .z (.cd (.sq .z .z) .z)))) .z)))) .z))))) (.sq .z .z))))) (args := [t0, t1, t2]) Tryz.func107 (by kernel_rfl) (by kernel_rfl) (by kernel_rfl) (Eq.mp (by kernel_rfl) h)
theorem n_integer_fold_integer_number : Enters Tryz.prog 107 := enters_of Tryz.func107 (by kernel_rfl) rfl
def s_integer_number_plus_1 (P : Program) (t0 t1 t2 : Value) (w : World) (R : Ending → World → Prop) : Prop :=
  Dv P false (Instr.loadAt 94 t1) w.drew fun t5 =>
  Dv P false (Instr.loadAt 94 t2) w.drew fun t8 =>
  Cl P 109 #[t5, t0] w.drew (Pk R) fun t7 w =>
  Ke P (Instr.loadAt 94 t2) t8 w <|
  Cl P 109 #[t8, t0] w (Pk R) fun t10 w =>
  Dv P true (bn .add 3 false t7 t10) w fun t11 =>
  R (.returned t11) w
theorem e_integer_number_plus_1 {t0 t1 t2 : Value} {w : World} {R : Ending → World → Prop} (h : s_integer_number_plus_1 Tryz.prog t0 t1 t2 w R) : Calls Tryz.prog 108 #[t0, t1, t2] w R :=
  enter (h := (.sq .z (.sq (.dr (.pur false 0 (.pur true 1 (.pur false 3 (.pur true 4 (.eff 2 [3] (.eff 5 [] (.pur true 6 (.pur true 7 .done))))))))) .z))) (args := [t0, t1, t2]) Tryz.func108 (by kernel_rfl) (by kernel_rfl) (by kernel_rfl) (Eq.mp (by kernel_rfl) h)
theorem n_integer_number_plus_1 : Enters Tryz.prog 108 := enters_of Tryz.func108 (by kernel_rfl) rfl
def s_integer_number_at (P : Program) (t0 t1 : Value) (w : World) (R : Ending → World → Prop) : Prop :=
  Bt P .len #[94] 3 #[t0] w fun t7 w =>
  Bn P .lss 3 false t1 t7 w fun t8 w =>
  If t8
  (Ia P 94 t0 t1 w fun t11 w =>
  Ld P 3 t11 w fun t12 w =>
  R (.returned t12) w)
  (R (.returned (.int .i64 0)) w)
theorem e_integer_number_at {t0 t1 : Value} {w : World} {R : Ending → World → Prop} (h : s_integer_number_at Tryz.prog t0 t1 w R) : Calls Tryz.prog 109 #[t0, t1] w R :=
  enter (h := (.sq .z (.sq (.sq .z (.cd (.sq .z .z) .z)) (.sq .z .z)))) (args := [t0, t1]) Tryz.func109 (by kernel_rfl) (by kernel_rfl) (by kernel_rfl) (Eq.mp (by kernel_rfl) h)
theorem n_integer_number_at : Enters Tryz.prog 109 := enters_of Tryz.func109 (by kernel_rfl) rfl
def s_integer_number_minus_1 (P : Program) (t0 t1 t2 : Value) (w : World) (R : Ending → World → Prop) : Prop :=
  Dv P false (Instr.loadAt 94 t1) w.drew fun t5 =>
  Dv P false (Instr.loadAt 94 t2) w.drew fun t8 =>
  Cl P 109 #[t5, t0] w.drew (Pk R) fun t7 w =>
  Ke P (Instr.loadAt 94 t2) t8 w <|
  Cl P 109 #[t8, t0] w (Pk R) fun t10 w =>
  Dv P true (bn .sub 3 false t7 t10) w fun t11 =>
  R (.returned t11) w
theorem e_integer_number_minus_1 {t0 t1 t2 : Value} {w : World} {R : Ending → World → Prop} (h : s_integer_number_minus_1 Tryz.prog t0 t1 t2 w R) : Calls Tryz.prog 110 #[t0, t1, t2] w R :=
  enter (h := (.sq .z (.sq (.dr (.pur false 0 (.pur true 1 (.pur false 3 (.pur true 4 (.eff 2 [3] (.eff 5 [] (.pur true 6 (.pur true 7 .done))))))))) .z))) (args := [t0, t1, t2]) Tryz.func110 (by kernel_rfl) (by kernel_rfl) (by kernel_rfl) (Eq.mp (by kernel_rfl) h)
theorem n_integer_number_minus_1 : Enters Tryz.prog 110 := enters_of Tryz.func110 (by kernel_rfl) rfl
theorem n_strconv_Itoa : Enters Tryz.prog 111 := enters_of Tryz.func111 (by kernel_rfl) rfl
theorem n_strings_Repeat : Enters Tryz.prog 112 := enters_of Tryz.func112 (by kernel_rfl) rfl
def s_strings_Builder_WriteString (P : Program) (t0 t1 : Value) (w : World) (R : Ending → World → Prop) : Prop :=
  Cl P 133 #[t0] w (Pk R) fun t7 w =>
  Nc t0 w fun t10 w =>
  Fa P 131 t10 1 w fun t11 w =>
  Ld P 129 t11 w fun t12 w =>
  Bt P .append #[129, 9] 129 #[t12, t1] w fun t14 w =>
  Nc t0 w fun t15 w =>
  Fa P 131 t15 1 w fun t16 w =>
  Sto P 129 t16 t14 w fun w =>
  Bt P .len #[9] 3 #[t1] w fun t18 w =>
  R (.returned (.tuple #[t18, .nilIface])) w
theorem e_strings_Builder_WriteString {t0 t1 : Value} {w : World} {R : Ending → World → Prop} (h : s_strings_Builder_WriteString Tryz.prog t0 t1 w R) : Calls Tryz.prog 113 #[t0, t1] w R :=
  enter (h := (.sq .z (.sq .z (.sq .z (.sq .z .z))))) (args := [t0, t1]) Tryz.func113 (by kernel_rfl) (by kernel_rfl) (by kernel_rfl) (Eq.mp (by kernel_rfl) h)
theorem n_strings_Builder_WriteString : Enters Tryz.prog 113 := enters_of Tryz.func113 (by kernel_rfl) rfl
theorem n_strings_Builder_String : Enters Tryz.prog 114 := enters_of Tryz.func114 (by kernel_rfl) rfl
def s_cmp_Compare_int (P : Program) (t0 t1 : Value) (w : World) (R : Ending → World → Prop) : Prop :=
  Cl P 134 #[t0] w (Pk R) fun t8 w =>
  Cl P 134 #[t1] w (Pk R) fun t10 w =>
  If t8
  (If t10
  (R (.returned (.int .i64 0)) w)
  (R (.returned (.int .i64 (-1))) w))
  (If t10
  (R (.returned (.int .i64 1)) w)
  (Bn P .lss 3 false t0 t1 w fun t16 w =>
  If t16
  (R (.returned (.int .i64 (-1))) w)
  (Bn P .gtr 3 false t0 t1 w fun t19 w =>
  If t19
  (R (.returned (.int .i64 1)) w)
  (R (.returned (.int .i64 0)) w))))
theorem e_cmp_Compare_int {t0 t1 : Value} {w : World} {R : Ending → World → Prop} (h : s_cmp_Compare_int Tryz.prog t0 t1 w R) : Calls Tryz.prog 115 #[t0, t1] w R :=
  enter (h := (.sq .z (.sq .z (.sq .z (.sq (.sq .z (.cd (.sq (.sq .z (.cd (.sq .z .z) .z)) (.sq .z .z)) .z)) (.sq (.sq .z (.cd (.sq .z .z) .z)) (.sq (.sq .z (.cd (.sq .z .z) .z)) (.sq (.sq .z (.cd (.sq .z .z) .z)) (.sq .z .z))))))))) (args := [t0, t1]) Tryz.func115 (by kernel_rfl) (by kernel_rfl) (by kernel_rfl) (Eq.mp (by kernel_rfl) h)
theorem n_cmp_Compare_int : Enters Tryz.prog 115 := enters_of Tryz.func115 (by kernel_rfl) rfl
def s_integer_number_times (P : Program) (t0 t1 : Value) (w : World) (R : Ending → World → Prop) : Prop :=
  Bx P 94 t0 w fun t2 w =>
  Al P 94 w fun t5 w =>
  Cl P 102 #[t1] w (Pk R) fun t9 w =>
  Rf2 P t9 w (fun t10 t11 w next lv =>
  Jn0 (fun k1 =>
  Ld P 94 t5 w fun t12 w =>
  Bt P .len #[94] 3 #[t12] w fun t13 w =>
  Bn P .gtr 3 true t13 (.int .i64 0) w fun t14 w =>
  If t14
  (Bs P 94 1 [(0, (.int .i64 0))] w fun t15 w =>
  Ld P 94 t5 w fun t16 w =>
  Bt P .append #[94, 94] 94 #[t15, t16] w fun t17 w =>
  Sto P 94 t5 t17 w fun w =>
  k1 w)
  (k1 w))
  (fun w =>
  Dv P false (Instr.loadAt 94 t5) w.drew fun t18 =>
  Dv P false (Instr.loadAt 94 t2) w.drew fun t19 =>
  Cl P 104 #[t19, t11] w.drew (fun _ _ => False) fun t21 w =>
  Ke P (Instr.loadAt 94 t5) t18 w <|
  Cl P 78 #[t18, t21] w (fun _ _ => False) fun t22 w =>
  Sto P 94 t5 t22 w fun w =>
  next w))
  (fun D1 w =>
  Ld P 94 t5 w fun t23 w =>
  Tk P D1 w fun w =>
  R (.returned t23) w)
  (fun D1 w =>
  Tk P D1 w fun w =>
  R (.returned (.slice none 0 0)) w) []
theorem e_integer_number_times {t0 t1 : Value} {w : World} {R : Ending → World → Prop} (h : s_integer_number_times Tryz.prog t0 t1 w R) : Calls Tryz.prog 116 #[t0, t1] w R :=
  enter (h := (.sq .z (.sq .z (.sq (.sq .z (.bk (.rf (.bk (.jn [] [12, 13, 14, 15, 16, 17] (.sq .z (.cd .z .z)) (.dr (.pur false 0 (.pur false 1 (.pur true 2 (.eff 3 [0] (.eff 4 [] (.eff 5 [] .done))))))))) []))) (.sq .z .z))))) (args := [t0, t1]) Tryz.func116 (by kernel_rfl) (by kernel_rfl) (by kernel_rfl) (Eq.mp (by kernel_rfl) h)
theorem n_integer_number_times : Enters Tryz.prog 116 := enters_of Tryz.func116 (by kernel_rfl) rfl
def s_rational_work_quotient_1 (P : Program) (t0 t1 : Value) (w : World) (R : Ending → World → Prop) : Prop :=
  Cl P 51 #[t0, t1] w (Pk R) fun t12 w =>
  Ex t12 0 w fun t13 w =>
  Ex t12 1 w fun t14 w =>
  Ex t12 2 w fun t15 w =>
  R (.returned (.tuple #[t13, t15])) w
theorem e_rational_work_quotient_1 {t0 t1 : Value} {w : World} {R : Ending → World → Prop} (h : s_rational_work_quotient_1 Tryz.prog t0 t1 w R) : Calls Tryz.prog 117 #[t0, t1] w R :=
  enter (h := (.sq .z (.sq .z (.sq .z .z)))) (args := [t0, t1]) Tryz.func117 (by kernel_rfl) (by kernel_rfl) (by kernel_rfl) (Eq.mp (by kernel_rfl) h)
theorem n_rational_work_quotient_1 : Enters Tryz.prog 117 := enters_of Tryz.func117 (by kernel_rfl) rfl
theorem n_strings_TrimPrefix : Enters Tryz.prog 118 := enters_of Tryz.func118 (by kernel_rfl) rfl
def s_strings_Trim (P : Program) (t0 t1 : Value) (w : World) (R : Ending → World → Prop) : Prop :=
  Bn P .eql 9 true t0 (str []) w fun t8 w =>
  Gd t8 false (fun k => k t1 w) w fun t10 w =>
  Gd t8 false (fun k => Bn P .eql 9 true t10 (str []) w k) w fun t11 w =>
  Pick t8 (.bool true) t11 w fun t12 w =>
  If t12
  (R (.returned t0) w)
  (Bt P .len #[9] 3 #[t1] w fun t15 w =>
  Bn P .eql 3 true t15 (.int .i64 1) w fun t16 w =>
  Gd t16 true (fun k => k t1 w) w fun t18 w =>
  Gd t16 true (fun k => Ix P 9 t18 (.int .i64 0) w k) w fun t19 w =>
  Gd t16 true (fun k => Bn P .lss 5 true t19 (.int .u8 128) w k) w fun t20 w =>
  Pick t16 t20 (.bool false) w fun t21 w =>
  If t21
  (Dv P true (Instr.index 9 t1 (.int .i64 0)) w.drew fun t24 =>
  Dv P true (Instr.index 9 t1 (.int .i64 0)) w.drew fun t27 =>
  Cl P 137 #[t0, t24] w.drew (Pk R) fun t25 w =>
  Cl P 136 #[t25, t27] w (Pk R) fun t28 w =>
  R (.returned t28) w)
  (Cl P 138 #[t1] w (Pk R) fun t31 w =>
  Ex t31 0 w fun t32 w =>
  Ex t31 1 w fun t33 w =>
  Al P 151 w fun t5 w =>
  Sto P 151 t5 t32 w fun w =>
  If t33
  (Cl P 140 #[t0, t5] w (Pk R) fun t36 w =>
  Cl P 139 #[t36, t5] w (Pk R) fun t37 w =>
  R (.returned t37) w)
  (Cl P 142 #[t0, t1] w (Pk R) fun t40 w =>
  Cl P 141 #[t40, t1] w (Pk R) fun t42 w =>
  R (.returned t42) w)))
theorem e_strings_Trim {t0 t1 : Value} {w : World} {R : Ending → World → Prop} (h : s_strings_Trim Tryz.prog t0 t1 w R) : Calls Tryz.prog 119 #[t0, t1] w R :=
  enter (h := (.sq .z (.sq (.sq .z (.cd (.sq .z .z) .z)) (.sq (.sq .z (.cd (.sq (.dr (.pur true 0 (.pur true 1 (.pur true 2 (.pur true 4 (.pur true 5 (.eff 3 [] (.eff 6 [] (.pur true 7 .done))))))))) .z) .z)) (.sq (.sq .z (.sq .z (.cd (.sq .z .z) .z))) (.sq .z .z)))))) (args := [t0, t1]) Tryz.func119 (by kernel_rfl) (by kernel_rfl) (by kernel_rfl) (Eq.mp (by kernel_rfl) h)
theorem n_strings_Trim : Enters Tryz.prog 119 := enters_of Tryz.func119 (by kernel_rfl) rfl
def s_ref03_sum (P : Program) (t0 t1 t2 t3 : Value) (w : World) (R : Ending → World → Prop) : Prop :=
  Jn2 (fun k1 =>
  Bn P .eql 4 false t0 t2 w fun t15 w =>
  If t15
  (Cl P 121 #[t1, t3] w (Pk R) fun t18 w =>
  k1 t0 t18 w)
  (Cl P 95 #[t1, t3] w (Pk R) fun t21 w =>
  Bn P .geq 3 true t21 (.int .i64 0) w fun t22 w =>
  If t22
  (Cl P 122 #[t1, t3] w (Pk R) fun t25 w =>
  k1 t0 t25 w)
  (Cl P 122 #[t3, t1] w (Pk R) fun t29 w =>
  k1 t2 t29 w)))
  (fun t10 t11 w =>
  Cl P 97 #[t10, t11] w (Pk R) fun t32 w =>
  Ex t32 0 w fun t33 w =>
  Ex t32 1 w fun t34 w =>
  R (.returned (.tuple #[t33, t34])) w)
theorem e_ref03_sum {t0 t1 t2 t3 : Value} {w : World} {R : Ending → World → Prop} (h : s_ref03_sum Tryz.prog t0 t1 t2 t3 w R) : Calls Tryz.prog 120 #[t0, t1, t2, t3] w R :=
  enter (h := (.sq .z (.sq .z (.sq .z (.jn [10, 11] [13, 14, 15, 16, 17, 18, 19, 20, 21, 22, 23, 24, 25, 26, 27, 28, 29] (.sq .z (.cd .z (.sq .z (.cd .z (.sq .z .z))))) (.sq .z .z)))))) (args := [t0, t1, t2, t3]) Tryz.func120 (by kernel_rfl) (by kernel_rfl) (by kernel_rfl) (Eq.mp (by kernel_rfl) h)
theorem n_ref03_sum : Enters Tryz.prog 120 := enters_of Tryz.func120 (by kernel_rfl) rfl
def s_ref03_plus (P : Program) (t0 t1 : Value) (w : World) (R : Ending → World → Prop) : Prop :=
  Lp3 (.slice none 0 0) (.int .i64 0) (.int .i64 0) w (fun t5 t6 t7 w k1 =>
  Bt P .len #[44] 3 #[t0] w fun t11 w =>
  Bn P .lss 3 false t7 t11 w fun t12 w =>
  Gd t12 false (fun k => k t7 w) w fun t14 w =>
  Gd t12 false (fun k => k t1 w) w fun t15 w =>
  Gd t12 false (fun k => Bt P .len #[44] 3 #[t15] w k) w fun t16 w =>
  Gd t12 false (fun k => Bn P .lss 3 false t14 t16 w k) w fun t17 w =>
  Pick t12 (.bool true) t17 w fun t18 w =>
  Gd t18 false (fun k => k t6 w) w fun t20 w =>
  Gd t18 false (fun k => Bn P .gtr 3 true t20 (.int .i64 0) w k) w fun t21 w =>
  Pick t18 (.bool true) t21 w fun t22 w =>
  If t22
  (Jn1 (fun k2 =>
  Bt P .len #[44] 3 #[t0] w fun t28 w =>
  Bn P .lss 3 false t7 t28 w fun t29 w =>
  If t29
  (Ia P 44 t0 t7 w fun t33 w =>
  Ld P 3 t33 w fun t34 w =>
  Bn P .add 3 false t6 t34 w fun t35 w =>
  k2 t35 w)
  (k2 t6 w))
  (fun t8 w =>
  Jn1 (fun k3 =>
  Bt P .len #[44] 3 #[t1] w fun t38 w =>
  Bn P .lss 3 false t7 t38 w fun t39 w =>
  If t39
  (Ia P 44 t1 t7 w fun t43 w =>
  Ld P 3 t43 w fun t44 w =>
  Bn P .add 3 false t8 t44 w fun t45 w =>
  k3 t45 w)
  (k3 t8 w))
  (fun t8x1 w =>
  Bn P .rem 3 true t8x1 (.int .i64 10) w fun t48 w =>
  Bs P 44 1 [(0, t48)] w fun t49 w =>
  Bt P .append #[44, 44] 44 #[t5, t49] w fun t50 w =>
  Bn P .quo 3 true t8x1 (.int .i64 10) w fun t52 w =>
  Bn P .add 3 true t7 (.int .i64 1) w fun t24 w =>
  k1 t50 t52 t24 w)))
  (R (.returned t5) w))
theorem e_ref03_plus {t0 t1 : Value} {w : World} {R : Ending → World → Prop} (h : s_ref03_plus Tryz.prog t0 t1 w R) : Calls Tryz.prog 121 #[t0, t1] w R :=
  enter (h := (.sq .z (.sq .z (.sq .z (.sq (.sq .z (.bk (.lp [5, 6, 7] [8, 9, 10, 11, 12, 13, 14, 15, 16, 17, 18, 19, 20, 21, 22, 23, 24, 25, 26, 27, 28, 29, 30, 31, 32, 33, 34, 35, 36, 37, 38, 39, 40, 41, 42, 43, 44, 45, 46, 47, 48, 49, 50, 51, 52] (.sq (.sq .z (.cd .z .z)) (.sq (.bk (.sq .z (.jn [8] [26, 27, 28, 29, 30, 31, 32, 33, 34, 35] (.sq .z (.cd .z .z)) (.jn [8] [36, 37, 38, 39, 40, 41, 42, 43, 44, 45] (.sq .z (.cd .z .z)) (.sq .z .z))))) .z))))) (.sq .z .z)))))) (args := [t0, t1]) Tryz.func121 (by kernel_rfl) (by kernel_rfl) (by kernel_rfl) (Eq.mp (by kernel_rfl) h)
theorem n_ref03_plus : Enters Tryz.prog 121 := enters_of Tryz.func121 (by kernel_rfl) rfl
def s_ref03_minus (P : Program) (t0 t1 : Value) (w : World) (R : Ending → World → Prop) : Prop :=
  Lp3 (.slice none 0 0) (.int .i64 0) (.int .i64 0) w (fun t5 t6 t7 w k1 =>
  Bt P .len #[44] 3 #[t0] w fun t11 w =>
  Bn P .lss 3 false t7 t11 w fun t12 w =>
  If t12
  (Ia P 44 t0 t7 w fun t17 w =>
  Ld P 3 t17 w fun t18 w =>
  Bn P .sub 3 false t18 t6 w fun t20 w =>
  Jn1 (fun k2 =>
  Bt P .len #[44] 3 #[t1] w fun t23 w =>
  Bn P .lss 3 false t7 t23 w fun t24 w =>
  If t24
  (Ia P 44 t1 t7 w fun t28 w =>
  Ld P 3 t28 w fun t29 w =>
  Bn P .sub 3 false t20 t29 w fun t30 w =>
  k2 t30 w)
  (k2 t20 w))
  (fun t8 w =>
  Bn P .lss 3 true t8 (.int .i64 0) w fun t32 w =>
  If t32
  (Bn P .add 3 true t8 (.int .i64 10) w fun t34 w =>
  Bs P 44 1 [(0, t34)] w fun t37 w =>
  Bt P .append #[44, 44] 44 #[t5, t37] w fun t38 w =>
  Bn P .add 3 true t7 (.int .i64 1) w fun t14 w =>
  k1 t38 (.int .i64 1) t14 w)
  (Bs P 44 1 [(0, t8)] w fun t37x1 w =>
  Bt P .append #[44, 44] 44 #[t5, t37x1] w fun t38x1 w =>
  Bn P .add 3 true t7 (.int .i64 1) w fun t14x1 w =>
  k1 t38x1 (.int .i64 0) t14x1 w)))
  (Cl P 123 #[t5] w (Pk R) fun t40 w =>
  R (.returned t40) w))
theorem e_ref03_minus {t0 t1 : Value} {w : World} {R : Ending → World → Prop} (h : s_ref03_minus Tryz.prog t0 t1 w R) : Calls Tryz.prog 122 #[t0, t1] w R :=
  enter (h := (.sq .z (.sq .z (.sq .z (.sq (.sq .z (.bk (.lp [5, 6, 7] [8, 9, 10, 11, 12, 13, 14, 15, 16, 17, 18, 19, 20, 21, 22, 23, 24, 25, 26, 27, 28, 29, 30, 31, 32, 33, 34, 35, 36, 37, 38] (.sq (.sq .z (.cd .z .z)) (.sq (.bk (.sq .z (.jn [8] [21, 22, 23, 24, 25, 26, 27, 28, 29, 30] (.sq .z (.cd .z .z)) (.sq .z (.sq (.sq .z (.cd (.sq .z .z) .z)) .z))))) .z))))) (.sq .z .z)))))) (args := [t0, t1]) Tryz.func122 (by kernel_rfl) (by kernel_rfl) (by kernel_rfl) (Eq.mp (by kernel_rfl) h)
theorem n_ref03_minus : Enters Tryz.prog 122 := enters_of Tryz.func122 (by kernel_rfl) rfl
def s_ref03_trim (P : Program) (t0 : Value) (w : World) (R : Ending → World → Prop) : Prop :=
  Lp1 t0 w (fun t0x1 w k1 =>
  Bt P .len #[44] 3 #[t0x1] w fun t4 w =>
  Bn P .gtr 3 true t4 (.int .i64 0) w fun t5 w =>
  Gd t5 true (fun k => k t0x1 w) w fun t7 w =>
  Gd t5 true (fun k => k t0x1 w) w fun t8 w =>
  Gd t5 true (fun k => Bt P .len #[44] 3 #[t8] w k) w fun t9 w =>
  Gd t5 true (fun k => Bn P .sub 3 true t9 (.int .i64 1) w k) w fun t10 w =>
  Gd t5 true (fun k => Ia P 44 t7 t10 w k) w fun t11 w =>
  Gd t5 true (fun k => Ld P 3 t11 w k) w fun t12 w =>
  Gd t5 true (fun k => Bn P .eql 3 true t12 (.int .i64 0) w k) w fun t13 w =>
  Pick t5 t13 (.bool false) w fun t14 w =>
  If t14
  (Bt P .len #[44] 3 #[t0x1] w fun t17 w =>
  Bn P .sub 3 true t17 (.int .i64 1) w fun t18 w =>
  Sc P 44 t0x1 none (some t18) none w fun t19 w =>
  k1 t19 w)
  (R (.returned t0x1) w))
theorem e_ref03_trim {t0 : Value} {w : World} {R : Ending → World → Prop} (h : s_ref03_trim Tryz.prog t0 w R) : Calls Tryz.prog 123 #[t0] w R :=
  enter (h := (.sq .z (.sq (.bk (.lp [0] [3, 4, 5, 6, 7, 8, 9, 10, 11, 12, 13, 14, 15, 16, 17, 18, 19] (.sq (.sq .z (.cd .z .z)) (.bk .z)))) (.sq .z .z)))) (args := [t0]) Tryz.func123 (by kernel_rfl) (by kernel_rfl) (by kernel_rfl) (Eq.mp (by kernel_rfl) h)
theorem n_ref03_trim : Enters Tryz.prog 123 := enters_of Tryz.func123 (by kernel_rfl) rfl
theorem n_strconv_Atoi : Enters Tryz.prog 125 := enters_of Tryz.func125 (by kernel_rfl) rfl
def s_slices_Backward_integer_number_int_1 (P : Program) (t0 t1 : Value) (w : World) (R : Ending → World → Prop) : Prop :=
  Ld P 94 t1 w fun t4 w =>
  Bt P .len #[94] 3 #[t4] w fun t5 w =>
  Bn P .sub 3 true t5 (.int .i64 1) w fun t6 w =>
  Lp1 t6 w (fun t3 w k1 =>
  Bn P .geq 3 true t3 (.int .i64 0) w fun t8 w =>
  If t8
  (Ld P 94 t1 w fun t13 w =>
  Ia P 94 t13 t3 w fun t15 w =>
  Ld P 3 t15 w fun t16 w =>
  Cw P t0 #[t3, t16] w (Pk R) fun t17 w =>
  Un P .not t17 w fun t18 w =>
  If t18
  (R (.returned (.tuple #[])) w)
  (Bn P .sub 3 true t3 (.int .i64 1) w fun t10 w =>
  k1 t10 w))
  (R (.returned (.tuple #[])) w))
theorem e_slices_Backward_integer_number_int_1 {t0 t1 : Value} {w : World} {R : Ending → World → Prop} (h : s_slices_Backward_integer_number_int_1 Tryz.prog t0 t1 w R) : Calls Tryz.prog 126 #[t0, t1] w R :=
  enter (h := (.sq .z (.bk (.lp [3] [7, 8, 9, 10, 11, 12, 13, 14, 15, 16, 17, 18] (.sq (.sq .z (.cd .z .z)) (.sq (.bk (.sq .z (.cd .z .z))) .z)))))) (args := [t0, t1]) Tryz.func126 (by kernel_rfl) (by kernel_rfl) (by kernel_rfl) (Eq.mp (by kernel_rfl) h)
theorem n_slices_Backward_integer_number_int_1 : Enters Tryz.prog 126 := enters_of Tryz.func126 (by kernel_rfl) rfl
def s_integer_number_by_1 (P : Program) (t0 t1 t2 : Value) (w : World) (R : Ending → World → Prop) : Prop :=
  Dv P false (Instr.loadAt 94 t1) w.drew fun t5 =>
  Dv P false (Instr.loadAt 3 t2) w.drew fun t8 =>
  Cl P 109 #[t5, t0] w.drew (Pk R) fun t7 w =>
  Ke P (Instr.loadAt 3 t2) t8 w <|
  Dv P true (bn .mul 3 false t7 t8) w fun t9 =>
  R (.returned t9) w
theorem e_integer_number_by_1 {t0 t1 t2 : Value} {w : World} {R : Ending → World → Prop} (h : s_integer_number_by_1 Tryz.prog t0 t1 t2 w R) : Calls Tryz.prog 127 #[t0, t1, t2] w R :=
  enter (h := (.sq .z (.sq (.dr (.pur false 0 (.pur true 1 (.pur false 3 (.eff 2 [3] (.pur true 4 (.pur true 5 .done))))))) .z))) (args := [t0, t1, t2]) Tryz.func127 (by kernel_rfl) (by kernel_rfl) (by kernel_rfl) (Eq.mp (by kernel_rfl) h)
theorem n_integer_number_by_1 : Enters Tryz.prog 127 := enters_of Tryz.func127 (by kernel_rfl) rfl
def s_strings_Builder_copyCheck (P : Program) (t0 : Value) (w : World) (R : Ending → World → Prop) : Prop :=
  Nc t0 w fun t3 w =>
  Fa P 131 t3 0 w fun t4 w =>
  Ld P 128 t4 w fun t5 w =>
  Bn P .eql 128 true t5 (.pointer none) w fun t6 w =>
  If t6
  (Cv P 128 164 t0 w fun t9 w =>
  Cl P 150 #[t9] w (Pk R) fun t10 w =>
  Cv P 164 128 t10 w fun t11 w =>
  Nc t0 w fun t12 w =>
  Fa P 131 t12 0 w fun t13 w =>
  Sto P 128 t13 t11 w fun w =>
  R (.returned (.tuple #[])) w)
  (Nc t0 w fun t15 w =>
  Fa P 131 t15 0 w fun t16 w =>
  Ld P 128 t16 w fun t17 w =>
  Bn P .neq 128 false t17 t0 w fun t19 w =>
  If t19
  (False)
  (R (.returned (.tuple #[])) w))
theorem e_strings_Builder_copyCheck {t0 : Value} {w : World} {R : Ending → World → Prop} (h : s_strings_Builder_copyCheck Tryz.prog t0 w R) : Calls Tryz.prog 133 #[t0] w R :=
  enter (h := (.sq .z (.cd .z (.sq .z (.cd .z .z))))) (args := [t0]) Tryz.func133 (by kernel_rfl) (by kernel_rfl) (by kernel_rfl) (Eq.mp (by kernel_rfl) h)
theorem n_strings_Builder_copyCheck : Enters Tryz.prog 133 := enters_of Tryz.func133 (by kernel_rfl) rfl
def s_cmp_isNaN_int (P : Program) (t0 : Value) (w : World) (R : Ending → World → Prop) : Prop :=
  Bn P .neq 3 false t0 t0 w fun t5 w =>
  R (.returned t5) w
theorem e_cmp_isNaN_int {t0 : Value} {w : World} {R : Ending → World → Prop} (h : s_cmp_isNaN_int Tryz.prog t0 w R) : Calls Tryz.prog 134 #[t0] w R :=
  enter (h := (.sq .z (.sq .z .z))) (args := [t0]) Tryz.func134 (by kernel_rfl) (by kernel_rfl) (by kernel_rfl) (Eq.mp (by kernel_rfl) h)
theorem n_cmp_isNaN_int : Enters Tryz.prog 134 := enters_of Tryz.func134 (by kernel_rfl) rfl
theorem n_strings_makeASCIISet : Enters Tryz.prog 138 := enters_of Tryz.func138 (by kernel_rfl) rfl
def s_strings_trimLeftASCII (P : Program) (t0 t1 : Value) (w : World) (R : Ending → World → Prop) : Prop :=
  Lp1 t0 w (fun t0x1 w k1 =>
  Bt P .len #[9] 3 #[t0x1] w fun t6 w =>
  Bn P .gtr 3 true t6 (.int .i64 0) w fun t7 w =>
  If t7
  (Ix P 9 t0x1 (.int .i64 0) w fun t10 w =>
  Cl P 151 #[t1, t10] w (Pk R) fun t11 w =>
  Un P .not t11 w fun t12 w =>
  If t12
  (R (.returned t0x1) w)
  (Sc P 9 t0x1 (some (.int .i64 1)) none none w fun t14 w =>
  k1 t14 w))
  (R (.returned t0x1) w))
theorem e_strings_trimLeftASCII {t0 t1 : Value} {w : World} {R : Ending → World → Prop} (h : s_strings_trimLeftASCII Tryz.prog t0 t1 w R) : Calls Tryz.prog 139 #[t0, t1] w R :=
  enter (h := (.sq .z (.sq (.bk (.lp [0] [5, 6, 7, 8, 9, 10, 11, 12, 13, 14] (.sq (.sq .z (.cd .z .z)) (.bk (.sq (.sq .z (.cd .z .z)) .z))))) (.sq .z .z)))) (args := [t0, t1]) Tryz.func139 (by kernel_rfl) (by kernel_rfl) (by kernel_rfl) (Eq.mp (by kernel_rfl) h)
theorem n_strings_trimLeftASCII : Enters Tryz.prog 139 := enters_of Tryz.func139 (by kernel_rfl) rfl
def s_strings_trimRightASCII (P : Program) (t0 t1 : Value) (w : World) (R : Ending → World → Prop) : Prop :=
  Lp1 t0 w (fun t0x1 w k1 =>
  Bt P .len #[9] 3 #[t0x1] w fun t6 w =>
  Bn P .gtr 3 true t6 (.int .i64 0) w fun t7 w =>
  If t7
  (Bt P .len #[9] 3 #[t0x1] w fun t11 w =>
  Bn P .sub 3 true t11 (.int .i64 1) w fun t12 w =>
  Ix P 9 t0x1 t12 w fun t13 w =>
  Cl P 151 #[t1, t13] w (Pk R) fun t14 w =>
  Un P .not t14 w fun t15 w =>
  If t15
  (R (.returned t0x1) w)
  (Bt P .len #[9] 3 #[t0x1] w fun t18 w =>
  Bn P .sub 3 true t18 (.int .i64 1) w fun t19 w =>
  Sc P 9 t0x1 none (some t19) none w fun t20 w =>
  k1 t20 w))
  (R (.returned t0x1) w))
theorem e_strings_trimRightASCII {t0 t1 : Value} {w : World} {R : Ending → World → Prop} (h : s_strings_trimRightASCII Tryz.prog t0 t1 w R) : Calls Tryz.prog 140 #[t0, t1] w R :=
  enter (h := (.sq .z (.sq (.bk (.lp [0] [5, 6, 7, 8, 9, 10, 11, 12, 13, 14, 15, 16, 17, 18, 19, 20] (.sq (.sq .z (.cd .z .z)) (.bk (.sq (.sq .z (.cd .z .z)) .z))))) (.sq .z .z)))) (args := [t0, t1]) Tryz.func140 (by kernel_rfl) (by kernel_rfl) (by kernel_rfl) (Eq.mp (by kernel_rfl) h)
theorem n_strings_trimRightASCII : Enters Tryz.prog 140 := enters_of Tryz.func140 (by kernel_rfl) rfl
theorem n_strings_asciiSet_contains : Enters Tryz.prog 151 := enters_of Tryz.func151 (by kernel_rfl) rfl
end Go.Proofs.YtnocjgmmglmfiaaGreatDoor
