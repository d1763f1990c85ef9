/-
  Contracts and plain lemmas. By an AI agent.
-/
import Derived.Test.YtnkmbjedcjcccaaGreatDoorEng
import Derived.Test.YtnkmbjedcjcccaaGreatDoorProg
set_option linter.unusedSimpArgs false
set_option linter.unusedVariables false
set_option linter.unusedSectionVars false
namespace Go.Proofs.YtnkmbjedcjcccaaGreatDoor
open Go Go.Eng Go.Shelf
set_option maxRecDepth 100000
variable {t0 t1 t2 t3 : Value} {w : World} {R : Ending → World → Prop}
def s_rational_Sub (P : Program) (t0 t1 : Value) (w : World) (R : Ending → World → Prop) : Prop :=
 Bx P 25 t0 w fun t2 w =>
 Bx P 25 t1 w fun t3 w =>
 Al P 25 w fun t4 w =>
 Ld P 25 t2 w fun t6 w =>
 Ld P 25 t3 w fun t7 w =>
 Cl P 67 #[(.func (.func 68) #[] #[]), t6, t7] w (Pk R) fun t8 w =>
 Ex t8 0 w fun t9 w =>
 Ex t8 1 w fun t10 w =>
 Sto P 25 t4 t9 w fun w =>
 Rc P 25 t4 w fun r0 =>
 R (.returned (.tuple #[r0, t10])) w
theorem e_rational_Sub (h : s_rational_Sub Tryz.prog t0 t1 w R) : Calls Tryz.prog 31 #[t0, t1] w R :=
 en1 (.sq .z (.sq .z .z)) [t0, t1] Tryz.func31 (by kernel_rfl) (by kernel_rfl) h
theorem n_rational_Sub : Enters Tryz.prog 31 := enters_of Tryz.func31 (by kernel_rfl) rfl
def s_rational_Mul (P : Program) (t0 t1 : Value) (w : World) (R : Ending → World → Prop) : Prop :=
 Bx P 25 t0 w fun t2 w =>
 Bx P 25 t1 w fun t3 w =>
 Al P 25 w fun t4 w =>
 Bd P 113 [] w fun t8 w =>
 Bx P 113 t8 w fun t9 w =>
 Ld P 25 t2 w fun t11 w =>
 Ld P 25 t3 w fun t12 w =>
 Bs P 147 2 [(0, t11), (1, t12)] w fun t13 w =>
 Cl P 69 #[t9, t13] w (Pk R) fun t14 w =>
 Fa P 25 t2 0 w fun t16 w =>
 Ld P 9 t16 w fun t17 w =>
 Fa P 25 t3 0 w fun t18 w =>
 Ld P 9 t18 w fun t19 w =>
 Cl P 70 #[t9, t17, t19] w (Pk R) fun t20 w =>
 Fa P 25 t2 1 w fun t24 w =>
 Ld P 9 t24 w fun t25 w =>
 Fa P 25 t3 1 w fun t26 w =>
 Ld P 9 t26 w fun t27 w =>
 Cl P 70 #[t9, t25, t27] w (Pk R) fun t28 w =>
 Cl P 71 #[t9, t20, t28] w (Pk R) fun t29 w =>
 Ex t29 0 w fun t30 w =>
 Ex t29 1 w fun t31 w =>
 Sto P 25 t4 t30 w fun w =>
 Rc P 25 t4 w fun r0 =>
 R (.returned (.tuple #[r0, t31])) w
theorem e_rational_Mul (h : s_rational_Mul Tryz.prog t0 t1 w R) : Calls Tryz.prog 32 #[t0, t1] w R :=
 en1 (.sq .z (.sq .z (.sq .z (.sq .z (.sq .z .z))))) [t0, t1] Tryz.func32 (by kernel_rfl) (by kernel_rfl) h
theorem n_rational_Mul : Enters Tryz.prog 32 := enters_of Tryz.func32 (by kernel_rfl) rfl
def s_rational_Compare (P : Program) (t0 t1 : Value) (w : World) (R : Ending → World → Prop) : Prop :=
 Bx P 25 t0 w fun t2 w =>
 Bx P 25 t1 w fun t3 w =>
 Ld P 25 t2 w fun t13 w =>
 Cl P 72 #[t13] w (Pk R) fun t14 w =>
 Un P .not t14 w fun t15 w =>
 Gd t15 false (fun k => Ld P 25 t3 w k) w fun t17 w =>
 Gd t15 false (fun k => Cl P 72 #[t17] w (Pk R) k) w fun t18 w =>
 Gd t15 false (fun k => Un P .not t18 w k) w fun t19 w =>
 Pick t15 (.bool true) t19 w fun t20 w =>
 If t20
 (R (.returned (.int .i64 0)) w)
 (Lp1 (.int .i64 1) w (fun t5 w k1 =>
 Fa P 25 t2 0 w fun t22 w =>
 Ld P 9 t22 w fun t23 w =>
 Fa P 25 t2 1 w fun t24 w =>
 Ld P 9 t24 w fun t25 w =>
 Cl P 73 #[t23, t25] w (Pk R) fun t26 w =>
 Ex t26 0 w fun t27 w =>
 Ex t26 1 w fun t28 w =>
 Ex t26 2 w fun t29 w =>
 Fa P 25 t3 0 w fun t31 w =>
 Ld P 9 t31 w fun t32 w =>
 Fa P 25 t3 1 w fun t33 w =>
 Ld P 9 t33 w fun t34 w =>
 Cl P 73 #[t32, t34] w (Pk R) fun t35 w =>
 Ex t35 0 w fun t36 w =>
 Ex t35 1 w fun t37 w =>
 Ex t35 2 w fun t38 w =>
 Cl P 74 #[t27, t36] w (Pk R) fun t41 w =>
 Bn P .neq 3 true t41 (.int .i64 0) w fun t44 w =>
 If t44
 (Bn P .mul 3 false t5 t41 w fun t47 w =>
 R (.returned t47) w)
 (Bn P .eql 9 true t28 (str [48]) w fun t50 w =>
 Gd t50 true (fun k => k t37 w) w fun t52 w =>
 Gd t50 true (fun k => Bn P .eql 9 true t52 (str [48]) w k) w fun t53 w =>
 Pick t50 t53 (.bool false) w fun t54 w =>
 If t54
 (R (.returned (.int .i64 0)) w)
 (Bn P .eql 9 true t28 (str [48]) w fun t57 w =>
 If t57
 (Un P .neg t5 w fun t59 w =>
 R (.returned t59) w)
 (Bn P .eql 9 true t37 (str [48]) w fun t62 w =>
 If t62
 (R (.returned t5) w)
 (dFl P 25 t2 1 w.drew fun t64 =>
 dL P 9 t64 w.drew fun t65 =>
 Dv P true (Instr.build 25 #[(0, t65), (1, t28)]) w.drew fun t67 =>
 dFl P 25 t3 1 w.drew fun t68 =>
 dL P 9 t68 w.drew fun t69 =>
 Dv P true (Instr.build 25 #[(0, t69), (1, t37)]) w.drew fun t71 =>
 Dv P true (Op.unary .neg t5) w.drew fun t73 =>
 Sto P 25 t2 t67 w.drew fun w =>
 kLd P 9 t68 t69 w <|
 Sto P 25 t3 t71 w fun w =>
 k1 t73 w))))))
theorem e_rational_Compare (h : s_rational_Compare Tryz.prog t0 t1 w R) : Calls Tryz.prog 34 #[t0, t1] w R :=
 en1 (.sq .z (.sc [5] [4, 6, 7, 8, 9, 10, 11, 12, 21, 22, 23, 24, 25, 26, 27, 28, 29, 30, 31, 32, 33, 34, 35, 36, 37, 38, 39, 40, 41, 42, 43, 44, 45, 46, 47, 48, 49, 50, 51, 52, 53, 54, 55, 56, 57, 58, 59, 60, 61, 62, 63, 64, 65, 66, 67, 68, 69, 70, 71, 72, 73] (.sq .z (.cd (.sq .z .z) .z)) .z (.sq .z (.sq .z (.sq (.sq .z (.bk (.sq .z (.cd (.sq .z .z) (.sq .z (.cd (.sq .z .z) (.sq .z (.cd (.sq .z .z) (.sq .z (.cd (.sq .z .z) .z)))))))))) (.sq (.dr (.pur true 0 (.pur false 1 (.pur true 2 (.pur true 3 (.pur true 4 (.pur false 5 (.pur true 6 (.pur true 7 (.pur true 8 (.pur true 9 (.eff 10 [5] (.eff 11 [] (.pur true 12 .done)))))))))))))) .z)))))) [t0, t1] Tryz.func34 (by kernel_rfl) (by kernel_rfl) h
theorem n_rational_Compare : Enters Tryz.prog 34 := enters_of Tryz.func34 (by kernel_rfl) rfl
def s_rational_Add (P : Program) (t0 t1 : Value) (w : World) (R : Ending → World → Prop) : Prop :=
 Bx P 25 t0 w fun t2 w =>
 Bx P 25 t1 w fun t3 w =>
 Al P 25 w fun t4 w =>
 Ld P 25 t2 w fun t6 w =>
 Ld P 25 t3 w fun t7 w =>
 Cl P 67 #[(.func (.func 75) #[] #[]), t6, t7] w (Pk R) fun t8 w =>
 Ex t8 0 w fun t9 w =>
 Ex t8 1 w fun t10 w =>
 Sto P 25 t4 t9 w fun w =>
 Rc P 25 t4 w fun r0 =>
 R (.returned (.tuple #[r0, t10])) w
theorem e_rational_Add (h : s_rational_Add Tryz.prog t0 t1 w R) : Calls Tryz.prog 35 #[t0, t1] w R :=
 en1 (.sq .z (.sq .z .z)) [t0, t1] Tryz.func35 (by kernel_rfl) (by kernel_rfl) h
theorem n_rational_Add : Enters Tryz.prog 35 := enters_of Tryz.func35 (by kernel_rfl) rfl
def s_slices_ContainsFunc_api_Watch_api_Watch (P : Program) (t0 t1 : Value) (w : World) (R : Ending → World → Prop) : Prop :=
 Cl P 77 #[t0, t1] w (Pk R) fun t7 w =>
 Bn P .geq 3 true t7 (.int .i64 0) w fun t8 w =>
 R (.returned t8) w
theorem e_slices_ContainsFunc_api_Watch_api_Watch (h : s_slices_ContainsFunc_api_Watch_api_Watch Tryz.prog t0 t1 w R) : Calls Tryz.prog 42 #[t0, t1] w R :=
 en1 (.sq .z (.sq .z .z)) [t0, t1] Tryz.func42 (by kernel_rfl) (by kernel_rfl) h
theorem n_slices_ContainsFunc_api_Watch_api_Watch : Enters Tryz.prog 42 := enters_of Tryz.func42 (by kernel_rfl) rfl
def s_slices_Equal_api_Watch_api_Watch (P : Program) (t0 t1 : Value) (w : World) (R : Ending → World → Prop) : Prop :=
 Bt P .len #[26] 3 #[t0] w fun t7 w =>
 Bt P .len #[26] 3 #[t1] w fun t9 w =>
 Bn P .neq 3 false t7 t9 w fun t10 w =>
 If t10
 (R (.returned (.bool false)) w)
 (Bt P .len #[26] 3 #[t0] w fun t12 w =>
 Lp1 (.int .i64 0) w (fun t13 w k1 =>
 Bn P .lss 3 false t13 t12 w fun t14 w =>
 If t14
 (dIx P 26 t0 t13 w.drew fun t18 =>
 dL P 30 t18 w.drew fun t19 =>
 dIx P 26 t1 t13 w.drew fun t22 =>
 dL P 30 t22 w.drew fun t23 =>
 Dv P false (bn .neq 30 false t19 t23) w.drew fun t24 =>
 If t24
 (R (.returned (.bool false)) w.drew)
 (Bn P .add 3 true t13 (.int .i64 1) w.drew fun t25 w =>
 k1 t25 w))
 (R (.returned (.bool true)) w)))
theorem e_slices_Equal_api_Watch_api_Watch (h : s_slices_Equal_api_Watch_api_Watch Tryz.prog t0 t1 w R) : Calls Tryz.prog 50 #[t0, t1] w R :=
 en1 (.sq .z (.sq (.sq .z (.cd (.sq .z .z) .z)) (.sq (.sq .z (.bk (.lp [13] [4, 5, 14, 15, 16, 17, 18, 19, 20, 21, 22, 23, 24, 25] (.sq .z (.sq (.cd .z .z) (.sq (.bk (.sq .z (.sq (.dr (.pur true 0 (.pur true 1 (.pur true 2 (.pur false 3 (.pur true 4 (.pur true 5 (.pur true 6 (.pur false 7 (.pur false 8 .done)))))))))) (.cd (.sq .z .z) .z)))) .z)))))) (.sq .z .z)))) [t0, t1] Tryz.func50 (by kernel_rfl) (by kernel_rfl) h
theorem n_slices_Equal_api_Watch_api_Watch : Enters Tryz.prog 50 := enters_of Tryz.func50 (by kernel_rfl) rfl
def s_trace_ValidFacts (P : Program) (t0 : Value) (w : World) (R : Ending → World → Prop) : Prop :=
 Bt P .len #[31] 3 #[t0] w fun t6 w =>
 Lp1 (.int .i64 0) w (fun t7 w k1 =>
 Bn P .lss 3 false t7 t6 w fun t8 w =>
 If t8
 (Ia P 31 t0 t7 w fun t10 w =>
 Ld P 65 t10 w fun t11 w =>
 Al P 65 w fun t4 w =>
 Sto P 65 t4 t11 w fun w =>
 dL P 65 t4 w.drew fun t12 =>
 Cl P 92 #[t12] w.drew (Pk R) fun t13 w =>
 Dv P true (Op.unary .not t13) w fun t14 =>
 GdP t14 false (fun k => k t7) fun t16 =>
 GdP t14 false (fun k => Dv P true (bn .gtr 3 true t16 (.int .i64 0)) w k) fun t17 =>
 GdP t14 false (fun k => k t17) fun t18 =>
 GdP t18 true (fun k => k t0) fun t19 =>
 GdP t18 true (fun k => k t7) fun t20 =>
 GdP t18 true (fun k => Dv P true (bn .sub 3 true t20 (.int .i64 1)) w k) fun t21 =>
 GdP t18 true (fun k => dIx P 31 t19 t21 w k) fun t22 =>
 GdP t18 true (fun k => dL P 65 t22 w k) fun t23 =>
 GdP t18 true (fun k => dL P 65 t4 w k) fun t24 =>
 Gd t18 true (fun k => Cl P 93 #[t23, t24] w (Pk R) k) w fun t25 w =>
 GdP t18 true (fun k => Dv P true (bn .geq 3 true t25 (.int .i64 0)) w k) fun t26 =>
 GdP t14 false (fun k => PickP t18 t26 (.bool false) k) fun t27 =>
 PickP t14 (.bool true) t27 fun t28 =>
 If t28
 (R (.returned (.bool false)) w)
 (Bn P .add 3 true t7 (.int .i64 1) w fun t29 w =>
 k1 t29 w))
 (Bt P .len #[31] 3 #[t0] w fun t31 w =>
 Bn P .leq 3 true t31 (.int .i64 400) w fun t32 w =>
 Gd t32 true (fun k => k t0 w) w fun t34 w =>
 Gd t32 true (fun k => Cl P 94 #[t34, (.func (.func 93) #[] #[])] w (Pk R) k) w fun t35 w =>
 Pick t32 t35 (.bool false) w fun t36 w =>
 R (.returned t36) w))
theorem e_trace_ValidFacts (h : s_trace_ValidFacts Tryz.prog t0 w R) : Calls Tryz.prog 58 #[t0] w R :=
 en1 (.sq .z (.sq (.sq .z (.bk (.lp [7] [2, 3, 4, 8, 9, 10, 11, 12, 13, 14, 15, 16, 17, 18, 19, 20, 21, 22, 23, 24, 25, 26, 27, 28, 29] (.sq .z (.sq (.cd .z .z) (.sq (.bk (.sq .z (.sq (.dr (.pur false 0 (.eff 1 [] (.pur true 2 (.pur true 3 (.pur true 4 (.pur true 5 (.pur true 6 (.pur true 7 (.pur true 8 (.pur true 9 (.pur true 10 (.pur false 11 (.pur false 12 (.eff 13 [] (.pur true 14 (.pur true 15 (.pur true 16 .done)))))))))))))))))) (.cd (.sq .z .z) .z)))) .z)))))) (.sq .z .z))) [t0] Tryz.func58 (by kernel_rfl) (by kernel_rfl) h
theorem n_trace_ValidFacts : Enters Tryz.prog 58 := enters_of Tryz.func58 (by kernel_rfl) rfl
def s_rational_Down (P : Program) (t0 t1 : Value) (w : World) (R : Ending → World → Prop) : Prop :=
 Bx P 25 t0 w fun t2 w =>
 Al P 25 w fun t4 w =>
 Ld P 25 t2 w fun t6 w =>
 Cl P 97 #[t6, t1, (.bool false)] w (Pk R) fun t8 w =>
 Ex t8 0 w fun t9 w =>
 Ex t8 1 w fun t10 w =>
 Sto P 25 t4 t9 w fun w =>
 Rc P 25 t4 w fun r0 =>
 R (.returned (.tuple #[r0, t10])) w
theorem e_rational_Down (h : s_rational_Down Tryz.prog t0 t1 w R) : Calls Tryz.prog 60 #[t0, t1] w R :=
 en1 (.sq .z (.sq .z .z)) [t0, t1] Tryz.func60 (by kernel_rfl) (by kernel_rfl) h
theorem n_rational_Down : Enters Tryz.prog 60 := enters_of Tryz.func60 (by kernel_rfl) rfl
def s_rational_Of (P : Program) (t0 t1 : Value) (w : World) (R : Ending → World → Prop) : Prop :=
 Al P 25 w fun t4 w =>
 Cl P 101 #[t0] w (Pk R) fun t7 w =>
 Cl P 101 #[t1] w (Pk R) fun t9 w =>
 Cl P 100 #[t7, t9] w (Pk R) fun t10 w =>
 Ex t10 0 w fun t11 w =>
 Ex t10 1 w fun t12 w =>
 Sto P 25 t4 t11 w fun w =>
 Rc P 25 t4 w fun r0 =>
 R (.returned (.tuple #[r0, t12])) w
theorem e_rational_Of (h : s_rational_Of Tryz.prog t0 t1 w R) : Calls Tryz.prog 66 #[t0, t1] w R :=
 en1 (.sq .z (.sq .z .z)) [t0, t1] Tryz.func66 (by kernel_rfl) (by kernel_rfl) h
theorem n_rational_Of : Enters Tryz.prog 66 := enters_of Tryz.func66 (by kernel_rfl) rfl
def s_rational_sum (P : Program) (t0 t1 t2 : Value) (w : World) (R : Ending → World → Prop) : Prop :=
 Bx P 25 t1 w fun t4 w =>
 Bx P 25 t2 w fun t5 w =>
 Al P 25 w fun t6 w =>
 Bd P 113 [] w fun t10 w =>
 Bx P 113 t10 w fun t11 w =>
 Ld P 25 t4 w fun t13 w =>
 Ld P 25 t5 w fun t14 w =>
 Bs P 147 2 [(0, t13), (1, t14)] w fun t15 w =>
 Cl P 69 #[t11, t15] w (Pk R) fun t16 w =>
 dFl P 25 t4 0 w.drew fun t20 =>
 dL P 9 t20 w.drew fun t21 =>
 dFl P 25 t5 1 w.drew fun t22 =>
 dL P 9 t22 w.drew fun t23 =>
 dFl P 25 t5 0 w.drew fun t26 =>
 dL P 9 t26 w.drew fun t27 =>
 dFl P 25 t4 1 w.drew fun t28 =>
 dL P 9 t28 w.drew fun t29 =>
 Cl P 70 #[t11, t21, t23] w.drew (Pk R) fun t24 w =>
 kLd P 9 t26 t27 w <|
 kLd P 9 t28 t29 w <|
 Cl P 70 #[t11, t27, t29] w (Pk R) fun t30 w =>
 Cl P 102 #[t11, t0, t24, t30] w (Pk R) fun t31 w =>
 Fa P 25 t4 1 w fun t35 w =>
 Ld P 9 t35 w fun t36 w =>
 Fa P 25 t5 1 w fun t37 w =>
 Ld P 9 t37 w fun t38 w =>
 Cl P 70 #[t11, t36, t38] w (Pk R) fun t39 w =>
 Cl P 71 #[t11, t31, t39] w (Pk R) fun t40 w =>
 Ex t40 0 w fun t41 w =>
 Ex t40 1 w fun t42 w =>
 Sto P 25 t6 t41 w fun w =>
 Rc P 25 t6 w fun r0 =>
 R (.returned (.tuple #[r0, t42])) w
theorem e_rational_sum (h : s_rational_sum Tryz.prog t0 t1 t2 w R) : Calls Tryz.prog 67 #[t0, t1, t2] w R :=
 en1 (.sq .z (.sq .z (.sq .z (.sq (.dr (.pur true 0 (.pur true 1 (.pur true 2 (.pur true 3 (.pur false 4 (.pur true 5 (.pur false 6 (.pur true 8 (.pur true 9 (.pur false 10 (.pur true 11 (.pur false 12 (.eff 7 [10, 12] (.eff 13 [] (.eff 14 [] (.pur true 15 .done))))))))))))))))) (.sq .z .z))))) [t0, t1, t2] Tryz.func67 (by kernel_rfl) (by kernel_rfl) h
theorem n_rational_sum : Enters Tryz.prog 67 := enters_of Tryz.func67 (by kernel_rfl) rfl
def s_integer_Sub (P : Program) (t0 t1 : Value) (w : World) (R : Ending → World → Prop) : Prop :=
 Cl P 103 #[t0, t1] w (Pk R) fun t12 w =>
 Ex t12 0 w fun t13 w =>
 Ex t12 1 w fun t14 w =>
 Ex t12 2 w fun t15 w =>
 Al P 141 w fun t6 w =>
 Al P 141 w fun t7 w =>
 Sto P 141 t6 t13 w fun w =>
 Sto P 141 t7 t14 w fun w =>
 Un P .not t15 w fun t17 w =>
 If t17
 (R (.returned (.tuple #[(str []), (.int .i64 30)])) w)
 (Fa P 141 t7 0 w fun t18 w =>
 Ld P 4 t18 w fun t19 w =>
 Un P .not t19 w fun t20 w =>
 Fa P 141 t7 0 w fun t21 w =>
 Sto P 4 t21 t20 w fun w =>
 Ld P 141 t6 w fun t22 w =>
 Ld P 141 t7 w fun t23 w =>
 Cl P 104 #[t22, t23] w (Pk R) fun t24 w =>
 Cl P 105 #[t24] w (Pk R) fun t25 w =>
 Ex t25 0 w fun t26 w =>
 Ex t25 1 w fun t27 w =>
 R (.returned (.tuple #[t26, t27])) w)
theorem e_integer_Sub (h : s_integer_Sub Tryz.prog t0 t1 w R) : Calls Tryz.prog 68 #[t0, t1] w R :=
 en1 (.sq .z (.sq .z (.sq (.sq .z (.cd (.sq .z .z) .z)) (.sq .z (.sq .z .z))))) [t0, t1] Tryz.func68 (by kernel_rfl) (by kernel_rfl) h
theorem n_integer_Sub : Enters Tryz.prog 68 := enters_of Tryz.func68 (by kernel_rfl) rfl
def s_rational_work_check (P : Program) (t0 t1 : Value) (w : World) (R : Ending → World → Prop) : Prop :=
 Bt P .len #[147] 3 #[t1] w fun t7 w =>
 Lp1 (.int .i64 0) w (fun t8 w k1 =>
 Bn P .lss 3 false t8 t7 w fun t9 w =>
 If t9
 (Ia P 147 t1 t8 w fun t10 w =>
 Ld P 25 t10 w fun t11 w =>
 Al P 25 w fun t5 w =>
 Sto P 25 t5 t11 w fun w =>
 Nc t0 w fun t14 w =>
 Fa P 113 t14 0 w fun t15 w =>
 Ld P 4 t15 w fun t16 w =>
 Gd t16 false (fun k => Ld P 25 t5 w k) w fun t18 w =>
 Gd t16 false (fun k => Cl P 72 #[t18] w (Pk R) k) w fun t19 w =>
 Gd t16 false (fun k => Un P .not t19 w k) w fun t20 w =>
 Pick t16 (.bool true) t20 w fun t21 w =>
 Nc t0 w fun t22 w =>
 Fa P 113 t22 0 w fun t23 w =>
 Sto P 4 t23 t21 w fun w =>
 Bn P .add 3 true t8 (.int .i64 1) w fun t24 w =>
 k1 t24 w)
 (R (.returned (.tuple #[])) w))
theorem e_rational_work_check (h : s_rational_work_check Tryz.prog t0 t1 w R) : Calls Tryz.prog 69 #[t0, t1] w R :=
 en1 (.sq .z (.bk (.lp [8] [5, 9, 10, 11, 12, 13, 14, 15, 16, 17, 18, 19, 20, 21, 22, 23, 24] (.sq .z (.sq (.cd .z .z) (.sq (.bk (.sq .z .z)) .z)))))) [t0, t1] Tryz.func69 (by kernel_rfl) (by kernel_rfl) h
theorem n_rational_work_check : Enters Tryz.prog 69 := enters_of Tryz.func69 (by kernel_rfl) rfl
def s_rational_work_mul (P : Program) (t0 t1 t2 : Value) (w : World) (R : Ending → World → Prop) : Prop :=
 Cl P 102 #[t0, (.func (.func 106) #[] #[]), t1, t2] w (Pk R) fun t10 w =>
 R (.returned t10) w
theorem e_rational_work_mul (h : s_rational_work_mul Tryz.prog t0 t1 t2 w R) : Calls Tryz.prog 70 #[t0, t1, t2] w R :=
 en1 (.sq .z (.sq .z .z)) [t0, t1, t2] Tryz.func70 (by kernel_rfl) (by kernel_rfl) h
theorem n_rational_work_mul : Enters Tryz.prog 70 := enters_of Tryz.func70 (by kernel_rfl) rfl
def s_rational_work_reduced (P : Program) (t0 t1 t2 : Value) (w : World) (R : Ending → World → Prop) : Prop :=
 Al P 25 w fun t6 w =>
 Nc t0 w fun t11 w =>
 Fa P 113 t11 0 w fun t12 w =>
 Ld P 4 t12 w fun t13 w =>
 Gd t13 false (fun k => k t2 w) w fun t15 w =>
 Gd t13 false (fun k => Bn P .eql 9 true t15 (str [48]) w k) w fun t16 w =>
 Pick t13 (.bool true) t16 w fun t17 w =>
 If t17
 (Bd P 25 [] w fun t18 w =>
 Sto P 25 t6 t18 w fun w =>
 Rc P 25 t6 w fun r0 =>
 R (.returned (.tuple #[r0, (.int .i64 40)])) w)
 (Jn2 (fun k1 =>
 Cl P 74 #[t2, (str [48])] w (Pk R) fun t20 w =>
 Bn P .lss 3 true t20 (.int .i64 0) w fun t21 w =>
 If t21
 (Cl P 102 #[t0, (.func (.func 68) #[] #[]), (str [48]), t1] w (Pk R) fun t24 w =>
 Cl P 102 #[t0, (.func (.func 68) #[] #[]), (str [48]), t2] w (Pk R) fun t27 w =>
 k1 t24 t27 w)
 (k1 t1 t2 w))
 (fun t1x1 t2x1 w =>
 Cl P 102 #[t0, (.func (.func 107) #[] #[]), t1x1, t2x1] w (Pk R) fun t31 w =>
 Cl P 108 #[t0, t1x1, t31] w (Pk R) fun t35 w =>
 Cl P 108 #[t0, t2x1, t31] w (Pk R) fun t39 w =>
 Bd P 25 [(0, t35), (1, t39)] w fun t40 w =>
 Al P 25 w fun t9 w =>
 Sto P 25 t9 t40 w fun w =>
 Nc t0 w fun t42 w =>
 Fa P 113 t42 0 w fun t43 w =>
 Ld P 4 t43 w fun t44 w =>
 If t44
 (Bd P 25 [] w fun t45 w =>
 Sto P 25 t6 t45 w fun w =>
 Rc P 25 t6 w fun r0 =>
 R (.returned (.tuple #[r0, (.int .i64 40)])) w)
 (Ld P 25 t9 w fun t46 w =>
 Sto P 25 t6 t46 w fun w =>
 Rc P 25 t6 w fun r0 =>
 R (.returned (.tuple #[r0, (.int .i64 0)])) w)))
theorem e_rational_work_reduced (h : s_rational_work_reduced Tryz.prog t0 t1 t2 w R) : Calls Tryz.prog 71 #[t0, t1, t2] w R :=
 en1 (.sq .z (.sq (.sq .z (.cd (.sq .z .z) .z)) (.jn [1, 2] [19, 20, 21, 22, 23, 24, 25, 26, 27] (.sq .z (.cd .z .z)) (.sq .z (.sq .z (.sq (.sq .z (.cd (.sq .z .z) .z)) (.sq .z .z))))))) [t0, t1, t2] Tryz.func71 (by kernel_rfl) (by kernel_rfl) h
theorem n_rational_work_reduced : Enters Tryz.prog 71 := enters_of Tryz.func71 (by kernel_rfl) rfl
def s_rational_Valid (P : Program) (t0 : Value) (w : World) (R : Ending → World → Prop) : Prop :=
 Bx P 25 t0 w fun t1 w =>
 Fa P 25 t1 0 w fun t5 w =>
 Ld P 9 t5 w fun t6 w =>
 Cl P 109 #[t6] w (Pk R) fun t7 w =>
 Un P .not t7 w fun t8 w =>
 Gd t8 false (fun k => Fa P 25 t1 1 w k) w fun t10 w =>
 Gd t8 false (fun k => Ld P 9 t10 w k) w fun t11 w =>
 Gd t8 false (fun k => Cl P 109 #[t11] w (Pk R) k) w fun t12 w =>
 Gd t8 false (fun k => Un P .not t12 w k) w fun t13 w =>
 Pick t8 (.bool true) t13 w fun t14 w =>
 Gd t14 false (fun k => Fa P 25 t1 1 w k) w fun t16 w =>
 Gd t14 false (fun k => Ld P 9 t16 w k) w fun t17 w =>
 Gd t14 false (fun k => Cl P 74 #[t17, (str [48])] w (Pk R) k) w fun t18 w =>
 Gd t14 false (fun k => Bn P .leq 3 true t18 (.int .i64 0) w k) w fun t19 w =>
 Pick t14 (.bool true) t19 w fun t20 w =>
 If t20
 (R (.returned (.bool false)) w)
 (Fa P 25 t1 0 w fun t22 w =>
 Ld P 9 t22 w fun t23 w =>
 Fa P 25 t1 1 w fun t24 w =>
 Ld P 9 t24 w fun t25 w =>
 Cl P 107 #[t23, t25] w (Pk R) fun t26 w =>
 Ex t26 0 w fun t27 w =>
 Ex t26 1 w fun t28 w =>
 Bn P .eql 46 true t28 (.int .i64 0) w fun t30 w =>
 Gd t30 true (fun k => k t27 w) w fun t32 w =>
 Gd t30 true (fun k => Bn P .eql 9 true t32 (str [49]) w k) w fun t33 w =>
 Pick t30 t33 (.bool false) w fun t34 w =>
 R (.returned t34) w)
theorem e_rational_Valid (h : s_rational_Valid Tryz.prog t0 w R) : Calls Tryz.prog 72 #[t0] w R :=
 en1 (.sq .z (.sq (.sq .z (.cd (.sq .z .z) .z)) (.sq .z (.sq .z .z)))) [t0] Tryz.func72 (by kernel_rfl) (by kernel_rfl) h
theorem n_rational_Valid : Enters Tryz.prog 72 := enters_of Tryz.func72 (by kernel_rfl) rfl
def s_integer_Div (P : Program) (t0 t1 : Value) (w : World) (R : Ending → World → Prop) : Prop :=
 Cl P 103 #[t0, t1] w (Pk R) fun t19 w =>
 Ex t19 0 w fun t20 w =>
 Ex t19 1 w fun t21 w =>
 Ex t19 2 w fun t22 w =>
 Al P 141 w fun t7 w =>
 Al P 141 w fun t8 w =>
 Sto P 141 t7 t20 w fun w =>
 Sto P 141 t8 t21 w fun w =>
 Un P .not t22 w fun t24 w =>
 Gd t24 false (fun k => Fa P 141 t8 1 w k) w fun t26 w =>
 Gd t24 false (fun k => Ld P 139 t26 w k) w fun t27 w =>
 Gd t24 false (fun k => Bt P .len #[139] 3 #[t27] w k) w fun t28 w =>
 Gd t24 false (fun k => Bn P .eql 3 true t28 (.int .i64 0) w k) w fun t29 w =>
 Pick t24 (.bool true) t29 w fun t30 w =>
 If t30
 (R (.returned (.tuple #[(str []), (str []), (.int .i64 30)])) w)
 (Fa P 141 t7 1 w fun t32 w =>
 Ld P 139 t32 w fun t33 w =>
 Fa P 141 t8 1 w fun t34 w =>
 Ld P 139 t34 w fun t35 w =>
 Cl P 110 #[t33, t35] w (Pk R) fun t36 w =>
 Ex t36 0 w fun t37 w =>
 Ex t36 1 w fun t38 w =>
 Jn2 (fun k1 =>
 Fa P 141 t7 0 w fun t39 w =>
 Ld P 4 t39 w fun t40 w =>
 Gd t40 true (fun k => k t38 w) w fun t42 w =>
 Gd t40 true (fun k => Bt P .len #[139] 3 #[t42] w k) w fun t43 w =>
 Gd t40 true (fun k => Bn P .gtr 3 true t43 (.int .i64 0) w k) w fun t44 w =>
 Pick t40 t44 (.bool false) w fun t45 w =>
 If t45
 (dFl P 141 t8 1 w.drew fun t49 =>
 dL P 139 t49 w.drew fun t50 =>
 Cl P 112 #[] w.drew (Pk R) fun t47 w =>
 kLd P 139 t49 t50 w <|
 Cl P 111 #[t37, t47] w (Pk R) fun t48 w =>
 kLd P 139 t49 t50 w <|
 Cl P 113 #[t50, t38] w (Pk R) fun t52 w =>
 k1 t48 t52 w)
 (k1 t37 t38 w))
 (fun t10 t11 w =>
 Fa P 141 t7 0 w fun t54 w =>
 Ld P 4 t54 w fun t55 w =>
 Fa P 141 t8 0 w fun t56 w =>
 Ld P 4 t56 w fun t57 w =>
 Bn P .neq 4 false t55 t57 w fun t58 w =>
 Bd P 141 [(0, t58), (1, t10)] w fun t60 w =>
 Cl P 105 #[t60] w (Pk R) fun t61 w =>
 Ex t61 0 w fun t62 w =>
 Ex t61 1 w fun t63 w =>
 Bn P .neq 46 true t63 (.int .i64 0) w fun t65 w =>
 If t65
 (R (.returned (.tuple #[(str []), (str []), t63])) w)
 (Bd P 141 [(1, t11)] w fun t69 w =>
 Cl P 105 #[t69] w (Pk R) fun t70 w =>
 Ex t70 0 w fun t71 w =>
 Ex t70 1 w fun t72 w =>
 R (.returned (.tuple #[t62, t71, (.int .i64 0)])) w)))
theorem e_integer_Div (h : s_integer_Div Tryz.prog t0 t1 w R) : Calls Tryz.prog 73 #[t0, t1] w R :=
 en1 (.sq .z (.sq .z (.sq (.sq .z (.cd (.sq .z .z) .z)) (.sq .z (.jn [10, 11] [39, 40, 41, 42, 43, 44, 45, 46, 47, 48, 49, 50, 51, 52] (.sq .z (.cd (.dr (.pur true 0 (.pur true 3 (.pur false 4 (.pur true 5 (.eff 1 [4] (.eff 2 [4] (.eff 6 [] (.pur true 7 (.pur true 8 .done)))))))))) .z)) (.sq .z (.sq (.sq .z (.cd (.sq .z .z) .z)) (.sq .z (.sq .z .z))))))))) [t0, t1] Tryz.func73 (by kernel_rfl) (by kernel_rfl) h
theorem n_integer_Div : Enters Tryz.prog 73 := enters_of Tryz.func73 (by kernel_rfl) rfl
def s_integer_Compare (P : Program) (t0 t1 : Value) (w : World) (R : Ending → World → Prop) : Prop :=
 Cl P 103 #[t0, t1] w (Pk R) fun t11 w =>
 Ex t11 0 w fun t12 w =>
 Ex t11 1 w fun t13 w =>
 Ex t11 2 w fun t14 w =>
 Al P 141 w fun t5 w =>
 Al P 141 w fun t6 w =>
 Sto P 141 t5 t12 w fun w =>
 Sto P 141 t6 t13 w fun w =>
 Un P .not t14 w fun t17 w =>
 If t17
 (R (.returned (.int .i64 0)) w)
 (Fa P 141 t5 0 w fun t19 w =>
 Ld P 4 t19 w fun t20 w =>
 Gd t20 true (fun k => Fa P 141 t6 0 w k) w fun t22 w =>
 Gd t20 true (fun k => Ld P 4 t22 w k) w fun t23 w =>
 Pick t20 t23 (.bool false) w fun t24 w =>
 If t24
 (Fa P 141 t6 1 w fun t25 w =>
 Ld P 139 t25 w fun t26 w =>
 Fa P 141 t5 1 w fun t27 w =>
 Ld P 139 t27 w fun t28 w =>
 Cl P 114 #[t26, t28] w (Pk R) fun t29 w =>
 R (.returned t29) w)
 (Fa P 141 t5 0 w fun t31 w =>
 Ld P 4 t31 w fun t32 w =>
 If t32
 (R (.returned (.int .i64 (-1))) w)
 (Fa P 141 t6 0 w fun t34 w =>
 Ld P 4 t34 w fun t35 w =>
 If t35
 (R (.returned (.int .i64 1)) w)
 (Fa P 141 t5 1 w fun t36 w =>
 Ld P 139 t36 w fun t37 w =>
 Fa P 141 t6 1 w fun t38 w =>
 Ld P 139 t38 w fun t39 w =>
 Cl P 114 #[t37, t39] w (Pk R) fun t40 w =>
 R (.returned t40) w))))
theorem e_integer_Compare (h : s_integer_Compare Tryz.prog t0 t1 w R) : Calls Tryz.prog 74 #[t0, t1] w R :=
 en1 (.sq .z (.sq .z (.sq (.bk (.sq .z (.cd (.sq .z .z) (.sq .z (.cd (.sq .z .z) (.sq .z (.cd (.sq .z .z) (.sq .z (.cd (.sq .z .z) .z))))))))) (.sq .z .z)))) [t0, t1] Tryz.func74 (by kernel_rfl) (by kernel_rfl) h
theorem n_integer_Compare : Enters Tryz.prog 74 := enters_of Tryz.func74 (by kernel_rfl) rfl
def s_integer_Add (P : Program) (t0 t1 : Value) (w : World) (R : Ending → World → Prop) : Prop :=
 Cl P 103 #[t0, t1] w (Pk R) fun t12 w =>
 Ex t12 0 w fun t13 w =>
 Ex t12 1 w fun t14 w =>
 Ex t12 2 w fun t15 w =>
 Al P 141 w fun t6 w =>
 Al P 141 w fun t7 w =>
 Sto P 141 t6 t13 w fun w =>
 Sto P 141 t7 t14 w fun w =>
 Un P .not t15 w fun t17 w =>
 If t17
 (R (.returned (.tuple #[(str []), (.int .i64 30)])) w)
 (Ld P 141 t6 w fun t18 w =>
 Ld P 141 t7 w fun t19 w =>
 Cl P 104 #[t18, t19] w (Pk R) fun t20 w =>
 Cl P 105 #[t20] w (Pk R) fun t21 w =>
 Ex t21 0 w fun t22 w =>
 Ex t21 1 w fun t23 w =>
 R (.returned (.tuple #[t22, t23])) w)
theorem e_integer_Add (h : s_integer_Add Tryz.prog t0 t1 w R) : Calls Tryz.prog 75 #[t0, t1] w R :=
 en1 (.sq .z (.sq .z (.sq (.sq .z (.cd (.sq .z .z) .z)) (.sq .z .z)))) [t0, t1] Tryz.func75 (by kernel_rfl) (by kernel_rfl) h
theorem n_integer_Add : Enters Tryz.prog 75 := enters_of Tryz.func75 (by kernel_rfl) rfl
theorem n_strconv_Atoi : Enters Tryz.prog 76 := enters_of Tryz.func76 (by kernel_rfl) rfl
def s_slices_IndexFunc_api_Watch_api_Watch (P : Program) (t0 t1 : Value) (w : World) (R : Ending → World → Prop) : Prop :=
 Bt P .len #[26] 3 #[t0] w fun t7 w =>
 Lp1 (.int .i64 0) w (fun t8 w k1 =>
 Bn P .lss 3 false t8 t7 w fun t9 w =>
 If t9
 (Ia P 26 t0 t8 w fun t14 w =>
 Ld P 30 t14 w fun t15 w =>
 Cw P t1 #[t15] w (Pk R) fun t16 w =>
 If t16
 (R (.returned t8) w)
 (Bn P .add 3 true t8 (.int .i64 1) w fun t18 w =>
 k1 t18 w))
 (R (.returned (.int .i64 (-1))) w))
theorem e_slices_IndexFunc_api_Watch_api_Watch (h : s_slices_IndexFunc_api_Watch_api_Watch Tryz.prog t0 t1 w R) : Calls Tryz.prog 77 #[t0, t1] w R :=
 en1 (.sq .z (.sq (.sq .z (.bk (.lp [8] [4, 5, 9, 10, 11, 12, 13, 14, 15, 16, 17, 18] (.sq .z (.sq (.cd .z .z) (.sq (.bk (.sq .z (.sq .z (.cd (.sq .z .z) .z)))) .z)))))) (.sq .z .z))) [t0, t1] Tryz.func77 (by kernel_rfl) (by kernel_rfl) h
theorem n_slices_IndexFunc_api_Watch_api_Watch : Enters Tryz.prog 77 := enters_of Tryz.func77 (by kernel_rfl) rfl
theorem n_strconv_Itoa : Enters Tryz.prog 78 := enters_of Tryz.func78 (by kernel_rfl) rfl
def s_ref03_Div (P : Program) (t0 t1 : Value) (w : World) (R : Ending → World → Prop) : Prop :=
 Cl P 118 #[t0] w (Pk R) fun t18 w =>
 Un P .not t18 w fun t19 w =>
 Gd t19 false (fun k => k t1 w) w fun t21 w =>
 Gd t19 false (fun k => Cl P 118 #[t21] w (Pk R) k) w fun t22 w =>
 Gd t19 false (fun k => Un P .not t22 w k) w fun t23 w =>
 Pick t19 (.bool true) t23 w fun t24 w =>
 Gd t24 false (fun k => k t1 w) w fun t26 w =>
 Gd t24 false (fun k => Bn P .eql 9 true t26 (str [48]) w k) w fun t27 w =>
 Pick t24 (.bool true) t27 w fun t28 w =>
 If t28
 (R (.returned (.tuple #[(str []), (str []), (.int .i64 30)])) w)
 (Cl P 121 #[t0] w (Pk R) fun t31 w =>
 Ex t31 0 w fun t32 w =>
 Ex t31 1 w fun t33 w =>
 Cl P 121 #[t1] w (Pk R) fun t36 w =>
 Ex t36 0 w fun t37 w =>
 Ex t36 1 w fun t38 w =>
 Cl P 122 #[t33, t38] w (Pk R) fun t42 w =>
 Ex t42 0 w fun t43 w =>
 Ex t42 1 w fun t44 w =>
 Jn2 (fun k1 =>
 Gd t32 true (fun k => k t44 w) w fun t47 w =>
 Gd t32 true (fun k => Bt P .len #[33] 3 #[t47] w k) w fun t48 w =>
 Gd t32 true (fun k => Bn P .gtr 3 true t48 (.int .i64 0) w k) w fun t49 w =>
 Pick t32 t49 (.bool false) w fun t50 w =>
 If t50
 (Bs P 33 1 [(0, (.int .i64 1))] w fun t52 w =>
 Cl P 123 #[t43, t52] w (Pk R) fun t53 w =>
 Cl P 124 #[t38, t44] w (Pk R) fun t56 w =>
 k1 t53 t56 w)
 (k1 t43 t44 w))
 (fun t11 t12 w =>
 Bn P .neq 4 false t32 t37 w fun t60 w =>
 Cl P 125 #[t60, t11] w (Pk R) fun t62 w =>
 Ex t62 0 w fun t63 w =>
 Ex t62 1 w fun t64 w =>
 Cl P 126 #[(.bool false), t12] w (Pk R) fun t67 w =>
 Ex t67 0 w fun t68 w =>
 Ex t67 1 w fun t69 w =>
 Bn P .neq 46 true t64 (.int .i64 0) w fun t71 w =>
 If t71
 (R (.returned (.tuple #[(str []), (str []), t64])) w)
 (R (.returned (.tuple #[t63, t68, (.int .i64 0)])) w)))
theorem e_ref03_Div (h : s_ref03_Div Tryz.prog t0 t1 w R) : Calls Tryz.prog 84 #[t0, t1] w R :=
 en1 (.sq .z (.sq (.sq .z (.cd (.sq .z .z) .z)) (.sq .z (.sq .z (.sq .z (.jn [11, 12] [45, 46, 47, 48, 49, 50, 51, 52, 53, 54, 55, 56] (.sq .z (.cd (.sq .z .z) .z)) (.sq .z (.sq .z (.sq (.sq .z (.cd (.sq .z .z) .z)) (.sq .z .z)))))))))) [t0, t1] Tryz.func84 (by kernel_rfl) (by kernel_rfl) h
theorem n_ref03_Div : Enters Tryz.prog 84 := enters_of Tryz.func84 (by kernel_rfl) rfl
def s_ref03_Compare (P : Program) (t0 t1 : Value) (w : World) (R : Ending → World → Prop) : Prop :=
 Cl P 118 #[t0] w (Pk R) fun t10 w =>
 Un P .not t10 w fun t11 w =>
 Gd t11 false (fun k => k t1 w) w fun t13 w =>
 Gd t11 false (fun k => Cl P 118 #[t13] w (Pk R) k) w fun t14 w =>
 Gd t11 false (fun k => Un P .not t14 w k) w fun t15 w =>
 Pick t11 (.bool true) t15 w fun t16 w =>
 If t16
 (R (.returned (.int .i64 0)) w)
 (Cl P 121 #[t0] w (Pk R) fun t19 w =>
 Ex t19 0 w fun t20 w =>
 Ex t19 1 w fun t21 w =>
 Cl P 121 #[t1] w (Pk R) fun t24 w =>
 Ex t24 0 w fun t25 w =>
 Ex t24 1 w fun t26 w =>
 Bn P .neq 4 false t20 t25 w fun t29 w =>
 If t29
 (If t20
 (R (.returned (.int .i64 (-1))) w)
 (R (.returned (.int .i64 1)) w))
 (If t20
 (Cl P 127 #[t26, t21] w (Pk R) fun t34 w =>
 R (.returned t34) w)
 (Cl P 127 #[t21, t26] w (Pk R) fun t37 w =>
 R (.returned t37) w)))
theorem e_ref03_Compare (h : s_ref03_Compare Tryz.prog t0 t1 w R) : Calls Tryz.prog 85 #[t0, t1] w R :=
 en1 (.sq .z (.sq (.sq .z (.cd (.sq .z .z) .z)) (.sq .z (.sq .z (.sq (.sq .z (.cd (.sq (.sq .z (.cd (.sq .z .z) .z)) (.sq .z .z)) .z)) (.sq (.sq .z (.cd (.sq .z .z) .z)) (.sq .z .z))))))) [t0, t1] Tryz.func85 (by kernel_rfl) (by kernel_rfl) h
theorem n_ref03_Compare : Enters Tryz.prog 85 := enters_of Tryz.func85 (by kernel_rfl) rfl
def s_ref04_Of (P : Program) (t0 t1 : Value) (w : World) (R : Ending → World → Prop) : Prop :=
 Al P 25 w fun t4 w =>
 Cl P 132 #[t0] w (Pk R) fun t7 w =>
 Cl P 132 #[t1] w (Pk R) fun t9 w =>
 Cl P 131 #[t7, t9] w (Pk R) fun t10 w =>
 Ex t10 0 w fun t11 w =>
 Ex t10 1 w fun t12 w =>
 Sto P 25 t4 t11 w fun w =>
 Rc P 25 t4 w fun r0 =>
 R (.returned (.tuple #[r0, t12])) w
theorem e_ref04_Of (h : s_ref04_Of Tryz.prog t0 t1 w R) : Calls Tryz.prog 89 #[t0, t1] w R :=
 en1 (.sq .z (.sq .z .z)) [t0, t1] Tryz.func89 (by kernel_rfl) (by kernel_rfl) h
theorem n_ref04_Of : Enters Tryz.prog 89 := enters_of Tryz.func89 (by kernel_rfl) rfl
def s_slices_Clone_api_Watch_api_Watch (P : Program) (t0 : Value) (w : World) (R : Ending → World → Prop) : Prop :=
 Bn P .eql 26 true t0 (.slice none 0 0) w fun t4 w =>
 If t4
 (R (.returned (.slice none 0 0)) w)
 (Bs P 26 0 [] w fun t5 w =>
 Bt P .append #[26, 26] 26 #[t5, t0] w fun t7 w =>
 R (.returned t7) w)
theorem e_slices_Clone_api_Watch_api_Watch (h : s_slices_Clone_api_Watch_api_Watch Tryz.prog t0 w R) : Calls Tryz.prog 90 #[t0] w R :=
 en1 (.sq .z (.sq (.sq .z (.cd (.sq .z .z) .z)) (.sq .z .z))) [t0] Tryz.func90 (by kernel_rfl) (by kernel_rfl) h
theorem n_slices_Clone_api_Watch_api_Watch : Enters Tryz.prog 90 := enters_of Tryz.func90 (by kernel_rfl) rfl
def s_trace_ValidFact (P : Program) (t0 : Value) (w : World) (R : Ending → World → Prop) : Prop :=
 Bx P 65 t0 w fun t1 w =>
 Fa P 65 t1 0 w fun t3 w =>
 Ld P 3 t3 w fun t4 w =>
 Cl P 133 #[t4, (.int .i64 0), (.int .i64 999)] w (Pk R) fun t5 w =>
 Gd t5 true (fun k => Fa P 65 t1 1 w k) w fun t7 w =>
 Gd t5 true (fun k => Ld P 3 t7 w k) w fun t8 w =>
 Gd t5 true (fun k => Cl P 133 #[t8, (.int .i64 0), (.int .i64 9)] w (Pk R) k) w fun t9 w =>
 Pick t5 t9 (.bool false) w fun t10 w =>
 Gd t10 true (fun k => Fa P 65 t1 2 w k) w fun t12 w =>
 Gd t10 true (fun k => Ld P 3 t12 w k) w fun t13 w =>
 Gd t10 true (fun k => Cl P 133 #[t13, (.int .i64 0), (.int .i64 7)] w (Pk R) k) w fun t14 w =>
 Pick t10 t14 (.bool false) w fun t15 w =>
 Gd t15 true (fun k => Fa P 65 t1 3 w k) w fun t17 w =>
 Gd t15 true (fun k => Ld P 3 t17 w k) w fun t18 w =>
 Gd t15 true (fun k => Cl P 133 #[t18, (.int .i64 0), (.int .i64 9)] w (Pk R) k) w fun t19 w =>
 Pick t15 t19 (.bool false) w fun t20 w =>
 Gd t20 true (fun k => Fa P 65 t1 4 w k) w fun t22 w =>
 Gd t20 true (fun k => Ld P 3 t22 w k) w fun t23 w =>
 Gd t20 true (fun k => Cl P 133 #[t23, (.int .i64 0), (.int .i64 11)] w (Pk R) k) w fun t24 w =>
 Pick t20 t24 (.bool false) w fun t25 w =>
 Gd t25 true (fun k => Fa P 65 t1 5 w k) w fun t27 w =>
 Gd t25 true (fun k => Ld P 3 t27 w k) w fun t28 w =>
 Gd t25 true (fun k => Cl P 133 #[t28, (.int .i64 (-1)), (.int .i64 19)] w (Pk R) k) w fun t29 w =>
 Pick t25 t29 (.bool false) w fun t30 w =>
 Gd t30 true (fun k => Fa P 65 t1 6 w k) w fun t32 w =>
 Gd t30 true (fun k => Ld P 3 t32 w k) w fun t33 w =>
 Gd t30 true (fun k => Fa P 65 t1 0 w k) w fun t34 w =>
 Gd t30 true (fun k => Ld P 3 t34 w k) w fun t35 w =>
 Gd t30 true (fun k => Bn P .quo 3 true t35 (.int .i64 10) w k) w fun t36 w =>
 Gd t30 true (fun k => Bn P .eql 3 false t33 t36 w k) w fun t37 w =>
 Pick t30 t37 (.bool false) w fun t38 w =>
 Gd t38 true (fun k => Fa P 65 t1 7 w k) w fun t40 w =>
 Gd t38 true (fun k => Ld P 3 t40 w k) w fun t41 w =>
 Gd t38 true (fun k => Fa P 65 t1 8 w k) w fun t42 w =>
 Gd t38 true (fun k => Ld P 3 t42 w k) w fun t43 w =>
 Gd t38 true (fun k => Cl P 133 #[t41, (.int .i64 0), t43] w (Pk R) k) w fun t44 w =>
 Pick t38 t44 (.bool false) w fun t45 w =>
 Gd t45 true (fun k => Fa P 65 t1 8 w k) w fun t47 w =>
 Gd t45 true (fun k => Ld P 3 t47 w k) w fun t48 w =>
 Gd t45 true (fun k => Bn P .leq 3 true t48 (.int .i64 4398046511104) w k) w fun t49 w =>
 Pick t45 t49 (.bool false) w fun t50 w =>
 Gd t50 true (fun k => Fa P 65 t1 9 w k) w fun t52 w =>
 Gd t50 true (fun k => Ld P 3 t52 w k) w fun t53 w =>
 Gd t50 true (fun k => Cl P 133 #[t53, (.int .i64 0), (.int .i64 24000)] w (Pk R) k) w fun t54 w =>
 Pick t50 t54 (.bool false) w fun t55 w =>
 R (.returned t55) w
theorem e_trace_ValidFact (h : s_trace_ValidFact Tryz.prog t0 w R) : Calls Tryz.prog 92 #[t0] w R :=
 en1 (.sq .z (.sq .z .z)) [t0] Tryz.func92 (by kernel_rfl) (by kernel_rfl) h
theorem n_trace_ValidFact : Enters Tryz.prog 92 := enters_of Tryz.func92 (by kernel_rfl) rfl
def s_trace_byPlace (P : Program) (t0 t1 : Value) (w : World) (R : Ending → World → Prop) : Prop :=
 Bx P 65 t0 w fun t2 w =>
 Bx P 65 t1 w fun t3 w =>
 dFl P 65 t2 0 w.drew fun t5 =>
 dL P 3 t5 w.drew fun t6 =>
 dFl P 65 t3 0 w.drew fun t7 =>
 dL P 3 t7 w.drew fun t8 =>
 dFl P 65 t2 1 w.drew fun t10 =>
 dL P 3 t10 w.drew fun t11 =>
 dFl P 65 t3 1 w.drew fun t12 =>
 dL P 3 t12 w.drew fun t13 =>
 Cl P 135 #[t6, t8] w.drew (Pk R) fun t9 w =>
 kLd P 3 t10 t11 w <|
 kLd P 3 t12 t13 w <|
 Cl P 135 #[t11, t13] w (Pk R) fun t14 w =>
 Bs P 33 2 [(0, t9), (1, t14)] w fun t15 w =>
 Cl P 134 #[t15] w (Pk R) fun t16 w =>
 R (.returned t16) w
theorem e_trace_byPlace (h : s_trace_byPlace Tryz.prog t0 t1 w R) : Calls Tryz.prog 93 #[t0, t1] w R :=
 en1 (.sq .z (.sq (.dr (.pur true 0 (.pur false 1 (.pur true 2 (.pur false 3 (.pur true 5 (.pur false 6 (.pur true 7 (.pur false 8 (.eff 4 [6, 8] (.eff 9 [] (.eff 10 [] (.eff 11 [] (.pur true 12 .done)))))))))))))) .z)) [t0, t1] Tryz.func93 (by kernel_rfl) (by kernel_rfl) h
theorem n_trace_byPlace : Enters Tryz.prog 93 := enters_of Tryz.func93 (by kernel_rfl) rfl
def s_slices_IsSortedFunc_api_Fact_api_Fact (P : Program) (t0 t1 : Value) (w : World) (R : Ending → World → Prop) : Prop :=
 Bt P .len #[31] 3 #[t0] w fun t7 w =>
 Bn P .sub 3 true t7 (.int .i64 1) w fun t8 w =>
 Lp1 t8 w (fun t5 w k1 =>
 Bn P .gtr 3 true t5 (.int .i64 0) w fun t10 w =>
 If t10
 (dIx P 31 t0 t5 w.drew fun t16 =>
 dL P 65 t16 w.drew fun t17 =>
 Dv P true (bn .sub 3 true t5 (.int .i64 1)) w.drew fun t20 =>
 dIx P 31 t0 t20 w.drew fun t21 =>
 dL P 65 t21 w.drew fun t22 =>
 Cw P t1 #[t17, t22] w.drew (Pk R) fun t23 w =>
 Dv P true (bn .lss 3 true t23 (.int .i64 0)) w fun t24 =>
 If t24
 (R (.returned (.bool false)) w)
 (Bn P .sub 3 true t5 (.int .i64 1) w fun t12 w =>
 k1 t12 w))
 (R (.returned (.bool true)) w))
theorem e_slices_IsSortedFunc_api_Fact_api_Fact (h : s_slices_IsSortedFunc_api_Fact_api_Fact Tryz.prog t0 t1 w R) : Calls Tryz.prog 94 #[t0, t1] w R :=
 en1 (.sq .z (.sq (.sq .z (.bk (.lp [5] [4, 9, 10, 11, 12, 13, 14, 15, 16, 17, 18, 19, 20, 21, 22, 23, 24] (.sq (.sq .z (.cd .z .z)) (.sq (.bk (.sq (.dr (.pur true 0 (.pur true 1 (.pur true 2 (.pur true 3 (.pur false 4 (.pur true 5 (.pur true 6 (.pur true 7 (.pur true 8 (.pur false 9 (.eff 10 [] (.pur true 11 .done))))))))))))) (.cd (.sq .z .z) .z))) .z))))) (.sq .z .z))) [t0, t1] Tryz.func94 (by kernel_rfl) (by kernel_rfl) h
theorem n_slices_IsSortedFunc_api_Fact_api_Fact : Enters Tryz.prog 94 := enters_of Tryz.func94 (by kernel_rfl) rfl
def s_rational_round (P : Program) (t0 t1 t2 : Value) (w : World) (R : Ending → World → Prop) : Prop :=
 Bx P 25 t0 w fun t3 w =>
 Al P 25 w fun t6 w =>
 Bn P .lss 3 true t1 (.int .i64 0) w fun t15 w =>
 Gd t15 false (fun k => k t1 w) w fun t17 w =>
 Gd t15 false (fun k => Bn P .gtr 3 true t17 (.int .i64 30) w k) w fun t18 w =>
 Pick t15 (.bool true) t18 w fun t19 w =>
 Bd P 113 [(0, t19)] w fun t20 w =>
 Bx P 113 t20 w fun t21 w =>
 Ld P 25 t3 w fun t23 w =>
 Bs P 147 1 [(0, t23)] w fun t24 w =>
 Cl P 69 #[t21, t24] w (Pk R) fun t25 w =>
 Nc t21 w fun t27 w =>
 Fa P 113 t27 0 w fun t28 w =>
 Ld P 4 t28 w fun t29 w =>
 If t29
 (Bd P 25 [] w fun t30 w =>
 Sto P 25 t6 t30 w fun w =>
 Rc P 25 t6 w fun r0 =>
 R (.returned (.tuple #[r0, (.int .i64 40)])) w)
 (Cl P 136 #[(str [48]), t1] w (Pk R) fun t32 w =>
 Bn P .add 9 true (str [49]) t32 w fun t33 w =>
 Fa P 25 t3 0 w fun t35 w =>
 Ld P 9 t35 w fun t36 w =>
 Cl P 70 #[t21, t36, t33] w (Pk R) fun t38 w =>
 Nc t21 w fun t40 w =>
 Fa P 113 t40 0 w fun t41 w =>
 Ld P 4 t41 w fun t42 w =>
 If t42
 (Bd P 25 [] w fun t43 w =>
 Sto P 25 t6 t43 w fun w =>
 Rc P 25 t6 w fun r0 =>
 R (.returned (.tuple #[r0, (.int .i64 40)])) w)
 (Fa P 25 t3 1 w fun t46 w =>
 Ld P 9 t46 w fun t47 w =>
 Cl P 73 #[t38, t47] w (Pk R) fun t48 w =>
 Ex t48 0 w fun t49 w =>
 Ex t48 1 w fun t50 w =>
 Ex t48 2 w fun t51 w =>
 Jn1 (fun k1 =>
 Bn P .neq 46 true t51 (.int .i64 0) w fun t54 w =>
 Nc t21 w fun t55 w =>
 Fa P 113 t55 0 w fun t56 w =>
 Sto P 4 t56 t54 w fun w =>
 Gd t2 true (fun k => k t50 w) w fun t59 w =>
 Gd t2 true (fun k => Bn P .neq 9 true t59 (str [48]) w k) w fun t60 w =>
 Pick t2 t60 (.bool false) w fun t61 w =>
 If t61
 (Cl P 102 #[t21, (.func (.func 75) #[] #[]), t49, (str [49])] w (Pk R) fun t64 w =>
 k1 t64 w)
 (k1 t49 w))
 (fun t11 w =>
 Cl P 71 #[t21, t11, t33] w (Pk R) fun t68 w =>
 Ex t68 0 w fun t69 w =>
 Ex t68 1 w fun t70 w =>
 Sto P 25 t6 t69 w fun w =>
 Rc P 25 t6 w fun r0 =>
 R (.returned (.tuple #[r0, t70])) w)))
theorem e_rational_round (h : s_rational_round Tryz.prog t0 t1 t2 w R) : Calls Tryz.prog 97 #[t0, t1, t2] w R :=
 en1 (.sq .z (.sq .z (.sq .z (.sq (.sq .z (.cd (.sq .z .z) .z)) (.sq .z (.sq .z (.sq (.sq .z (.cd (.sq .z .z) .z)) (.sq .z (.jn [11] [52, 53, 54, 55, 56, 57, 58, 59, 60, 61, 62, 63, 64] (.sq .z (.sq .z (.cd .z .z))) (.sq .z .z)))))))))) [t0, t1, t2] Tryz.func97 (by kernel_rfl) (by kernel_rfl) h
theorem n_rational_round : Enters Tryz.prog 97 := enters_of Tryz.func97 (by kernel_rfl) rfl
def s_rational_Make (P : Program) (t0 t1 : Value) (w : World) (R : Ending → World → Prop) : Prop :=
 Al P 25 w fun t4 w =>
 Cl P 109 #[t0] w (Pk R) fun t8 w =>
 Un P .not t8 w fun t9 w =>
 Gd t9 false (fun k => k t1 w) w fun t11 w =>
 Gd t9 false (fun k => Cl P 109 #[t11] w (Pk R) k) w fun t12 w =>
 Gd t9 false (fun k => Un P .not t12 w k) w fun t13 w =>
 Pick t9 (.bool true) t13 w fun t14 w =>
 Bd P 113 [(0, t14)] w fun t15 w =>
 Bx P 113 t15 w fun t16 w =>
 Cl P 71 #[t16, t0, t1] w (Pk R) fun t20 w =>
 Ex t20 0 w fun t21 w =>
 Ex t20 1 w fun t22 w =>
 Sto P 25 t4 t21 w fun w =>
 Rc P 25 t4 w fun r0 =>
 R (.returned (.tuple #[r0, t22])) w
theorem e_rational_Make (h : s_rational_Make Tryz.prog t0 t1 w R) : Calls Tryz.prog 100 #[t0, t1] w R :=
 en1 (.sq .z (.sq .z (.sq .z .z))) [t0, t1] Tryz.func100 (by kernel_rfl) (by kernel_rfl) h
theorem n_rational_Make : Enters Tryz.prog 100 := enters_of Tryz.func100 (by kernel_rfl) rfl
def s_integer_FromInt (P : Program) (t0 : Value) (w : World) (R : Ending → World → Prop) : Prop :=
 Cl P 78 #[t0] w (Pk R) fun t4 w =>
 R (.returned t4) w
theorem e_integer_FromInt (h : s_integer_FromInt Tryz.prog t0 w R) : Calls Tryz.prog 101 #[t0] w R :=
 en1 (.sq .z (.sq .z .z)) [t0] Tryz.func101 (by kernel_rfl) (by kernel_rfl) h
theorem n_integer_FromInt : Enters Tryz.prog 101 := enters_of Tryz.func101 (by kernel_rfl) rfl
def s_rational_work_do (P : Program) (t0 t1 t2 t3 : Value) (w : World) (R : Ending → World → Prop) : Prop :=
 Nc t0 w fun t12 w =>
 Fa P 113 t12 0 w fun t13 w =>
 Ld P 4 t13 w fun t14 w =>
 If t14
 (R (.returned (str [])) w)
 (Cw P t1 #[t2, t3] w (Pk R) fun t19 w =>
 Ex t19 0 w fun t20 w =>
 Ex t19 1 w fun t21 w =>
 Bn P .neq 46 true t21 (.int .i64 0) w fun t24 w =>
 Nc t0 w fun t25 w =>
 Fa P 113 t25 0 w fun t26 w =>
 Sto P 4 t26 t24 w fun w =>
 R (.returned t20) w)
theorem e_rational_work_do (h : s_rational_work_do Tryz.prog t0 t1 t2 t3 w R) : Calls Tryz.prog 102 #[t0, t1, t2, t3] w R :=
 en1 (.sq .z (.sq (.sq .z (.cd (.sq .z .z) .z)) (.sq .z (.sq .z (.sq .z .z))))) [t0, t1, t2, t3] Tryz.func102 (by kernel_rfl) (by kernel_rfl) h
theorem n_rational_work_do : Enters Tryz.prog 102 := enters_of Tryz.func102 (by kernel_rfl) rfl
def s_integer_both (P : Program) (t0 t1 : Value) (w : World) (R : Ending → World → Prop) : Prop :=
 Al P 141 w fun t4 w =>
 Al P 141 w fun t5 w =>
 Cl P 139 #[t0] w (Pk R) fun t8 w =>
 Un P .not t8 w fun t9 w =>
 Gd t9 false (fun k => k t1 w) w fun t11 w =>
 Gd t9 false (fun k => Cl P 139 #[t11] w (Pk R) k) w fun t12 w =>
 Gd t9 false (fun k => Un P .not t12 w k) w fun t13 w =>
 Pick t9 (.bool true) t13 w fun t14 w =>
 If t14
 (Bd P 141 [] w fun t15 w =>
 Bd P 141 [] w fun t16 w =>
 Sto P 141 t4 t15 w fun w =>
 Sto P 141 t5 t16 w fun w =>
 Rc P 141 t4 w fun r0 =>
 Rc P 141 t5 w fun r1 =>
 R (.returned (.tuple #[r0, r1, (.bool false)])) w)
 (Cl P 140 #[t0] w (Pk R) fun t18 w =>
 Cl P 140 #[t1] w (Pk R) fun t20 w =>
 Sto P 141 t4 t18 w fun w =>
 Sto P 141 t5 t20 w fun w =>
 Rc P 141 t4 w fun r0 =>
 Rc P 141 t5 w fun r1 =>
 R (.returned (.tuple #[r0, r1, (.bool true)])) w)
theorem e_integer_both (h : s_integer_both Tryz.prog t0 t1 w R) : Calls Tryz.prog 103 #[t0, t1] w R :=
 en1 (.sq .z (.sq (.sq .z (.cd (.sq .z .z) .z)) (.sq .z .z))) [t0, t1] Tryz.func103 (by kernel_rfl) (by kernel_rfl) h
theorem n_integer_both : Enters Tryz.prog 103 := enters_of Tryz.func103 (by kernel_rfl) rfl
def s_integer_signed_plus (P : Program) (t0 t1 : Value) (w : World) (R : Ending → World → Prop) : Prop :=
 Bx P 141 t0 w fun t2 w =>
 Bx P 141 t1 w fun t3 w =>
 Al P 141 w fun t4 w =>
 Fa P 141 t2 0 w fun t6 w =>
 Ld P 4 t6 w fun t7 w =>
 Fa P 141 t3 0 w fun t8 w =>
 Ld P 4 t8 w fun t9 w =>
 Bn P .eql 4 false t7 t9 w fun t10 w =>
 If t10
 (dFl P 141 t2 0 w.drew fun t11 =>
 dL P 4 t11 w.drew fun t12 =>
 dFl P 141 t2 1 w.drew fun t13 =>
 dL P 139 t13 w.drew fun t14 =>
 dFl P 141 t3 1 w.drew fun t15 =>
 dL P 139 t15 w.drew fun t16 =>
 Cl P 111 #[t14, t16] w.drew (Pk R) fun t17 w =>
 kLd P 4 t11 t12 w <|
 Dv P true (Instr.build 141 #[(0, t12), (1, t17)]) w fun t18 =>
 Sto P 141 t4 t18 w fun w =>
 Rc P 141 t4 w fun r0 =>
 R (.returned r0) w)
 (Fa P 141 t2 1 w fun t20 w =>
 Ld P 139 t20 w fun t21 w =>
 Fa P 141 t3 1 w fun t22 w =>
 Ld P 139 t22 w fun t23 w =>
 Cl P 114 #[t21, t23] w (Pk R) fun t24 w =>
 Bn P .geq 3 true t24 (.int .i64 0) w fun t25 w =>
 If t25
 (dFl P 141 t2 0 w.drew fun t26 =>
 dL P 4 t26 w.drew fun t27 =>
 dFl P 141 t2 1 w.drew fun t28 =>
 dL P 139 t28 w.drew fun t29 =>
 dFl P 141 t3 1 w.drew fun t30 =>
 dL P 139 t30 w.drew fun t31 =>
 Cl P 113 #[t29, t31] w.drew (Pk R) fun t32 w =>
 kLd P 4 t26 t27 w <|
 Dv P true (Instr.build 141 #[(0, t27), (1, t32)]) w fun t33 =>
 Sto P 141 t4 t33 w fun w =>
 Rc P 141 t4 w fun r0 =>
 R (.returned r0) w)
 (dFl P 141 t3 0 w.drew fun t34 =>
 dL P 4 t34 w.drew fun t35 =>
 dFl P 141 t3 1 w.drew fun t36 =>
 dL P 139 t36 w.drew fun t37 =>
 dFl P 141 t2 1 w.drew fun t38 =>
 dL P 139 t38 w.drew fun t39 =>
 Cl P 113 #[t37, t39] w.drew (Pk R) fun t40 w =>
 kLd P 4 t34 t35 w <|
 Dv P true (Instr.build 141 #[(0, t35), (1, t40)]) w fun t41 =>
 Sto P 141 t4 t41 w fun w =>
 Rc P 141 t4 w fun r0 =>
 R (.returned r0) w))
theorem e_integer_signed_plus (h : s_integer_signed_plus Tryz.prog t0 t1 w R) : Calls Tryz.prog 104 #[t0, t1] w R :=
 en1 (.sq .z (.sq (.bk (.sq .z (.cd (.sq (.dr (.pur true 0 (.pur false 1 (.pur true 2 (.pur false 3 (.pur true 4 (.pur false 5 (.eff 6 [1] (.pur true 7 (.eff 8 [] .done)))))))))) .z) (.sq .z (.cd (.sq (.dr (.pur true 0 (.pur false 1 (.pur true 2 (.pur false 3 (.pur true 4 (.pur false 5 (.eff 6 [1] (.pur true 7 (.eff 8 [] .done)))))))))) .z) .z))))) (.sq (.dr (.pur true 0 (.pur false 1 (.pur true 2 (.pur false 3 (.pur true 4 (.pur false 5 (.eff 6 [1] (.pur true 7 (.eff 8 [] .done)))))))))) .z))) [t0, t1] Tryz.func104 (by kernel_rfl) (by kernel_rfl) h
theorem n_integer_signed_plus : Enters Tryz.prog 104 := enters_of Tryz.func104 (by kernel_rfl) rfl
def s_integer_signed_text (P : Program) (t0 : Value) (w : World) (R : Ending → World → Prop) : Prop :=
 Bx P 141 t0 w fun t1 w =>
 Fa P 141 t1 1 w fun t9 w =>
 Ld P 139 t9 w fun t10 w =>
 Bt P .len #[139] 3 #[t10] w fun t11 w =>
 Bn P .eql 3 true t11 (.int .i64 0) w fun t12 w =>
 If t12
 (R (.returned (.tuple #[(str [48]), (.int .i64 0)])) w)
 (Al P 173 w fun t4 w =>
 Fa P 141 t1 1 w fun t13 w =>
 Ld P 139 t13 w fun t14 w =>
 Cl P 141 #[t14] w (Pk R) fun t15 w =>
 Rf2 P t15 w (fun t16 t17 w next lv =>
 Cl P 78 #[t17] w (fun _ _ => False) fun t19 w =>
 Fa P 141 t1 1 w fun t21 w =>
 Ld P 139 t21 w fun t22 w =>
 Bt P .len #[139] 3 #[t22] w fun t23 w =>
 Bn P .sub 3 true t23 (.int .i64 1) w fun t24 w =>
 Bn P .lss 3 false t16 t24 w fun t25 w =>
 If t25
 (Bt P .len #[9] 3 #[t19] w fun t27 w =>
 Bn P .sub 3 true (.int .i64 4) t27 w fun t28 w =>
 Cl P 136 #[(str [48]), t28] w (fun _ _ => False) fun t29 w =>
 Bn P .add 9 false t29 t19 w fun t31 w =>
 Cl P 142 #[t4, t31] w (fun _ _ => False) fun t33 w =>
 next w)
 (Cl P 142 #[t4, t19] w (fun _ _ => False) fun t33x1 w =>
 next w))
 (fun D1 w =>
 Cl P 143 #[t4] w (fun c w => Tk P D1 w fun w => R (.panicked c) w) fun t34 w =>
 Bt P .len #[9] 3 #[t34] w fun t36 w =>
 Bn P .gtr 3 true t36 (.int .i64 200) w fun t37 w =>
 If t37
 (Tk P D1 w fun w =>
 R (.returned (.tuple #[(str []), (.int .i64 30)])) w)
 (Fa P 141 t1 0 w fun t38 w =>
 Ld P 4 t38 w fun t39 w =>
 If t39
 (Bn P .add 9 true (str [45]) t34 w fun t41 w =>
 Tk P D1 w fun w =>
 R (.returned (.tuple #[t41, (.int .i64 0)])) w)
 (Tk P D1 w fun w =>
 R (.returned (.tuple #[t34, (.int .i64 0)])) w)))
 (fun D1 w =>
 Tk P D1 w fun w =>
 R (.returned (.tuple #[(str []), (.int .i64 0)])) w) [])
theorem e_integer_signed_text (h : s_integer_signed_text Tryz.prog t0 w R) : Calls Tryz.prog 105 #[t0] w R :=
 en1 (.sq .z (.sq (.sq .z (.cd (.sq .z .z) .z)) (.sq .z (.sq (.sq .z (.bk (.rf (.bk (.sq .z (.sq (.sq .z (.cd .z .z)) .z))) []))) (.sq .z (.sq (.sq .z (.cd (.sq .z .z) .z)) (.sq (.sq .z (.cd (.sq .z .z) .z)) (.sq .z .z)))))))) [t0] Tryz.func105 (by kernel_rfl) (by kernel_rfl) h
theorem n_integer_signed_text : Enters Tryz.prog 105 := enters_of Tryz.func105 (by kernel_rfl) rfl
def s_integer_Mul (P : Program) (t0 t1 : Value) (w : World) (R : Ending → World → Prop) : Prop :=
 Cl P 103 #[t0, t1] w (Pk R) fun t12 w =>
 Ex t12 0 w fun t13 w =>
 Ex t12 1 w fun t14 w =>
 Ex t12 2 w fun t15 w =>
 Al P 141 w fun t6 w =>
 Al P 141 w fun t7 w =>
 Sto P 141 t6 t13 w fun w =>
 Sto P 141 t7 t14 w fun w =>
 Un P .not t15 w fun t17 w =>
 If t17
 (R (.returned (.tuple #[(str []), (.int .i64 30)])) w)
 (dFl P 141 t6 0 w.drew fun t18 =>
 dL P 4 t18 w.drew fun t19 =>
 dFl P 141 t7 0 w.drew fun t20 =>
 dL P 4 t20 w.drew fun t21 =>
 Dv P true (bn .neq 4 false t19 t21) w.drew fun t22 =>
 dFl P 141 t6 1 w.drew fun t23 =>
 dL P 139 t23 w.drew fun t24 =>
 dFl P 141 t7 1 w.drew fun t25 =>
 dL P 139 t25 w.drew fun t26 =>
 Cl P 144 #[t24, t26] w.drew (Pk R) fun t27 w =>
 kLd P 4 t18 t19 w <|
 kLd P 4 t20 t21 w <|
 Dv P true (Instr.build 141 #[(0, t22), (1, t27)]) w fun t28 =>
 Cl P 105 #[t28] w (Pk R) fun t29 w =>
 ExP t29 0 fun t30 =>
 ExP t29 1 fun t31 =>
 R (.returned (.tuple #[t30, t31])) w)
theorem e_integer_Mul (h : s_integer_Mul Tryz.prog t0 t1 w R) : Calls Tryz.prog 106 #[t0, t1] w R :=
 en1 (.sq .z (.sq .z (.sq (.sq .z (.cd (.sq .z .z) .z)) (.sq (.dr (.pur true 0 (.pur false 1 (.pur true 2 (.pur false 3 (.pur true 4 (.pur true 5 (.pur false 6 (.pur true 7 (.pur false 8 (.eff 9 [1, 3] (.pur true 10 (.eff 11 [] (.pur true 12 (.pur true 13 (.pur true 14 (.pur true 15 .done))))))))))))))))) .z)))) [t0, t1] Tryz.func106 (by kernel_rfl) (by kernel_rfl) h
theorem n_integer_Mul : Enters Tryz.prog 106 := enters_of Tryz.func106 (by kernel_rfl) rfl
def s_integer_Gcd (P : Program) (t0 t1 : Value) (w : World) (R : Ending → World → Prop) : Prop :=
 Cl P 103 #[t0, t1] w (Pk R) fun t16 w =>
 Ex t16 0 w fun t17 w =>
 Ex t16 1 w fun t18 w =>
 Ex t16 2 w fun t19 w =>
 Al P 141 w fun t6 w =>
 Al P 141 w fun t7 w =>
 Sto P 141 t6 t17 w fun w =>
 Sto P 141 t7 t18 w fun w =>
 Un P .not t19 w fun t21 w =>
 If t21
 (R (.returned (.tuple #[(str []), (.int .i64 30)])) w)
 (dFl P 141 t6 1 w.drew fun t22 =>
 dL P 139 t22 w.drew fun t23 =>
 dFl P 141 t7 1 w.drew fun t24 =>
 dL P 139 t24 w.drew fun t25 =>
 Lp2 t23 t25 w.drew (fun t9 t10 w k1 =>
 Bt P .len #[139] 3 #[t10] w fun t27 w =>
 Bn P .gtr 3 true t27 (.int .i64 0) w fun t28 w =>
 If t28
 (Cl P 110 #[t9, t10] w (Pk R) fun t32 w =>
 Ex t32 0 w fun t33 w =>
 Ex t32 1 w fun t34 w =>
 k1 t10 t34 w)
 (Bd P 141 [(1, t9)] w fun t38 w =>
 Cl P 105 #[t38] w (Pk R) fun t39 w =>
 Ex t39 0 w fun t40 w =>
 Ex t39 1 w fun t41 w =>
 R (.returned (.tuple #[t40, t41])) w)))
theorem e_integer_Gcd (h : s_integer_Gcd Tryz.prog t0 t1 w R) : Calls Tryz.prog 107 #[t0, t1] w R :=
 en1 (.sq .z (.sq .z (.sq (.sq .z (.cd (.sq .z .z) .z)) (.sq (.dr (.pur true 0 (.pur false 1 (.pur true 2 (.pur false 3 (.pur true 4 (.pur true 5 .done))))))) (.sq (.bk (.lp [9, 10] [11, 12, 26, 27, 28, 29, 30, 31, 32, 33, 34, 35, 36] (.sq (.sq .z (.cd .z .z)) (.bk (.sq .z .z))))) (.sq .z .z)))))) [t0, t1] Tryz.func107 (by kernel_rfl) (by kernel_rfl) h
theorem n_integer_Gcd : Enters Tryz.prog 107 := enters_of Tryz.func107 (by kernel_rfl) rfl
def s_rational_work_quotient (P : Program) (t0 t1 t2 : Value) (w : World) (R : Ending → World → Prop) : Prop :=
 Cl P 102 #[t0, (.func (.func 145) #[] #[]), t1, t2] w (Pk R) fun t10 w =>
 R (.returned t10) w
theorem e_rational_work_quotient (h : s_rational_work_quotient Tryz.prog t0 t1 t2 w R) : Calls Tryz.prog 108 #[t0, t1, t2] w R :=
 en1 (.sq .z (.sq .z .z)) [t0, t1, t2] Tryz.func108 (by kernel_rfl) (by kernel_rfl) h
theorem n_rational_work_quotient : Enters Tryz.prog 108 := enters_of Tryz.func108 (by kernel_rfl) rfl
def s_integer_Valid (P : Program) (t0 : Value) (w : World) (R : Ending → World → Prop) : Prop :=
 Cl P 139 #[t0] w (Pk R) fun t4 w =>
 R (.returned t4) w
theorem e_integer_Valid (h : s_integer_Valid Tryz.prog t0 w R) : Calls Tryz.prog 109 #[t0] w R :=
 en1 (.sq .z (.sq .z .z)) [t0] Tryz.func109 (by kernel_rfl) (by kernel_rfl) h
theorem n_integer_Valid : Enters Tryz.prog 109 := enters_of Tryz.func109 (by kernel_rfl) rfl
def s_integer_number_over (P : Program) (t0 t1 : Value) (w : World) (R : Ending → World → Prop) : Prop :=
 Bx P 139 t1 w fun t3 w =>
 Al P 139 w fun t4 w =>
 Al P 139 w fun t5 w =>
 Bt P .len #[139] 3 #[t0] w fun t11 w =>
 Ms P 139 t11 t11 w fun t12 w =>
 Sto P 139 t4 t12 w fun w =>
 Cl P 141 #[t0] w (Pk R) fun t14 w =>
 Rf2 P t14 w (fun t15 t16 w next lv =>
 Bs P 139 1 [(0, t16)] w fun t18 w =>
 Ld P 139 t5 w fun t19 w =>
 Bt P .append #[139, 139] 139 #[t18, t19] w fun t20 w =>
 Cl P 146 #[t20] w (fun _ _ => False) fun t21 w =>
 Sto P 139 t5 t21 w fun w =>
 Ld P 139 t3 w fun t22 w =>
 Al P 178 w fun t8 w =>
 Sto P 178 t8 (.func (.func 147) #[t22] #[]) w fun w =>
 dL P 139 t4 w.drew fun t25 =>
 Cl P 149 #[(.int .i64 9999), (.func (.func 148) #[] #[t8, t5])] w.drew (fun _ _ => False) fun t28 w =>
 kLd P 139 t4 t25 w <|
 dIx P 139 t25 t15 w fun t29 =>
 Sto P 3 t29 t28 w fun w =>
 dL P 139 t5 w.drew fun t30 =>
 dL P 178 t8 w.drew fun t31 =>
 dL P 139 t4 w.drew fun t32 =>
 dIx P 139 t32 t15 w.drew fun t34 =>
 dL P 3 t34 w.drew fun t35 =>
 Cw P t31 #[t35] w.drew (fun _ _ => False) fun t36 w =>
 kLd P 139 t5 t30 w <|
 Cl P 113 #[t30, t36] w (fun _ _ => False) fun t37 w =>
 Sto P 139 t5 t37 w fun w =>
 next w)
 (fun D1 w =>
 dL P 139 t4 w.drew fun t38 =>
 dL P 139 t5 w.drew fun t40 =>
 Cl P 146 #[t38] w.drew (fun c w => Tk P D1 w fun w => R (.panicked c) w) fun t39 w =>
 kLd P 139 t5 t40 w <|
 Sto P 139 t4 t39 w fun w =>
 kLd P 139 t5 t40 w <|
 Sto P 139 t5 t40 w fun w =>
 Tk P D1 w fun w =>
 Rc P 139 t4 w fun r0 =>
 Rc P 139 t5 w fun r1 =>
 R (.returned (.tuple #[r0, r1])) w)
 (fun D1 w =>
 Tk P D1 w fun w =>
 Rc P 139 t4 w fun r0 =>
 Rc P 139 t5 w fun r1 =>
 R (.returned (.tuple #[r0, r1])) w) []
theorem e_integer_number_over (h : s_integer_number_over Tryz.prog t0 t1 w R) : Calls Tryz.prog 110 #[t0, t1] w R :=
 en1 (.sq .z (.sq .z (.sq (.sq .z (.bk (.rf (.bk (.sq .z (.sq .z (.sq .z (.sq (.dr (.pur false 0 (.pur true 1 (.pur true 2 (.eff 3 [0] (.pur true 4 (.eff 5 [] .done))))))) (.dr (.pur false 0 (.pur false 1 (.pur false 2 (.pur true 3 (.pur true 4 (.pur false 5 (.eff 6 [0] (.eff 7 [] (.eff 8 [] .done))))))))))))))) []))) (.sq (.dr (.pur false 0 (.pur false 2 (.eff 1 [2] (.eff 3 [2] (.eff 4 [] .done)))))) .z)))) [t0, t1] Tryz.func110 (by kernel_rfl) (by kernel_rfl) h
theorem n_integer_number_over : Enters Tryz.prog 110 := enters_of Tryz.func110 (by kernel_rfl) rfl
def s_integer_number_plus (P : Program) (t0 t1 : Value) (w : World) (R : Ending → World → Prop) : Prop :=
 Bx P 139 t0 w fun t2 w =>
 Bx P 139 t1 w fun t3 w =>
 Ld P 139 t2 w fun t5 w =>
 Bt P .len #[139] 3 #[t5] w fun t6 w =>
 Ld P 139 t3 w fun t7 w =>
 Bt P .len #[139] 3 #[t7] w fun t8 w =>
 Bt P .max #[3, 3] 3 #[t6, t8] w fun t9 w =>
 Cl P 150 #[t9, (.int .i64 0), (.func (.func 151) #[] #[t2, t3])] w (Pk R) fun t11 w =>
 Cl P 146 #[t11] w (Pk R) fun t12 w =>
 R (.returned t12) w
theorem e_integer_number_plus (h : s_integer_number_plus Tryz.prog t0 t1 w R) : Calls Tryz.prog 111 #[t0, t1] w R :=
 en1 (.sq .z (.sq .z .z)) [t0, t1] Tryz.func111 (by kernel_rfl) (by kernel_rfl) h
theorem n_integer_number_plus : Enters Tryz.prog 111 := enters_of Tryz.func111 (by kernel_rfl) rfl
def s_integer_one (P : Program) (w : World) (R : Ending → World → Prop) : Prop :=
 Bs P 139 1 [(0, (.int .i64 1))] w fun t1 w =>
 R (.returned t1) w
theorem e_integer_one (h : s_integer_one Tryz.prog  w R) : Calls Tryz.prog 112 #[] w R :=
 en1 (.sq .z (.sq .z .z)) [] Tryz.func112 (by kernel_rfl) (by kernel_rfl) h
theorem n_integer_one : Enters Tryz.prog 112 := enters_of Tryz.func112 (by kernel_rfl) rfl
def s_integer_number_minus (P : Program) (t0 t1 : Value) (w : World) (R : Ending → World → Prop) : Prop :=
 Bx P 139 t0 w fun t2 w =>
 Bx P 139 t1 w fun t3 w =>
 Ld P 139 t2 w fun t5 w =>
 Bt P .len #[139] 3 #[t5] w fun t6 w =>
 Cl P 150 #[t6, (.int .i64 0), (.func (.func 153) #[] #[t2, t3])] w (Pk R) fun t8 w =>
 Cl P 146 #[t8] w (Pk R) fun t9 w =>
 R (.returned t9) w
theorem e_integer_number_minus (h : s_integer_number_minus Tryz.prog t0 t1 w R) : Calls Tryz.prog 113 #[t0, t1] w R :=
 en1 (.sq .z (.sq .z .z)) [t0, t1] Tryz.func113 (by kernel_rfl) (by kernel_rfl) h
theorem n_integer_number_minus : Enters Tryz.prog 113 := enters_of Tryz.func113 (by kernel_rfl) rfl
def s_integer_number_compare (P : Program) (t0 t1 : Value) (w : World) (R : Ending → World → Prop) : Prop :=
 Bx P 139 t1 w fun t3 w =>
 Al P 3 w fun t4 w =>
 Bt P .len #[139] 3 #[t0] w fun t8 w =>
 Ld P 139 t3 w fun t9 w =>
 Bt P .len #[139] 3 #[t9] w fun t10 w =>
 Bn P .neq 3 false t8 t10 w fun t11 w =>
 If t11
 (Bt P .len #[139] 3 #[t0] w fun t13 w =>
 Ld P 139 t3 w fun t14 w =>
 Bt P .len #[139] 3 #[t14] w fun t15 w =>
 Cl P 135 #[t13, t15] w (Pk R) fun t16 w =>
 Sto P 3 t4 t16 w fun w =>
 Rc P 3 t4 w fun r0 =>
 R (.returned r0) w)
 (Cl P 141 #[t0] w (Pk R) fun t18 w =>
 Rf2 P t18 w (fun t19 t20 w next lv =>
 Ld P 139 t3 w fun t22 w =>
 Ia P 139 t22 t19 w fun t24 w =>
 Ld P 3 t24 w fun t25 w =>
 Bn P .neq 3 false t20 t25 w fun t26 w =>
 If t26
 (Ld P 139 t3 w fun t28 w =>
 Ia P 139 t28 t19 w fun t30 w =>
 Ld P 3 t30 w fun t31 w =>
 Cl P 135 #[t20, t31] w (fun _ _ => False) fun t32 w =>
 Sto P 3 t4 t32 w fun w =>
 lv .ret w)
 (next w))
 (fun D1 w =>
 Sto P 3 t4 (.int .i64 0) w fun w =>
 Tk P D1 w fun w =>
 Rc P 3 t4 w fun r0 =>
 R (.returned r0) w)
 (fun D1 w =>
 Tk P D1 w fun w =>
 Rc P 3 t4 w fun r0 =>
 R (.returned r0) w) [])
theorem e_integer_number_compare (h : s_integer_number_compare Tryz.prog t0 t1 w R) : Calls Tryz.prog 114 #[t0, t1] w R :=
 en1 (.sq .z (.sq (.sq .z (.cd (.sq .z .z) .z)) (.sq (.sq .z (.bk (.rf (.bk (.sq .z (.cd (.sq .z .z) .z))) []))) (.sq .z .z)))) [t0, t1] Tryz.func114 (by kernel_rfl) (by kernel_rfl) h
theorem n_integer_number_compare : Enters Tryz.prog 114 := enters_of Tryz.func114 (by kernel_rfl) rfl
def s_ref03_Valid (P : Program) (t0 : Value) (w : World) (R : Ending → World → Prop) : Prop :=
 Jn1 (fun k1 =>
 Bt P .len #[9] 3 #[t0] w fun t5 w =>
 Bn P .gtr 3 true t5 (.int .i64 0) w fun t6 w =>
 Gd t6 true (fun k => k t0 w) w fun t8 w =>
 Gd t6 true (fun k => Ix P 9 t8 (.int .i64 0) w k) w fun t9 w =>
 Gd t6 true (fun k => Bn P .eql 5 true t9 (.int .u8 45) w k) w fun t10 w =>
 Pick t6 t10 (.bool false) w fun t11 w =>
 If t11
 (Sc P 9 t0 (some (.int .i64 1)) none none w fun t13 w =>
 Bn P .eql 9 true t13 (str [48]) w fun t15 w =>
 If t15
 (R (.returned (.bool false)) w)
 (k1 t13 w))
 (k1 t0 w))
 (fun t0x1 w =>
 Lp1 (.int .i64 0) w (fun t3 w k2 =>
 Bt P .len #[9] 3 #[t0x1] w fun t18 w =>
 Bn P .lss 3 false t3 t18 w fun t19 w =>
 If t19
 (Ix P 9 t0x1 t3 w fun t24 w =>
 Bn P .lss 5 true t24 (.int .u8 48) w fun t25 w =>
 Gd t25 false (fun k => k t0x1 w) w fun t27 w =>
 Gd t25 false (fun k => k t3 w) w fun t28 w =>
 Gd t25 false (fun k => Ix P 9 t27 t28 w k) w fun t29 w =>
 Gd t25 false (fun k => Bn P .gtr 5 true t29 (.int .u8 57) w k) w fun t30 w =>
 Pick t25 (.bool true) t30 w fun t31 w =>
 If t31
 (R (.returned (.bool false)) w)
 (Bn P .add 3 true t3 (.int .i64 1) w fun t21 w =>
 k2 t21 w))
 (Bt P .len #[9] 3 #[t0x1] w fun t33 w =>
 Bn P .gtr 3 true t33 (.int .i64 0) w fun t34 w =>
 Gd t34 true (fun k => k t0x1 w) w fun t36 w =>
 Gd t34 true (fun k => Bt P .len #[9] 3 #[t36] w k) w fun t37 w =>
 Gd t34 true (fun k => Bn P .leq 3 true t37 (.int .i64 200) w k) w fun t38 w =>
 Pick t34 t38 (.bool false) w fun t39 w =>
 Gd t39 true (fun k => k t0x1 w) w fun t41 w =>
 Gd t39 true (fun k => Bn P .eql 9 true t41 (str [48]) w k) w fun t42 w =>
 Gd t39 true (fun k => k t42 w) w fun t43 w =>
 Gd t43 false (fun k => k t0x1 w) w fun t44 w =>
 Gd t43 false (fun k => Ix P 9 t44 (.int .i64 0) w k) w fun t45 w =>
 Gd t43 false (fun k => Bn P .neq 5 true t45 (.int .u8 48) w k) w fun t46 w =>
 Gd t39 true (fun k => Pick t43 (.bool true) t46 w k) w fun t47 w =>
 Pick t39 t47 (.bool false) w fun t48 w =>
 R (.returned t48) w)))
theorem e_ref03_Valid (h : s_ref03_Valid Tryz.prog t0 w R) : Calls Tryz.prog 118 #[t0] w R :=
 en1 (.sq .z (.jn [0] [2, 4, 5, 6, 7, 8, 9, 10, 11, 12, 13, 14, 15] (.sq .z (.cd (.sq .z (.sq .z (.cd (.sq .z .z) .z))) .z)) (.sq (.sq .z (.bk (.lp [3] [2, 16, 17, 18, 19, 20, 21, 22, 23, 24, 25, 26, 27, 28, 29, 30, 31] (.sq (.sq .z (.cd .z .z)) (.sq (.bk (.sq .z (.cd (.sq .z .z) .z))) .z))))) (.sq .z .z)))) [t0] Tryz.func118 (by kernel_rfl) (by kernel_rfl) h
theorem n_ref03_Valid : Enters Tryz.prog 118 := enters_of Tryz.func118 (by kernel_rfl) rfl
def s_ref03_Gcd (P : Program) (t0 t1 : Value) (w : World) (R : Ending → World → Prop) : Prop :=
 Cl P 118 #[t0] w (Pk R) fun t13 w =>
 Un P .not t13 w fun t14 w =>
 Gd t14 false (fun k => k t1 w) w fun t16 w =>
 Gd t14 false (fun k => Cl P 118 #[t16] w (Pk R) k) w fun t17 w =>
 Gd t14 false (fun k => Un P .not t17 w k) w fun t18 w =>
 Pick t14 (.bool true) t18 w fun t19 w =>
 If t19
 (R (.returned (.tuple #[(str []), (.int .i64 30)])) w)
 (Cl P 121 #[t0] w (Pk R) fun t22 w =>
 Ex t22 0 w fun t23 w =>
 Ex t22 1 w fun t24 w =>
 Cl P 121 #[t1] w (Pk R) fun t27 w =>
 Ex t27 0 w fun t28 w =>
 Ex t27 1 w fun t29 w =>
 Lp2 t24 t29 w (fun t7 t9 w k1 =>
 Bt P .len #[33] 3 #[t9] w fun t31 w =>
 Bn P .gtr 3 true t31 (.int .i64 0) w fun t32 w =>
 If t32
 (Cl P 122 #[t7, t9] w (Pk R) fun t36 w =>
 Ex t36 0 w fun t37 w =>
 Ex t36 1 w fun t38 w =>
 k1 t9 t38 w)
 (Cl P 125 #[(.bool false), t7] w (Pk R) fun t42 w =>
 Ex t42 0 w fun t43 w =>
 Ex t42 1 w fun t44 w =>
 R (.returned (.tuple #[t43, t44])) w)))
theorem e_ref03_Gcd (h : s_ref03_Gcd Tryz.prog t0 t1 w R) : Calls Tryz.prog 119 #[t0, t1] w R :=
 en1 (.sq .z (.sq (.sq .z (.cd (.sq .z .z) .z)) (.sq .z (.sq .z (.sq (.bk (.lp [7, 9] [10, 11, 30, 31, 32, 33, 34, 35, 36, 37, 38, 39, 40] (.sq (.sq .z (.cd .z .z)) (.bk (.sq .z (.sq .z .z)))))) (.sq .z .z)))))) [t0, t1] Tryz.func119 (by kernel_rfl) (by kernel_rfl) h
theorem n_ref03_Gcd : Enters Tryz.prog 119 := enters_of Tryz.func119 (by kernel_rfl) rfl
def s_ref03_digits (P : Program) (t0 : Value) (w : World) (R : Ending → World → Prop) : Prop :=
 Ix P 9 t0 (.int .i64 0) w fun t8 w =>
 Bn P .eql 5 true t8 (.int .u8 45) w fun t9 w =>
 Jn1 (fun k1 =>
 If t9
 (Sc P 9 t0 (some (.int .i64 1)) none none w fun t12 w =>
 k1 t12 w)
 (k1 t0 w))
 (fun t0x1 w =>
 Bt P .len #[9] 3 #[t0x1] w fun t14 w =>
 Bn P .sub 3 true t14 (.int .i64 1) w fun t15 w =>
 Lp2 (.slice none 0 0) t15 w (fun t5 t6 w k2 =>
 Bn P .geq 3 true t6 (.int .i64 0) w fun t17 w =>
 Gd t17 true (fun k => k t0x1 w) w fun t19 w =>
 Gd t17 true (fun k => Bn P .neq 9 true t19 (str [48]) w k) w fun t20 w =>
 Pick t17 t20 (.bool false) w fun t21 w =>
 If t21
 (Ix P 9 t0x1 t6 w fun t27 w =>
 Bn P .sub 5 true t27 (.int .u8 48) w fun t28 w =>
 Cv P 5 3 t28 w fun t29 w =>
 Bs P 33 1 [(0, t29)] w fun t30 w =>
 Bt P .append #[33, 33] 33 #[t5, t30] w fun t31 w =>
 Bn P .sub 3 true t6 (.int .i64 1) w fun t23 w =>
 k2 t31 t23 w)
 (R (.returned (.tuple #[t9, t5])) w)))
theorem e_ref03_digits (h : s_ref03_digits Tryz.prog t0 w R) : Calls Tryz.prog 121 #[t0] w R :=
 en1 (.sq .z (.sq .z (.jn [0] [10, 11, 12] (.sq .z (.cd .z .z)) (.sq .z (.sq (.sq .z (.bk (.lp [5, 6] [16, 17, 18, 19, 20, 21, 22, 23, 24, 25, 26, 27, 28, 29, 30, 31] (.sq (.sq .z (.cd .z .z)) (.sq (.bk .z) .z))))) (.sq .z .z)))))) [t0] Tryz.func121 (by kernel_rfl) (by kernel_rfl) h
theorem n_ref03_digits : Enters Tryz.prog 121 := enters_of Tryz.func121 (by kernel_rfl) rfl
def s_ref03_divided (P : Program) (t0 t1 : Value) (w : World) (R : Ending → World → Prop) : Prop :=
 Bt P .len #[33] 3 #[t0] w fun t10 w =>
 Ms P 33 t10 t10 w fun t11 w =>
 Bt P .len #[33] 3 #[t0] w fun t13 w =>
 Bn P .sub 3 true t13 (.int .i64 1) w fun t14 w =>
 Lp2 (.slice none 0 0) t14 w (fun t7 t8 w k1 =>
 Bn P .geq 3 true t8 (.int .i64 0) w fun t16 w =>
 If t16
 (Ia P 33 t0 t8 w fun t21 w =>
 Ld P 3 t21 w fun t22 w =>
 Bs P 33 1 [(0, t22)] w fun t23 w =>
 Bt P .append #[33, 33] 33 #[t23, t7] w fun t25 w =>
 Cl P 161 #[t25] w (Pk R) fun t26 w =>
 Lp1 t26 w (fun t7x1 w k2 =>
 Cl P 127 #[t7x1, t1] w (Pk R) fun t29 w =>
 Bn P .geq 3 true t29 (.int .i64 0) w fun t30 w =>
 If t30
 (Cl P 124 #[t7x1, t1] w (Pk R) fun t33 w =>
 Ia P 33 t11 t8 w fun t36 w =>
 Ld P 3 t36 w fun t37 w =>
 Bn P .add 3 true t37 (.int .i64 1) w fun t38 w =>
 Ia P 33 t11 t8 w fun t39 w =>
 Sto P 3 t39 t38 w fun w =>
 k2 t33 w)
 (Bn P .sub 3 true t8 (.int .i64 1) w fun t18 w =>
 k1 t7x1 t18 w)))
 (Cl P 161 #[t11] w (Pk R) fun t41 w =>
 R (.returned (.tuple #[t41, t7])) w))
theorem e_ref03_divided (h : s_ref03_divided Tryz.prog t0 t1 w R) : Calls Tryz.prog 122 #[t0, t1] w R :=
 en1 (.sq .z (.sq .z (.sq .z (.sq (.sq .z (.bk (.lp [7, 8] [15, 16, 17, 18, 19, 20, 21, 22, 23, 24, 25, 26, 27, 28, 29, 30, 31, 32, 33, 34, 35, 36, 37, 38, 39] (.sq (.sq .z (.cd .z .z)) (.sq (.bk (.sq .z (.bk (.lp [7] [27, 28, 29, 30, 31, 32, 33, 34, 35, 36, 37, 38, 39] (.sq (.sq .z (.cd .z .z)) (.bk (.sq .z .z))))))) .z))))) (.sq .z .z))))) [t0, t1] Tryz.func122 (by kernel_rfl) (by kernel_rfl) h
theorem n_ref03_divided : Enters Tryz.prog 122 := enters_of Tryz.func122 (by kernel_rfl) rfl
def s_ref03_plus (P : Program) (t0 t1 : Value) (w : World) (R : Ending → World → Prop) : Prop :=
 Lp3 (.slice none 0 0) (.int .i64 0) (.int .i64 0) w (fun t5 t6 t7 w k1 =>
 Bt P .len #[33] 3 #[t0] w fun t11 w =>
 Bn P .lss 3 false t7 t11 w fun t12 w =>
 Gd t12 false (fun k => k t7 w) w fun t14 w =>
 Gd t12 false (fun k => k t1 w) w fun t15 w =>
 Gd t12 false (fun k => Bt P .len #[33] 3 #[t15] w k) w fun t16 w =>
 Gd t12 false (fun k => Bn P .lss 3 false t14 t16 w k) w fun t17 w =>
 Pick t12 (.bool true) t17 w fun t18 w =>
 Gd t18 false (fun k => k t6 w) w fun t20 w =>
 Gd t18 false (fun k => Bn P .gtr 3 true t20 (.int .i64 0) w k) w fun t21 w =>
 Pick t18 (.bool true) t21 w fun t22 w =>
 If t22
 (Jn1 (fun k2 =>
 Bt P .len #[33] 3 #[t0] w fun t28 w =>
 Bn P .lss 3 false t7 t28 w fun t29 w =>
 If t29
 (Ia P 33 t0 t7 w fun t33 w =>
 Ld P 3 t33 w fun t34 w =>
 Bn P .add 3 false t6 t34 w fun t35 w =>
 k2 t35 w)
 (k2 t6 w))
 (fun t8 w =>
 Jn1 (fun k3 =>
 Bt P .len #[33] 3 #[t1] w fun t38 w =>
 Bn P .lss 3 false t7 t38 w fun t39 w =>
 If t39
 (Ia P 33 t1 t7 w fun t43 w =>
 Ld P 3 t43 w fun t44 w =>
 Bn P .add 3 false t8 t44 w fun t45 w =>
 k3 t45 w)
 (k3 t8 w))
 (fun t8x1 w =>
 Bn P .rem 3 true t8x1 (.int .i64 10) w fun t48 w =>
 Bs P 33 1 [(0, t48)] w fun t49 w =>
 Bt P .append #[33, 33] 33 #[t5, t49] w fun t50 w =>
 Bn P .quo 3 true t8x1 (.int .i64 10) w fun t52 w =>
 Bn P .add 3 true t7 (.int .i64 1) w fun t24 w =>
 k1 t50 t52 t24 w)))
 (R (.returned t5) w))
theorem e_ref03_plus (h : s_ref03_plus Tryz.prog t0 t1 w R) : Calls Tryz.prog 123 #[t0, t1] w R :=
 en1 (.sq .z (.sq .z (.sq .z (.sq (.sq .z (.bk (.lp [5, 6, 7] [8, 9, 10, 11, 12, 13, 14, 15, 16, 17, 18, 19, 20, 21, 22, 23, 24, 25, 26, 27, 28, 29, 30, 31, 32, 33, 34, 35, 36, 37, 38, 39, 40, 41, 42, 43, 44, 45, 46, 47, 48, 49, 50, 51, 52] (.sq (.sq .z (.cd .z .z)) (.sq (.bk (.sq .z (.jn [8] [26, 27, 28, 29, 30, 31, 32, 33, 34, 35] (.sq .z (.cd .z .z)) (.jn [8] [36, 37, 38, 39, 40, 41, 42, 43, 44, 45] (.sq .z (.cd .z .z)) (.sq .z .z))))) .z))))) (.sq .z .z))))) [t0, t1] Tryz.func123 (by kernel_rfl) (by kernel_rfl) h
theorem n_ref03_plus : Enters Tryz.prog 123 := enters_of Tryz.func123 (by kernel_rfl) rfl
def s_ref03_minus (P : Program) (t0 t1 : Value) (w : World) (R : Ending → World → Prop) : Prop :=
 Lp3 (.slice none 0 0) (.int .i64 0) (.int .i64 0) w (fun t5 t6 t7 w k1 =>
 Bt P .len #[33] 3 #[t0] w fun t11 w =>
 Bn P .lss 3 false t7 t11 w fun t12 w =>
 If t12
 (Ia P 33 t0 t7 w fun t17 w =>
 Ld P 3 t17 w fun t18 w =>
 Bn P .sub 3 false t18 t6 w fun t20 w =>
 Jn1 (fun k2 =>
 Bt P .len #[33] 3 #[t1] w fun t23 w =>
 Bn P .lss 3 false t7 t23 w fun t24 w =>
 If t24
 (Ia P 33 t1 t7 w fun t28 w =>
 Ld P 3 t28 w fun t29 w =>
 Bn P .sub 3 false t20 t29 w fun t30 w =>
 k2 t30 w)
 (k2 t20 w))
 (fun t8 w =>
 Bn P .lss 3 true t8 (.int .i64 0) w fun t32 w =>
 If t32
 (Bn P .add 3 true t8 (.int .i64 10) w fun t34 w =>
 Bs P 33 1 [(0, t34)] w fun t37 w =>
 Bt P .append #[33, 33] 33 #[t5, t37] w fun t38 w =>
 Bn P .add 3 true t7 (.int .i64 1) w fun t14 w =>
 k1 t38 (.int .i64 1) t14 w)
 (Bs P 33 1 [(0, t8)] w fun t37x1 w =>
 Bt P .append #[33, 33] 33 #[t5, t37x1] w fun t38x1 w =>
 Bn P .add 3 true t7 (.int .i64 1) w fun t14x1 w =>
 k1 t38x1 (.int .i64 0) t14x1 w)))
 (Cl P 161 #[t5] w (Pk R) fun t40 w =>
 R (.returned t40) w))
theorem e_ref03_minus (h : s_ref03_minus Tryz.prog t0 t1 w R) : Calls Tryz.prog 124 #[t0, t1] w R :=
 en1 (.sq .z (.sq .z (.sq .z (.sq (.sq .z (.bk (.lp [5, 6, 7] [8, 9, 10, 11, 12, 13, 14, 15, 16, 17, 18, 19, 20, 21, 22, 23, 24, 25, 26, 27, 28, 29, 30, 31, 32, 33, 34, 35, 36, 37, 38] (.sq (.sq .z (.cd .z .z)) (.sq (.bk (.sq .z (.jn [8] [21, 22, 23, 24, 25, 26, 27, 28, 29, 30] (.sq .z (.cd .z .z)) (.sq .z (.sq (.sq .z (.cd (.sq .z .z) .z)) .z))))) .z))))) (.sq .z .z))))) [t0, t1] Tryz.func124 (by kernel_rfl) (by kernel_rfl) h
theorem n_ref03_minus : Enters Tryz.prog 124 := enters_of Tryz.func124 (by kernel_rfl) rfl
def s_ref03_checked (P : Program) (t0 t1 : Value) (w : World) (R : Ending → World → Prop) : Prop :=
 Cl P 126 #[t0, t1] w (Pk R) fun t11 w =>
 Ex t11 0 w fun t12 w =>
 Ex t11 1 w fun t13 w =>
 Un P .not t13 w fun t15 w =>
 If t15
 (R (.returned (.tuple #[(str []), (.int .i64 30)])) w)
 (R (.returned (.tuple #[t12, (.int .i64 0)])) w)
theorem e_ref03_checked (h : s_ref03_checked Tryz.prog t0 t1 w R) : Calls Tryz.prog 125 #[t0, t1] w R :=
 en1 (.sq .z (.sq .z (.sq (.sq .z (.cd (.sq .z .z) .z)) (.sq .z .z)))) [t0, t1] Tryz.func125 (by kernel_rfl) (by kernel_rfl) h
theorem n_ref03_checked : Enters Tryz.prog 125 := enters_of Tryz.func125 (by kernel_rfl) rfl
def s_ref03_text (P : Program) (t0 t1 : Value) (w : World) (R : Ending → World → Prop) : Prop :=
 Bt P .len #[33] 3 #[t1] w fun t9 w =>
 Bn P .eql 3 true t9 (.int .i64 0) w fun t10 w =>
 If t10
 (R (.returned (.tuple #[(str [48]), (.bool true)])) w)
 (Jn1 (fun k1 =>
 If t0
 (Bs P 171 1 [(0, (.int .u8 45))] w fun t13 w =>
 Bt P .append #[171, 171] 171 #[(.slice none 0 0), t13] w fun t14 w =>
 k1 t14 w)
 (k1 (.slice none 0 0) w))
 (fun t6 w =>
 Bt P .len #[33] 3 #[t1] w fun t16 w =>
 Bn P .sub 3 true t16 (.int .i64 1) w fun t17 w =>
 Lp2 t6 t17 w (fun t6x1 t7 w k2 =>
 Bn P .geq 3 true t7 (.int .i64 0) w fun t19 w =>
 If t19
 (Ia P 33 t1 t7 w fun t25 w =>
 Ld P 3 t25 w fun t26 w =>
 Bn P .add 3 true (.int .i64 48) t26 w fun t27 w =>
 Cv P 3 5 t27 w fun t28 w =>
 Bs P 171 1 [(0, t28)] w fun t29 w =>
 Bt P .append #[171, 171] 171 #[t6x1, t29] w fun t30 w =>
 Bn P .sub 3 true t7 (.int .i64 1) w fun t21 w =>
 k2 t30 t21 w)
 (Cv P 171 9 t6x1 w fun t32 w =>
 Bt P .len #[33] 3 #[t1] w fun t34 w =>
 Bn P .leq 3 true t34 (.int .i64 200) w fun t35 w =>
 R (.returned (.tuple #[t32, t35])) w))))
theorem e_ref03_text (h : s_ref03_text Tryz.prog t0 t1 w R) : Calls Tryz.prog 126 #[t0, t1] w R :=
 en1 (.sq .z (.sq (.sq .z (.cd (.sq .z .z) .z)) (.sq .z (.jn [6] [11, 12, 13, 14] (.sq .z (.cd .z .z)) (.sq (.sq .z (.bk (.lp [6, 7] [18, 19, 20, 21, 22, 23, 24, 25, 26, 27, 28, 29, 30] (.sq (.sq .z (.cd .z .z)) (.sq (.bk .z) .z))))) (.sq .z .z)))))) [t0, t1] Tryz.func126 (by kernel_rfl) (by kernel_rfl) h
theorem n_ref03_text : Enters Tryz.prog 126 := enters_of Tryz.func126 (by kernel_rfl) rfl
def s_ref03_order (P : Program) (t0 t1 : Value) (w : World) (R : Ending → World → Prop) : Prop :=
 Bt P .len #[33] 3 #[t0] w fun t7 w =>
 Bt P .len #[33] 3 #[t1] w fun t9 w =>
 Bn P .neq 3 false t7 t9 w fun t10 w =>
 If t10
 (Bt P .len #[33] 3 #[t0] w fun t12 w =>
 Bt P .len #[33] 3 #[t1] w fun t14 w =>
 Bn P .lss 3 false t12 t14 w fun t15 w =>
 If t15
 (R (.returned (.int .i64 (-1))) w)
 (R (.returned (.int .i64 1)) w))
 (Bt P .len #[33] 3 #[t0] w fun t17 w =>
 Bn P .sub 3 true t17 (.int .i64 1) w fun t18 w =>
 Lp1 t18 w (fun t5 w k1 =>
 Bn P .geq 3 true t5 (.int .i64 0) w fun t20 w =>
 If t20
 (dIx P 33 t0 t5 w.drew fun t25 =>
 dL P 3 t25 w.drew fun t26 =>
 dIx P 33 t1 t5 w.drew fun t29 =>
 dL P 3 t29 w.drew fun t30 =>
 Dv P true (bn .neq 3 false t26 t30) w.drew fun t31 =>
 If t31
 (Dv P true (Instr.indexAt 33 t0 t5) w.drew.drew fun t34 =>
 Dv P false (Instr.loadAt 3 t34) w.drew.drew fun t35 =>
 Dv P true (Instr.indexAt 33 t1 t5) w.drew.drew fun t38 =>
 Dv P false (Instr.loadAt 3 t38) w.drew.drew fun t39 =>
 Dv P true (bn .lss 3 false t35 t39) w.drew.drew fun t40 =>
 If t40
 (R (.returned (.int .i64 (-1))) w.drew.drew)
 (R (.returned (.int .i64 1)) w.drew.drew))
 (Bn P .sub 3 true t5 (.int .i64 1) w.drew fun t22 w =>
 k1 t22 w))
 (R (.returned (.int .i64 0)) w)))
theorem e_ref03_order (h : s_ref03_order Tryz.prog t0 t1 w R) : Calls Tryz.prog 127 #[t0, t1] w R :=
 en1 (.sq .z (.sq (.sq .z (.cd (.sq (.sq .z (.cd (.sq .z .z) .z)) (.sq .z .z)) .z)) (.sq (.sq .z (.bk (.lp [5] [4, 19, 20, 21, 22, 23, 24, 25, 26, 27, 28, 29, 30, 31, 32, 33, 34, 35, 36, 37, 38, 39, 40] (.sq (.sq .z (.cd .z .z)) (.sq (.bk (.sq (.dr (.pur true 0 (.pur true 1 (.pur true 2 (.pur false 3 (.pur true 4 (.pur true 5 (.pur true 6 (.pur false 7 (.pur true 8 .done)))))))))) (.cd (.sq (.sq (.dr (.pur true 0 (.pur true 1 (.pur true 2 (.pur false 3 (.pur true 4 (.pur true 5 (.pur true 6 (.pur false 7 (.pur true 8 .done)))))))))) (.cd (.sq .z .z) .z)) (.sq .z .z)) .z))) .z))))) (.sq .z .z)))) [t0, t1] Tryz.func127 (by kernel_rfl) (by kernel_rfl) h
theorem n_ref03_order : Enters Tryz.prog 127 := enters_of Tryz.func127 (by kernel_rfl) rfl
def s_ref03_Sub (P : Program) (t0 t1 : Value) (w : World) (R : Ending → World → Prop) : Prop :=
 Cl P 118 #[t0] w (Pk R) fun t11 w =>
 Un P .not t11 w fun t12 w =>
 Gd t12 false (fun k => k t1 w) w fun t14 w =>
 Gd t12 false (fun k => Cl P 118 #[t14] w (Pk R) k) w fun t15 w =>
 Gd t12 false (fun k => Un P .not t15 w k) w fun t16 w =>
 Pick t12 (.bool true) t16 w fun t17 w =>
 If t17
 (R (.returned (.tuple #[(str []), (.int .i64 30)])) w)
 (Cl P 121 #[t0] w (Pk R) fun t20 w =>
 Ex t20 0 w fun t21 w =>
 Ex t20 1 w fun t22 w =>
 Cl P 121 #[t1] w (Pk R) fun t25 w =>
 Ex t25 0 w fun t26 w =>
 Ex t25 1 w fun t27 w =>
 Un P .not t26 w fun t31 w =>
 Cl P 163 #[t21, t22, t31, t27] w (Pk R) fun t33 w =>
 Ex t33 0 w fun t34 w =>
 Ex t33 1 w fun t35 w =>
 R (.returned (.tuple #[t34, t35])) w)
theorem e_ref03_Sub (h : s_ref03_Sub Tryz.prog t0 t1 w R) : Calls Tryz.prog 130 #[t0, t1] w R :=
 en1 (.sq .z (.sq (.sq .z (.cd (.sq .z .z) .z)) (.sq .z (.sq .z (.sq .z .z))))) [t0, t1] Tryz.func130 (by kernel_rfl) (by kernel_rfl) h
theorem n_ref03_Sub : Enters Tryz.prog 130 := enters_of Tryz.func130 (by kernel_rfl) rfl
def s_ref04_Make (P : Program) (t0 t1 : Value) (w : World) (R : Ending → World → Prop) : Prop :=
 Al P 25 w fun t4 w =>
 Cl P 118 #[t0] w (Pk R) fun t17 w =>
 Cl P 118 #[t1] w (Pk R) fun t19 w =>
 Un P .not t17 w fun t21 w =>
 Gd t21 false (fun k => k t19 w) w fun t23 w =>
 Gd t21 false (fun k => Un P .not t23 w k) w fun t24 w =>
 Pick t21 (.bool true) t24 w fun t25 w =>
 Gd t25 false (fun k => k t1 w) w fun t27 w =>
 Gd t25 false (fun k => Bn P .eql 9 true t27 (str [48]) w k) w fun t28 w =>
 Pick t25 (.bool true) t28 w fun t29 w =>
 If t29
 (Bd P 25 [] w fun t30 w =>
 Sto P 25 t4 t30 w fun w =>
 Rc P 25 t4 w fun r0 =>
 R (.returned (.tuple #[r0, (.int .i64 40)])) w)
 (Jn2 (fun k1 =>
 Cl P 85 #[t1, (str [48])] w (Pk R) fun t32 w =>
 Bn P .lss 3 true t32 (.int .i64 0) w fun t33 w =>
 If t33
 (Cl P 130 #[(str [48]), t0] w (Pk R) fun t36 w =>
 Ex t36 0 w fun t37 w =>
 Ex t36 1 w fun t38 w =>
 Cl P 130 #[(str [48]), t1] w (Pk R) fun t41 w =>
 Ex t41 0 w fun t42 w =>
 Ex t41 1 w fun t43 w =>
 k1 t37 t42 w)
 (k1 t0 t1 w))
 (fun t0x1 t1x1 w =>
 Cl P 119 #[t0x1, t1x1] w (Pk R) fun t47 w =>
 Ex t47 0 w fun t48 w =>
 Ex t47 1 w fun t49 w =>
 Cl P 84 #[t0x1, t48] w (Pk R) fun t53 w =>
 Ex t53 0 w fun t54 w =>
 Ex t53 1 w fun t55 w =>
 Ex t53 2 w fun t56 w =>
 Cl P 84 #[t1x1, t48] w (Pk R) fun t60 w =>
 Ex t60 0 w fun t61 w =>
 Ex t60 1 w fun t62 w =>
 Ex t60 2 w fun t63 w =>
 Bn P .neq 46 true t56 (.int .i64 0) w fun t65 w =>
 Gd t65 false (fun k => k t63 w) w fun t67 w =>
 Gd t65 false (fun k => Bn P .neq 46 true t67 (.int .i64 0) w k) w fun t68 w =>
 Pick t65 (.bool true) t68 w fun t69 w =>
 If t69
 (Bd P 25 [] w fun t70 w =>
 Sto P 25 t4 t70 w fun w =>
 Rc P 25 t4 w fun r0 =>
 R (.returned (.tuple #[r0, (.int .i64 40)])) w)
 (Bd P 25 [(0, t54), (1, t61)] w fun t73 w =>
 Sto P 25 t4 t73 w fun w =>
 Rc P 25 t4 w fun r0 =>
 R (.returned (.tuple #[r0, (.int .i64 0)])) w)))
theorem e_ref04_Make (h : s_ref04_Make Tryz.prog t0 t1 w R) : Calls Tryz.prog 131 #[t0, t1] w R :=
 en1 (.sq .z (.sq .z (.sq .z (.sq (.sq .z (.cd (.sq .z .z) .z)) (.jn [0, 1] [31, 32, 33, 34, 35, 36, 37, 38, 39, 40, 41, 42, 43] (.sq .z (.cd (.sq .z .z) .z)) (.sq .z (.sq .z (.sq .z (.sq (.sq .z (.cd (.sq .z .z) .z)) (.sq .z .z)))))))))) [t0, t1] Tryz.func131 (by kernel_rfl) (by kernel_rfl) h
theorem n_ref04_Make : Enters Tryz.prog 131 := enters_of Tryz.func131 (by kernel_rfl) rfl
def s_ref03_FromInt (P : Program) (t0 : Value) (w : World) (R : Ending → World → Prop) : Prop :=
 Lp2 (.slice none 0 0) t0 w (fun t3 t4 w k1 =>
 Bn P .neq 3 true t4 (.int .i64 0) w fun t10 w =>
 If t10
 (Bn P .rem 3 true t4 (.int .i64 10) w fun t14 w =>
 Bn P .lss 3 true t14 (.int .i64 0) w fun t16 w =>
 If t16
 (Un P .neg t14 w fun t18 w =>
 Bs P 33 1 [(0, t18)] w fun t21 w =>
 Bt P .append #[33, 33] 33 #[t3, t21] w fun t22 w =>
 Bn P .quo 3 true t4 (.int .i64 10) w fun t12 w =>
 k1 t22 t12 w)
 (Bs P 33 1 [(0, t14)] w fun t21x1 w =>
 Bt P .append #[33, 33] 33 #[t3, t21x1] w fun t22x1 w =>
 Bn P .quo 3 true t4 (.int .i64 10) w fun t12x1 w =>
 k1 t22x1 t12x1 w))
 (Bn P .lss 3 true t0 (.int .i64 0) w fun t25 w =>
 Cl P 126 #[t25, t3] w (Pk R) fun t27 w =>
 Ex t27 0 w fun t28 w =>
 Ex t27 1 w fun t29 w =>
 R (.returned t28) w))
theorem e_ref03_FromInt (h : s_ref03_FromInt Tryz.prog t0 w R) : Calls Tryz.prog 132 #[t0] w R :=
 en1 (.sq .z (.sq .z (.sq (.sq .z (.bk (.lp [3, 4] [5, 9, 10, 11, 12, 13, 14, 15, 16, 17, 18, 19, 20, 21, 22] (.sq (.sq .z (.cd .z .z)) (.sq (.bk (.sq .z (.sq (.sq .z (.cd .z .z)) .z))) .z))))) (.sq .z (.sq .z .z))))) [t0] Tryz.func132 (by kernel_rfl) (by kernel_rfl) h
theorem n_ref03_FromInt : Enters Tryz.prog 132 := enters_of Tryz.func132 (by kernel_rfl) rfl
def s_trace_within (P : Program) (t0 t1 t2 : Value) (w : World) (R : Ending → World → Prop) : Prop :=
 Bn P .geq 3 false t0 t1 w fun t9 w =>
 Gd t9 true (fun k => k t0 w) w fun t11 w =>
 Gd t9 true (fun k => k t2 w) w fun t12 w =>
 Gd t9 true (fun k => Bn P .leq 3 false t11 t12 w k) w fun t13 w =>
 Pick t9 t13 (.bool false) w fun t14 w =>
 R (.returned t14) w
theorem e_trace_within (h : s_trace_within Tryz.prog t0 t1 t2 w R) : Calls Tryz.prog 133 #[t0, t1, t2] w R :=
 en1 (.sq .z (.sq .z .z)) [t0, t1, t2] Tryz.func133 (by kernel_rfl) (by kernel_rfl) h
theorem n_trace_within : Enters Tryz.prog 133 := enters_of Tryz.func133 (by kernel_rfl) rfl
def s_cmp_Or_int (P : Program) (t0 : Value) (w : World) (R : Ending → World → Prop) : Prop :=
 Bt P .len #[33] 3 #[t0] w fun t7 w =>
 Lp1 (.int .i64 0) w (fun t8 w k1 =>
 Bn P .lss 3 false t8 t7 w fun t9 w =>
 If t9
 (Ia P 33 t0 t8 w fun t10 w =>
 Ld P 3 t10 w fun t11 w =>
 Bn P .neq 3 false t11 (.int .i64 0) w fun t14 w =>
 If t14
 (R (.returned t11) w)
 (Bn P .add 3 true t8 (.int .i64 1) w fun t16 w =>
 k1 t16 w))
 (R (.returned (.int .i64 0)) w))
theorem e_cmp_Or_int (h : s_cmp_Or_int Tryz.prog t0 w R) : Calls Tryz.prog 134 #[t0] w R :=
 en1 (.sq .z (.sq .z (.sq (.sq .z (.bk (.lp [8] [2, 5, 9, 10, 11, 12, 13, 14, 15, 16] (.sq .z (.sq (.cd .z .z) (.sq (.bk (.sq .z (.sq .z (.cd (.sq .z .z) .z)))) .z)))))) (.sq .z .z)))) [t0] Tryz.func134 (by kernel_rfl) (by kernel_rfl) h
theorem n_cmp_Or_int : Enters Tryz.prog 134 := enters_of Tryz.func134 (by kernel_rfl) rfl
def s_cmp_Compare_int (P : Program) (t0 t1 : Value) (w : World) (R : Ending → World → Prop) : Prop :=
 Cl P 164 #[t0] w (Pk R) fun t8 w =>
 Cl P 164 #[t1] w (Pk R) fun t10 w =>
 If t8
 (If t10
 (R (.returned (.int .i64 0)) w)
 (R (.returned (.int .i64 (-1))) w))
 (If t10
 (R (.returned (.int .i64 1)) w)
 (Bn P .lss 3 false t0 t1 w fun t16 w =>
 If t16
 (R (.returned (.int .i64 (-1))) w)
 (Bn P .gtr 3 false t0 t1 w fun t19 w =>
 If t19
 (R (.returned (.int .i64 1)) w)
 (R (.returned (.int .i64 0)) w))))
theorem e_cmp_Compare_int (h : s_cmp_Compare_int Tryz.prog t0 t1 w R) : Calls Tryz.prog 135 #[t0, t1] w R :=
 en1 (.sq .z (.sq .z (.sq .z (.sq (.sq .z (.cd (.sq (.sq .z (.cd (.sq .z .z) .z)) (.sq .z .z)) .z)) (.sq (.sq .z (.cd (.sq .z .z) .z)) (.sq (.sq .z (.cd (.sq .z .z) .z)) (.sq (.sq .z (.cd (.sq .z .z) .z)) (.sq .z .z)))))))) [t0, t1] Tryz.func135 (by kernel_rfl) (by kernel_rfl) h
theorem n_cmp_Compare_int : Enters Tryz.prog 135 := enters_of Tryz.func135 (by kernel_rfl) rfl
theorem n_strings_Repeat : Enters Tryz.prog 136 := enters_of Tryz.func136 (by kernel_rfl) rfl
def s_integer_isValid (P : Program) (t0 : Value) (w : World) (R : Ending → World → Prop) : Prop :=
 Cl P 170 #[t0, (str [45])] w (Pk R) fun t5 w =>
 Bn P .eql 9 true t5 (str []) w fun t7 w =>
 Gd t7 false (fun k => k t5 w) w fun t9 w =>
 Gd t7 false (fun k => Bt P .len #[9] 3 #[t9] w k) w fun t10 w =>
 Gd t7 false (fun k => Bn P .gtr 3 true t10 (.int .i64 200) w k) w fun t11 w =>
 Pick t7 (.bool true) t11 w fun t12 w =>
 Gd t12 false (fun k => k t5 w) w fun t14 w =>
 Gd t12 false (fun k => Cl P 171 #[t14, (str [48, 49, 50, 51, 52, 53, 54, 55, 56, 57])] w (Pk R) k) w fun t15 w =>
 Gd t12 false (fun k => Bn P .neq 9 true t15 (str []) w k) w fun t16 w =>
 Pick t12 (.bool true) t16 w fun t17 w =>
 If t17
 (R (.returned (.bool false)) w)
 (Bn P .eql 9 true t0 (str [48]) w fun t19 w =>
 Gd t19 false (fun k => k t5 w) w fun t21 w =>
 Gd t19 false (fun k => Ix P 9 t21 (.int .i64 0) w k) w fun t22 w =>
 Gd t19 false (fun k => Bn P .neq 5 true t22 (.int .u8 48) w k) w fun t23 w =>
 Pick t19 (.bool true) t23 w fun t24 w =>
 R (.returned t24) w)
theorem e_integer_isValid (h : s_integer_isValid Tryz.prog t0 w R) : Calls Tryz.prog 139 #[t0] w R :=
 en1 (.sq .z (.sq .z (.sq (.sq .z (.cd (.sq .z .z) .z)) (.sq .z .z)))) [t0] Tryz.func139 (by kernel_rfl) (by kernel_rfl) h
theorem n_integer_isValid : Enters Tryz.prog 139 := enters_of Tryz.func139 (by kernel_rfl) rfl
def s_integer_parse (P : Program) (t0 : Value) (w : World) (R : Ending → World → Prop) : Prop :=
 Al P 141 w fun t2 w =>
 Cl P 170 #[t0, (str [45])] w (Pk R) fun t9 w =>
 Bt P .len #[9] 3 #[t9] w fun t11 w =>
 Bt P .len #[9] 3 #[t0] w fun t13 w =>
 Bn P .lss 3 false t11 t13 w fun t14 w =>
 Bd P 141 [(0, t14)] w fun t15 w =>
 Al P 141 w fun t4 w =>
 Sto P 141 t4 t15 w fun w =>
 Lp1 t9 w (fun t3 w k1 =>
 Bt P .len #[9] 3 #[t3] w fun t17 w =>
 Bn P .gtr 3 true t17 (.int .i64 0) w fun t18 w =>
 If t18
 (Bt P .len #[9] 3 #[t3] w fun t20 w =>
 Bn P .sub 3 true t20 (.int .i64 4) w fun t21 w =>
 Bt P .max #[3, 3] 3 #[(.int .i64 0), t21] w fun t22 w =>
 Sc P 9 t3 (some t22) none none w fun t26 w =>
 Cl P 76 #[t26] w (Pk R) fun t27 w =>
 Ex t27 0 w fun t28 w =>
 Ex t27 1 w fun t29 w =>
 Fa P 141 t4 1 w fun t30 w =>
 Ld P 139 t30 w fun t31 w =>
 Bs P 139 1 [(0, t28)] w fun t33 w =>
 Bt P .append #[139, 139] 139 #[t31, t33] w fun t34 w =>
 Fa P 141 t4 1 w fun t35 w =>
 Sto P 139 t35 t34 w fun w =>
 Sc P 9 t3 none (some t22) none w fun t38 w =>
 k1 t38 w)
 (Fa P 141 t4 1 w fun t39 w =>
 Ld P 139 t39 w fun t40 w =>
 Cl P 146 #[t40] w (Pk R) fun t41 w =>
 Fa P 141 t4 1 w fun t42 w =>
 Sto P 139 t42 t41 w fun w =>
 Ld P 141 t4 w fun t43 w =>
 Sto P 141 t2 t43 w fun w =>
 Rc P 141 t2 w fun r0 =>
 R (.returned r0) w))
theorem e_integer_parse (h : s_integer_parse Tryz.prog t0 w R) : Calls Tryz.prog 140 #[t0] w R :=
 en1 (.sq .z (.sq .z (.sq .z (.sq (.bk (.lp [3] [5, 6, 7, 16, 17, 18, 19, 20, 21, 22, 23, 24, 25, 26, 27, 28, 29, 30, 31, 32, 33, 34, 35, 36, 37, 38] (.sq (.sq .z (.cd .z .z)) (.bk (.sq .z (.sq .z (.sq .z .z))))))) (.sq .z (.sq .z .z)))))) [t0] Tryz.func140 (by kernel_rfl) (by kernel_rfl) h
theorem n_integer_parse : Enters Tryz.prog 140 := enters_of Tryz.func140 (by kernel_rfl) rfl
def s_slices_Backward_integer_number_int (P : Program) (t0 : Value) (w : World) (R : Ending → World → Prop) : Prop :=
 Bx P 139 t0 w fun t1 w =>
 R (.returned (.func (.func 172) #[] #[t1])) w
theorem e_slices_Backward_integer_number_int (h : s_slices_Backward_integer_number_int Tryz.prog t0 w R) : Calls Tryz.prog 141 #[t0] w R :=
 en1 (.sq .z (.sq .z .z)) [t0] Tryz.func141 (by kernel_rfl) (by kernel_rfl) h
theorem n_slices_Backward_integer_number_int : Enters Tryz.prog 141 := enters_of Tryz.func141 (by kernel_rfl) rfl
def s_strings_Builder_WriteString (P : Program) (t0 t1 : Value) (w : World) (R : Ending → World → Prop) : Prop :=
 Cl P 173 #[t0] w (Pk R) fun t7 w =>
 Nc t0 w fun t10 w =>
 Fa P 173 t10 1 w fun t11 w =>
 Ld P 171 t11 w fun t12 w =>
 Bt P .append #[171, 9] 171 #[t12, t1] w fun t14 w =>
 Nc t0 w fun t15 w =>
 Fa P 173 t15 1 w fun t16 w =>
 Sto P 171 t16 t14 w fun w =>
 Bt P .len #[9] 3 #[t1] w fun t18 w =>
 R (.returned (.tuple #[t18, .nilIface])) w
theorem e_strings_Builder_WriteString (h : s_strings_Builder_WriteString Tryz.prog t0 t1 w R) : Calls Tryz.prog 142 #[t0, t1] w R :=
 en1 (.sq .z (.sq .z (.sq .z (.sq .z .z)))) [t0, t1] Tryz.func142 (by kernel_rfl) (by kernel_rfl) h
theorem n_strings_Builder_WriteString : Enters Tryz.prog 142 := enters_of Tryz.func142 (by kernel_rfl) rfl
theorem n_strings_Builder_String : Enters Tryz.prog 143 := enters_of Tryz.func143 (by kernel_rfl) rfl
def s_integer_number_times (P : Program) (t0 t1 : Value) (w : World) (R : Ending → World → Prop) : Prop :=
 Bx P 139 t0 w fun t2 w =>
 Al P 139 w fun t5 w =>
 Cl P 141 #[t1] w (Pk R) fun t9 w =>
 Rf2 P t9 w (fun t10 t11 w next lv =>
 Jn0 (fun k1 =>
 Ld P 139 t5 w fun t12 w =>
 Bt P .len #[139] 3 #[t12] w fun t13 w =>
 Bn P .gtr 3 true t13 (.int .i64 0) w fun t14 w =>
 If t14
 (Bs P 139 1 [(0, (.int .i64 0))] w fun t15 w =>
 Ld P 139 t5 w fun t16 w =>
 Bt P .append #[139, 139] 139 #[t15, t16] w fun t17 w =>
 Sto P 139 t5 t17 w fun w =>
 k1 w)
 (k1 w))
 (fun w =>
 dL P 139 t5 w.drew fun t18 =>
 dL P 139 t2 w.drew fun t19 =>
 Cl P 147 #[t19, t11] w.drew (fun _ _ => False) fun t21 w =>
 kLd P 139 t5 t18 w <|
 Cl P 111 #[t18, t21] w (fun _ _ => False) fun t22 w =>
 Sto P 139 t5 t22 w fun w =>
 next w))
 (fun D1 w =>
 Ld P 139 t5 w fun t23 w =>
 Tk P D1 w fun w =>
 R (.returned t23) w)
 (fun D1 w =>
 Tk P D1 w fun w =>
 R (.returned (.slice none 0 0)) w) []
theorem e_integer_number_times (h : s_integer_number_times Tryz.prog t0 t1 w R) : Calls Tryz.prog 144 #[t0, t1] w R :=
 en1 (.sq .z (.sq .z (.sq (.sq .z (.bk (.rf (.bk (.jn [] [12, 13, 14, 15, 16, 17] (.sq .z (.cd .z .z)) (.dr (.pur false 0 (.pur false 1 (.pur true 2 (.eff 3 [0] (.eff 4 [] (.eff 5 [] .done))))))))) []))) (.sq .z .z)))) [t0, t1] Tryz.func144 (by kernel_rfl) (by kernel_rfl) h
theorem n_integer_number_times : Enters Tryz.prog 144 := enters_of Tryz.func144 (by kernel_rfl) rfl
def s_rational_work_quotient_1 (P : Program) (t0 t1 : Value) (w : World) (R : Ending → World → Prop) : Prop :=
 Cl P 73 #[t0, t1] w (Pk R) fun t12 w =>
 Ex t12 0 w fun t13 w =>
 Ex t12 1 w fun t14 w =>
 Ex t12 2 w fun t15 w =>
 R (.returned (.tuple #[t13, t15])) w
theorem e_rational_work_quotient_1 (h : s_rational_work_quotient_1 Tryz.prog t0 t1 w R) : Calls Tryz.prog 145 #[t0, t1] w R :=
 en1 (.sq .z (.sq .z (.sq .z .z))) [t0, t1] Tryz.func145 (by kernel_rfl) (by kernel_rfl) h
theorem n_rational_work_quotient_1 : Enters Tryz.prog 145 := enters_of Tryz.func145 (by kernel_rfl) rfl
def s_integer_number_trimmed (P : Program) (t0 : Value) (w : World) (R : Ending → World → Prop) : Prop :=
 Lp1 t0 w (fun t0x1 w k1 =>
 Bt P .len #[139] 3 #[t0x1] w fun t4 w =>
 Bn P .gtr 3 true t4 (.int .i64 0) w fun t5 w =>
 Gd t5 true (fun k => k t0x1 w) w fun t7 w =>
 Gd t5 true (fun k => k t0x1 w) w fun t8 w =>
 Gd t5 true (fun k => Bt P .len #[139] 3 #[t8] w k) w fun t9 w =>
 Gd t5 true (fun k => Bn P .sub 3 true t9 (.int .i64 1) w k) w fun t10 w =>
 Gd t5 true (fun k => Ia P 139 t7 t10 w k) w fun t11 w =>
 Gd t5 true (fun k => Ld P 3 t11 w k) w fun t12 w =>
 Gd t5 true (fun k => Bn P .eql 3 true t12 (.int .i64 0) w k) w fun t13 w =>
 Pick t5 t13 (.bool false) w fun t14 w =>
 If t14
 (Bt P .len #[139] 3 #[t0x1] w fun t17 w =>
 Bn P .sub 3 true t17 (.int .i64 1) w fun t18 w =>
 Sc P 139 t0x1 none (some t18) none w fun t19 w =>
 k1 t19 w)
 (R (.returned t0x1) w))
theorem e_integer_number_trimmed (h : s_integer_number_trimmed Tryz.prog t0 w R) : Calls Tryz.prog 146 #[t0] w R :=
 en1 (.sq .z (.sq (.bk (.lp [0] [3, 4, 5, 6, 7, 8, 9, 10, 11, 12, 13, 14, 15, 16, 17, 18, 19] (.sq (.sq .z (.cd .z .z)) (.bk .z)))) (.sq .z .z))) [t0] Tryz.func146 (by kernel_rfl) (by kernel_rfl) h
theorem n_integer_number_trimmed : Enters Tryz.prog 146 := enters_of Tryz.func146 (by kernel_rfl) rfl
def s_integer_number_by (P : Program) (t0 t1 : Value) (w : World) (R : Ending → World → Prop) : Prop :=
 Bx P 139 t0 w fun t2 w =>
 Bx P 3 t1 w fun t3 w =>
 Ld P 139 t2 w fun t5 w =>
 Bt P .len #[139] 3 #[t5] w fun t6 w =>
 Cl P 150 #[t6, (.int .i64 0), (.func (.func 174) #[] #[t2, t3])] w (Pk R) fun t8 w =>
 Cl P 146 #[t8] w (Pk R) fun t9 w =>
 R (.returned t9) w
theorem e_integer_number_by (h : s_integer_number_by Tryz.prog t0 t1 w R) : Calls Tryz.prog 147 #[t0, t1] w R :=
 en1 (.sq .z (.sq .z .z)) [t0, t1] Tryz.func147 (by kernel_rfl) (by kernel_rfl) h
theorem n_integer_number_by : Enters Tryz.prog 147 := enters_of Tryz.func147 (by kernel_rfl) rfl
def s_integer_number_over_1 (P : Program) (t0 t1 t2 : Value) (w : World) (R : Ending → World → Prop) : Prop :=
 dL P 178 t1 w.drew fun t5 =>
 Dv P true (bn .add 3 true t0 (.int .i64 1)) w.drew fun t7 =>
 dL P 139 t2 w.drew fun t9 =>
 Cw P t5 #[t7] w.drew (Pk R) fun t8 w =>
 kLd P 139 t2 t9 w <|
 Cl P 114 #[t8, t9] w (Pk R) fun t10 w =>
 Dv P true (bn .gtr 3 true t10 (.int .i64 0)) w fun t11 =>
 R (.returned t11) w
theorem e_integer_number_over_1 (h : s_integer_number_over_1 Tryz.prog t0 t1 t2 w R) : Calls Tryz.prog 148 #[t0, t1, t2] w R :=
 en1 (.sq .z (.sq (.dr (.pur false 0 (.pur true 1 (.pur true 2 (.pur false 4 (.eff 3 [4] (.eff 5 [] (.pur true 6 (.pur true 7 .done))))))))) .z)) [t0, t1, t2] Tryz.func148 (by kernel_rfl) (by kernel_rfl) h
theorem n_integer_number_over_1 : Enters Tryz.prog 148 := enters_of Tryz.func148 (by kernel_rfl) rfl
def s_sort_Search (P : Program) (t0 t1 : Value) (w : World) (R : Ending → World → Prop) : Prop :=
 Lp2 (.int .i64 0) t0 w (fun t5 t6 w k1 =>
 Bn P .lss 3 false t5 t6 w fun t11 w =>
 If t11
 (Bn P .add 3 false t5 t6 w fun t14 w =>
 Cv P 3 192 t14 w fun t15 w =>
 Bn P .shr 192 true t15 (.int .u64 1) w fun t16 w =>
 Cv P 192 3 t16 w fun t17 w =>
 Cw P t1 #[t17] w (Pk R) fun t20 w =>
 Un P .not t20 w fun t21 w =>
 If t21
 (Bn P .add 3 true t17 (.int .i64 1) w fun t23 w =>
 k1 t23 t6 w)
 (k1 t5 t17 w))
 (R (.returned t5) w))
theorem e_sort_Search (h : s_sort_Search Tryz.prog t0 t1 w R) : Calls Tryz.prog 149 #[t0, t1] w R :=
 en1 (.sq .z (.sq .z (.sq (.bk (.lp [5, 6] [7, 9, 10, 11, 12, 13, 14, 15, 16, 17, 18, 19, 20, 21, 22, 23, 24] (.sq (.sq .z (.cd .z .z)) (.bk (.sq .z (.sq .z (.cd .z .z))))))) (.sq .z .z)))) [t0, t1] Tryz.func149 (by kernel_rfl) (by kernel_rfl) h
theorem n_sort_Search : Enters Tryz.prog 149 := enters_of Tryz.func149 (by kernel_rfl) rfl
def s_integer_fold_integer_number (P : Program) (t0 t1 t2 : Value) (w : World) (R : Ending → World → Prop) : Prop :=
 Bn P .add 3 true t0 (.int .i64 1) w fun t11 w =>
 Ms P 139 (.int .i64 0) t11 w fun t12 w =>
 Lp3 t1 t12 (.int .i64 0) w (fun t1x1 t7 t8 w k1 =>
 Bn P .lss 3 false t8 t0 w fun t15 w =>
 Gd t15 false (fun k => k t1x1 w) w fun t17 w =>
 Gd t15 false (fun k => Bn P .neq 3 true t17 (.int .i64 0) w k) w fun t18 w =>
 Pick t15 (.bool true) t18 w fun t19 w =>
 If t19
 (Cw P t2 #[t8] w (Pk R) fun t24 w =>
 Bn P .add 3 false t24 t1x1 w fun t26 w =>
 Bn P .lss 3 true t26 (.int .i64 0) w fun t28 w =>
 If t28
 (Bn P .add 3 true t26 (.int .i64 10000) w fun t30 w =>
 Bs P 139 1 [(0, t30)] w fun t39 w =>
 Bt P .append #[139, 139] 139 #[t7, t39] w fun t40 w =>
 Bn P .add 3 true t8 (.int .i64 1) w fun t21 w =>
 k1 (.int .i64 (-1)) t40 t21 w)
 (Bn P .geq 3 true t26 (.int .i64 10000) w fun t32 w =>
 If t32
 (Bn P .quo 3 true t26 (.int .i64 10000) w fun t34 w =>
 Bn P .rem 3 true t26 (.int .i64 10000) w fun t36 w =>
 Bs P 139 1 [(0, t36)] w fun t39x1 w =>
 Bt P .append #[139, 139] 139 #[t7, t39x1] w fun t40x1 w =>
 Bn P .add 3 true t8 (.int .i64 1) w fun t21x1 w =>
 k1 t34 t40x1 t21x1 w)
 (Bs P 139 1 [(0, t26)] w fun t39x2 w =>
 Bt P .append #[139, 139] 139 #[t7, t39x2] w fun t40x2 w =>
 Bn P .add 3 true t8 (.int .i64 1) w fun t21x2 w =>
 k1 (.int .i64 0) t40x2 t21x2 w)))
 (R (.returned t7) w))
theorem e_integer_fold_integer_number (h : s_integer_fold_integer_number Tryz.prog t0 t1 t2 w R) : Calls Tryz.prog 150 #[t0, t1, t2] w R :=
 en1 (.sq .z (.sq .z (.sq (.sq .z (.bk (.lp [1, 7, 8] [9, 13, 14, 15, 16, 17, 18, 19, 20, 21, 22, 23, 24, 25, 26, 27, 28, 29, 30, 31, 32, 33, 34, 35, 36, 37, 38, 39, 40] (.sq (.sq .z (.cd .z .z)) (.sq (.bk (.sq .z (.sq .z (.sq (.sq .z (.cd (.sq .z .z) (.sq .z (.cd (.sq .z .z) .z)))) .z)))) .z))))) (.sq .z .z)))) [t0, t1, t2] Tryz.func150 (by kernel_rfl) (by kernel_rfl) h
theorem n_integer_fold_integer_number : Enters Tryz.prog 150 := enters_of Tryz.func150 (by kernel_rfl) rfl
def s_integer_number_plus_1 (P : Program) (t0 t1 t2 : Value) (w : World) (R : Ending → World → Prop) : Prop :=
 dL P 139 t1 w.drew fun t5 =>
 dL P 139 t2 w.drew fun t8 =>
 Cl P 152 #[t5, t0] w.drew (Pk R) fun t7 w =>
 kLd P 139 t2 t8 w <|
 Cl P 152 #[t8, t0] w (Pk R) fun t10 w =>
 Dv P true (bn .add 3 false t7 t10) w fun t11 =>
 R (.returned t11) w
theorem e_integer_number_plus_1 (h : s_integer_number_plus_1 Tryz.prog t0 t1 t2 w R) : Calls Tryz.prog 151 #[t0, t1, t2] w R :=
 en1 (.sq .z (.sq (.dr (.pur false 0 (.pur true 1 (.pur false 3 (.pur true 4 (.eff 2 [3] (.eff 5 [] (.pur true 6 (.pur true 7 .done))))))))) .z)) [t0, t1, t2] Tryz.func151 (by kernel_rfl) (by kernel_rfl) h
theorem n_integer_number_plus_1 : Enters Tryz.prog 151 := enters_of Tryz.func151 (by kernel_rfl) rfl
def s_integer_number_at (P : Program) (t0 t1 : Value) (w : World) (R : Ending → World → Prop) : Prop :=
 Bt P .len #[139] 3 #[t0] w fun t7 w =>
 Bn P .lss 3 false t1 t7 w fun t8 w =>
 If t8
 (Ia P 139 t0 t1 w fun t11 w =>
 Ld P 3 t11 w fun t12 w =>
 R (.returned t12) w)
 (R (.returned (.int .i64 0)) w)
theorem e_integer_number_at (h : s_integer_number_at Tryz.prog t0 t1 w R) : Calls Tryz.prog 152 #[t0, t1] w R :=
 en1 (.sq .z (.sq (.sq .z (.cd (.sq .z .z) .z)) (.sq .z .z))) [t0, t1] Tryz.func152 (by kernel_rfl) (by kernel_rfl) h
theorem n_integer_number_at : Enters Tryz.prog 152 := enters_of Tryz.func152 (by kernel_rfl) rfl
def s_integer_number_minus_1 (P : Program) (t0 t1 t2 : Value) (w : World) (R : Ending → World → Prop) : Prop :=
 dL P 139 t1 w.drew fun t5 =>
 dL P 139 t2 w.drew fun t8 =>
 Cl P 152 #[t5, t0] w.drew (Pk R) fun t7 w =>
 kLd P 139 t2 t8 w <|
 Cl P 152 #[t8, t0] w (Pk R) fun t10 w =>
 Dv P true (bn .sub 3 false t7 t10) w fun t11 =>
 R (.returned t11) w
theorem e_integer_number_minus_1 (h : s_integer_number_minus_1 Tryz.prog t0 t1 t2 w R) : Calls Tryz.prog 153 #[t0, t1, t2] w R :=
 en1 (.sq .z (.sq (.dr (.pur false 0 (.pur true 1 (.pur false 3 (.pur true 4 (.eff 2 [3] (.eff 5 [] (.pur true 6 (.pur true 7 .done))))))))) .z)) [t0, t1, t2] Tryz.func153 (by kernel_rfl) (by kernel_rfl) h
theorem n_integer_number_minus_1 : Enters Tryz.prog 153 := enters_of Tryz.func153 (by kernel_rfl) rfl
def s_ref03_trim (P : Program) (t0 : Value) (w : World) (R : Ending → World → Prop) : Prop :=
 Lp1 t0 w (fun t0x1 w k1 =>
 Bt P .len #[33] 3 #[t0x1] w fun t4 w =>
 Bn P .gtr 3 true t4 (.int .i64 0) w fun t5 w =>
 Gd t5 true (fun k => k t0x1 w) w fun t7 w =>
 Gd t5 true (fun k => k t0x1 w) w fun t8 w =>
 Gd t5 true (fun k => Bt P .len #[33] 3 #[t8] w k) w fun t9 w =>
 Gd t5 true (fun k => Bn P .sub 3 true t9 (.int .i64 1) w k) w fun t10 w =>
 Gd t5 true (fun k => Ia P 33 t7 t10 w k) w fun t11 w =>
 Gd t5 true (fun k => Ld P 3 t11 w k) w fun t12 w =>
 Gd t5 true (fun k => Bn P .eql 3 true t12 (.int .i64 0) w k) w fun t13 w =>
 Pick t5 t13 (.bool false) w fun t14 w =>
 If t14
 (Bt P .len #[33] 3 #[t0x1] w fun t17 w =>
 Bn P .sub 3 true t17 (.int .i64 1) w fun t18 w =>
 Sc P 33 t0x1 none (some t18) none w fun t19 w =>
 k1 t19 w)
 (R (.returned t0x1) w))
theorem e_ref03_trim (h : s_ref03_trim Tryz.prog t0 w R) : Calls Tryz.prog 161 #[t0] w R :=
 en1 (.sq .z (.sq (.bk (.lp [0] [3, 4, 5, 6, 7, 8, 9, 10, 11, 12, 13, 14, 15, 16, 17, 18, 19] (.sq (.sq .z (.cd .z .z)) (.bk .z)))) (.sq .z .z))) [t0] Tryz.func161 (by kernel_rfl) (by kernel_rfl) h
theorem n_ref03_trim : Enters Tryz.prog 161 := enters_of Tryz.func161 (by kernel_rfl) rfl
def s_ref03_sum (P : Program) (t0 t1 t2 t3 : Value) (w : World) (R : Ending → World → Prop) : Prop :=
 Jn2 (fun k1 =>
 Bn P .eql 4 false t0 t2 w fun t15 w =>
 If t15
 (Cl P 123 #[t1, t3] w (Pk R) fun t18 w =>
 k1 t0 t18 w)
 (Cl P 127 #[t1, t3] w (Pk R) fun t21 w =>
 Bn P .geq 3 true t21 (.int .i64 0) w fun t22 w =>
 If t22
 (Cl P 124 #[t1, t3] w (Pk R) fun t25 w =>
 k1 t0 t25 w)
 (Cl P 124 #[t3, t1] w (Pk R) fun t29 w =>
 k1 t2 t29 w)))
 (fun t10 t11 w =>
 Cl P 125 #[t10, t11] w (Pk R) fun t32 w =>
 Ex t32 0 w fun t33 w =>
 Ex t32 1 w fun t34 w =>
 R (.returned (.tuple #[t33, t34])) w)
theorem e_ref03_sum (h : s_ref03_sum Tryz.prog t0 t1 t2 t3 w R) : Calls Tryz.prog 163 #[t0, t1, t2, t3] w R :=
 en1 (.sq .z (.sq .z (.sq .z (.jn [10, 11] [13, 14, 15, 16, 17, 18, 19, 20, 21, 22, 23, 24, 25, 26, 27, 28, 29] (.sq .z (.cd .z (.sq .z (.cd .z (.sq .z .z))))) (.sq .z .z))))) [t0, t1, t2, t3] Tryz.func163 (by kernel_rfl) (by kernel_rfl) h
theorem n_ref03_sum : Enters Tryz.prog 163 := enters_of Tryz.func163 (by kernel_rfl) rfl
def s_cmp_isNaN_int (P : Program) (t0 : Value) (w : World) (R : Ending → World → Prop) : Prop :=
 Bn P .neq 3 false t0 t0 w fun t5 w =>
 R (.returned t5) w
theorem e_cmp_isNaN_int (h : s_cmp_isNaN_int Tryz.prog t0 w R) : Calls Tryz.prog 164 #[t0] w R :=
 en1 (.sq .z (.sq .z .z)) [t0] Tryz.func164 (by kernel_rfl) (by kernel_rfl) h
theorem n_cmp_isNaN_int : Enters Tryz.prog 164 := enters_of Tryz.func164 (by kernel_rfl) rfl
theorem n_strings_TrimPrefix : Enters Tryz.prog 170 := enters_of Tryz.func170 (by kernel_rfl) rfl
def s_strings_Trim (P : Program) (t0 t1 : Value) (w : World) (R : Ending → World → Prop) : Prop :=
 Bn P .eql 9 true t0 (str []) w fun t8 w =>
 Gd t8 false (fun k => k t1 w) w fun t10 w =>
 Gd t8 false (fun k => Bn P .eql 9 true t10 (str []) w k) w fun t11 w =>
 Pick t8 (.bool true) t11 w fun t12 w =>
 If t12
 (R (.returned t0) w)
 (Bt P .len #[9] 3 #[t1] w fun t15 w =>
 Bn P .eql 3 true t15 (.int .i64 1) w fun t16 w =>
 Gd t16 true (fun k => k t1 w) w fun t18 w =>
 Gd t16 true (fun k => Ix P 9 t18 (.int .i64 0) w k) w fun t19 w =>
 Gd t16 true (fun k => Bn P .lss 5 true t19 (.int .u8 128) w k) w fun t20 w =>
 Pick t16 t20 (.bool false) w fun t21 w =>
 If t21
 (Dv P true (Instr.index 9 t1 (.int .i64 0)) w.drew fun t24 =>
 Dv P true (Instr.index 9 t1 (.int .i64 0)) w.drew fun t27 =>
 Cl P 189 #[t0, t24] w.drew (Pk R) fun t25 w =>
 Cl P 188 #[t25, t27] w (Pk R) fun t28 w =>
 R (.returned t28) w)
 (Cl P 190 #[t1] w (Pk R) fun t31 w =>
 Ex t31 0 w fun t32 w =>
 Ex t31 1 w fun t33 w =>
 Al P 218 w fun t5 w =>
 Sto P 218 t5 t32 w fun w =>
 If t33
 (Cl P 192 #[t0, t5] w (Pk R) fun t36 w =>
 Cl P 191 #[t36, t5] w (Pk R) fun t37 w =>
 R (.returned t37) w)
 (Cl P 194 #[t0, t1] w (Pk R) fun t40 w =>
 Cl P 193 #[t40, t1] w (Pk R) fun t42 w =>
 R (.returned t42) w)))
theorem e_strings_Trim (h : s_strings_Trim Tryz.prog t0 t1 w R) : Calls Tryz.prog 171 #[t0, t1] w R :=
 en1 (.sq .z (.sq (.sq .z (.cd (.sq .z .z) .z)) (.sq (.sq .z (.cd (.sq (.dr (.pur true 0 (.pur true 1 (.pur true 2 (.pur true 4 (.pur true 5 (.eff 3 [] (.eff 6 [] (.pur true 7 .done))))))))) .z) .z)) (.sq (.sq .z (.sq .z (.cd (.sq .z .z) .z))) (.sq .z .z))))) [t0, t1] Tryz.func171 (by kernel_rfl) (by kernel_rfl) h
theorem n_strings_Trim : Enters Tryz.prog 171 := enters_of Tryz.func171 (by kernel_rfl) rfl
def s_slices_Backward_integer_number_int_1 (P : Program) (t0 t1 : Value) (w : World) (R : Ending → World → Prop) : Prop :=
 Ld P 139 t1 w fun t4 w =>
 Bt P .len #[139] 3 #[t4] w fun t5 w =>
 Bn P .sub 3 true t5 (.int .i64 1) w fun t6 w =>
 Lp1 t6 w (fun t3 w k1 =>
 Bn P .geq 3 true t3 (.int .i64 0) w fun t8 w =>
 If t8
 (Ld P 139 t1 w fun t13 w =>
 Ia P 139 t13 t3 w fun t15 w =>
 Ld P 3 t15 w fun t16 w =>
 Cw P t0 #[t3, t16] w (Pk R) fun t17 w =>
 Un P .not t17 w fun t18 w =>
 If t18
 (R (.returned (.tuple #[])) w)
 (Bn P .sub 3 true t3 (.int .i64 1) w fun t10 w =>
 k1 t10 w))
 (R (.returned (.tuple #[])) w))
theorem e_slices_Backward_integer_number_int_1 (h : s_slices_Backward_integer_number_int_1 Tryz.prog t0 t1 w R) : Calls Tryz.prog 172 #[t0, t1] w R :=
 en1 (.sq .z (.bk (.lp [3] [7, 8, 9, 10, 11, 12, 13, 14, 15, 16, 17, 18] (.sq (.sq .z (.cd .z .z)) (.sq (.bk (.sq .z (.cd .z .z))) .z))))) [t0, t1] Tryz.func172 (by kernel_rfl) (by kernel_rfl) h
theorem n_slices_Backward_integer_number_int_1 : Enters Tryz.prog 172 := enters_of Tryz.func172 (by kernel_rfl) rfl
def s_strings_Builder_copyCheck (P : Program) (t0 : Value) (w : World) (R : Ending → World → Prop) : Prop :=
 Nc t0 w fun t3 w =>
 Fa P 173 t3 0 w fun t4 w =>
 Ld P 170 t4 w fun t5 w =>
 Bn P .eql 170 true t5 (.pointer none) w fun t6 w =>
 If t6
 (Cv P 170 223 t0 w fun t9 w =>
 Cl P 195 #[t9] w (Pk R) fun t10 w =>
 Cv P 223 170 t10 w fun t11 w =>
 Nc t0 w fun t12 w =>
 Fa P 173 t12 0 w fun t13 w =>
 Sto P 170 t13 t11 w fun w =>
 R (.returned (.tuple #[])) w)
 (Nc t0 w fun t15 w =>
 Fa P 173 t15 0 w fun t16 w =>
 Ld P 170 t16 w fun t17 w =>
 Bn P .neq 170 false t17 t0 w fun t19 w =>
 If t19
 (False)
 (R (.returned (.tuple #[])) w))
theorem e_strings_Builder_copyCheck (h : s_strings_Builder_copyCheck Tryz.prog t0 w R) : Calls Tryz.prog 173 #[t0] w R :=
 en1 (.sq .z (.cd .z (.sq .z (.cd .z .z)))) [t0] Tryz.func173 (by kernel_rfl) (by kernel_rfl) h
theorem n_strings_Builder_copyCheck : Enters Tryz.prog 173 := enters_of Tryz.func173 (by kernel_rfl) rfl
def s_integer_number_by_1 (P : Program) (t0 t1 t2 : Value) (w : World) (R : Ending → World → Prop) : Prop :=
 dL P 139 t1 w.drew fun t5 =>
 dL P 3 t2 w.drew fun t8 =>
 Cl P 152 #[t5, t0] w.drew (Pk R) fun t7 w =>
 kLd P 3 t2 t8 w <|
 Dv P true (bn .mul 3 false t7 t8) w fun t9 =>
 R (.returned t9) w
theorem e_integer_number_by_1 (h : s_integer_number_by_1 Tryz.prog t0 t1 t2 w R) : Calls Tryz.prog 174 #[t0, t1, t2] w R :=
 en1 (.sq .z (.sq (.dr (.pur false 0 (.pur true 1 (.pur false 3 (.eff 2 [3] (.pur true 4 (.pur true 5 .done))))))) .z)) [t0, t1, t2] Tryz.func174 (by kernel_rfl) (by kernel_rfl) h
theorem n_integer_number_by_1 : Enters Tryz.prog 174 := enters_of Tryz.func174 (by kernel_rfl) rfl
theorem n_strings_makeASCIISet : Enters Tryz.prog 190 := enters_of Tryz.func190 (by kernel_rfl) rfl
def s_strings_trimLeftASCII (P : Program) (t0 t1 : Value) (w : World) (R : Ending → World → Prop) : Prop :=
 Lp1 t0 w (fun t0x1 w k1 =>
 Bt P .len #[9] 3 #[t0x1] w fun t6 w =>
 Bn P .gtr 3 true t6 (.int .i64 0) w fun t7 w =>
 If t7
 (Ix P 9 t0x1 (.int .i64 0) w fun t10 w =>
 Cl P 204 #[t1, t10] w (Pk R) fun t11 w =>
 Un P .not t11 w fun t12 w =>
 If t12
 (R (.returned t0x1) w)
 (Sc P 9 t0x1 (some (.int .i64 1)) none none w fun t14 w =>
 k1 t14 w))
 (R (.returned t0x1) w))
theorem e_strings_trimLeftASCII (h : s_strings_trimLeftASCII Tryz.prog t0 t1 w R) : Calls Tryz.prog 191 #[t0, t1] w R :=
 en1 (.sq .z (.sq (.bk (.lp [0] [5, 6, 7, 8, 9, 10, 11, 12, 13, 14] (.sq (.sq .z (.cd .z .z)) (.bk (.sq (.sq .z (.cd .z .z)) .z))))) (.sq .z .z))) [t0, t1] Tryz.func191 (by kernel_rfl) (by kernel_rfl) h
theorem n_strings_trimLeftASCII : Enters Tryz.prog 191 := enters_of Tryz.func191 (by kernel_rfl) rfl
def s_strings_trimRightASCII (P : Program) (t0 t1 : Value) (w : World) (R : Ending → World → Prop) : Prop :=
 Lp1 t0 w (fun t0x1 w k1 =>
 Bt P .len #[9] 3 #[t0x1] w fun t6 w =>
 Bn P .gtr 3 true t6 (.int .i64 0) w fun t7 w =>
 If t7
 (Bt P .len #[9] 3 #[t0x1] w fun t11 w =>
 Bn P .sub 3 true t11 (.int .i64 1) w fun t12 w =>
 Ix P 9 t0x1 t12 w fun t13 w =>
 Cl P 204 #[t1, t13] w (Pk R) fun t14 w =>
 Un P .not t14 w fun t15 w =>
 If t15
 (R (.returned t0x1) w)
 (Bt P .len #[9] 3 #[t0x1] w fun t18 w =>
 Bn P .sub 3 true t18 (.int .i64 1) w fun t19 w =>
 Sc P 9 t0x1 none (some t19) none w fun t20 w =>
 k1 t20 w))
 (R (.returned t0x1) w))
theorem e_strings_trimRightASCII (h : s_strings_trimRightASCII Tryz.prog t0 t1 w R) : Calls Tryz.prog 192 #[t0, t1] w R :=
 en1 (.sq .z (.sq (.bk (.lp [0] [5, 6, 7, 8, 9, 10, 11, 12, 13, 14, 15, 16, 17, 18, 19, 20] (.sq (.sq .z (.cd .z .z)) (.bk (.sq (.sq .z (.cd .z .z)) .z))))) (.sq .z .z))) [t0, t1] Tryz.func192 (by kernel_rfl) (by kernel_rfl) h
theorem n_strings_trimRightASCII : Enters Tryz.prog 192 := enters_of Tryz.func192 (by kernel_rfl) rfl
theorem n_strings_asciiSet_contains : Enters Tryz.prog 204 := enters_of Tryz.func204 (by kernel_rfl) rfl
end Go.Proofs.YtnkmbjedcjcccaaGreatDoor
