/-
  Contracts and plain lemmas. By an AI agent.
-/
import Derived.Test.YthjhkpefammjkaaGreatDoorEng
import Derived.Test.YthjhkpefammjkaaGreatDoorProg
set_option linter.unusedSimpArgs false
set_option linter.unusedVariables false
set_option linter.unusedSectionVars false
namespace Go.Proofs.YthjhkpefammjkaaGreatDoor
open Go Go.Eng Go.Shelf
set_option maxRecDepth 100000
variable {t0 t1 t2 t3 : Value} {w : World} {R : Ending → World → Prop}
def s_law25_ShareAddsUp (P : Program) (t0 t1 t2 t3 : Value) (w : World) (R : Ending → World → Prop) : Prop :=
 Cl P 11 #[] w (Pk R) fun t15 w =>
 Un P .not t15 w fun t16 w =>
 If t16
 (R (.returned (.bool false)) w)
 (Dv P true (bV .len #[22] 3 #[t3]) w.drew fun t23 =>
 Dv P true (bV .min #[3, 3] 3 #[t23, (.int .i64 64)]) w.drew fun t24 =>
 Dv P true (Instr.sliceAt 22 t3 none (some t24) none) w.drew fun t25 =>
 Cl P 12 #[t0, t1, t2] w.drew (Pk R) fun t20 w =>
 Bs P 25 2 [(0, t20), (1, t25)] w fun t26 w =>
 Dv P true (bV .len #[25] 3 #[t26]) w fun t27 =>
 Lp1 (.int .i64 0) w (fun t28 w k1 =>
 Bn P .lss 3 false t28 t27 w fun t29 w =>
 If t29
 (Ia P 25 t26 t28 w fun t30 w =>
 Ld P 22 t30 w fun t31 w =>
 Cl P 13 #[t31] w (Pk R) fun t34 w =>
 Ex t34 0 w fun t35 w =>
 Ex t34 1 w fun t36 w =>
 Bn P .neq 27 true t36 (.int .i64 0) w fun t38 w =>
 If t38
 (Cl P 29 #[t31] w (Pk R) fun t40 w =>
 Bn P .geq 3 true t40 (.int .i64 0) w fun t41 w =>
 If t41
 (R (.returned (.bool false)) w)
 (Bn P .add 3 true t28 (.int .i64 1) w fun t70 w =>
 k1 t70 w))
 (Cl P 30 #[t35] w (Pk R) fun t44 w =>
 Ex t44 0 w fun t45 w =>
 Ex t44 1 w fun t46 w =>
 Al P 38 w fun t13 w =>
 Sto P 38 t13 t45 w fun w =>
 Dv P true (bn .neq 27 true t46 (.int .i64 0)) w.drew fun t48 =>
 GdP t48 false (fun k => dL P 38 t13 w.drew k) fun t50 =>
 GdP t48 false (fun k => k t31) fun t51 =>
 GdP t48 false (fun k => k t31) fun t52 =>
 GdP t48 false (fun k => Dv P true (bV .len #[22] 3 #[t52]) w.drew k) fun t53 =>
 GdP t48 false (fun k => Dv P true (bn .sub 3 true t53 (.int .i64 1)) w.drew k) fun t54 =>
 GdP t48 false (fun k => dIx P 22 t51 t54 w.drew k) fun t55 =>
 GdP t48 false (fun k => dL P 3 t55 w.drew k) fun t56 =>
 GdP t48 false (fun k => k t31) fun t57 =>
 GdP t48 false (fun k => Dv P true (Instr.indexAt 22 t57 (.int .i64 0)) w.drew k) fun t58 =>
 GdP t48 false (fun k => dL P 3 t58 w.drew k) fun t59 =>
 GdP t48 false (fun k => Dv P true (bn .sub 3 false t56 t59) w.drew k) fun t60 =>
 Gd t48 false (fun k => Cl P 22 #[t60, (.int .i64 1)] w.drew (Pk R) k) w.drew fun t61 w =>
 Kg t48 false P (Instr.loadAt 38 t13) t50 w <|
 GdP t48 false (fun k => Dv P false (bn .neq 38 false t50 t61) w k) fun t62 =>
 PickP t48 (.bool true) t62 fun t63 =>
 GdP t63 false (fun k => k t31) fun t65 =>
 GdP t63 false (fun k => k t35) fun t66 =>
 Gd t63 false (fun k => Cl P 24 #[t65, t66] w (Pk R) k) w fun t67 w =>
 GdP t63 false (fun k => Dv P true (Op.unary .not t67) w k) fun t68 =>
 PickP t63 (.bool true) t68 fun t69 =>
 If t69
 (R (.returned (.bool false)) w)
 (Bn P .add 3 true t28 (.int .i64 1) w fun t70x1 w =>
 k1 t70x1 w)))
 (R (.returned (.bool true)) w)))
theorem e_law25_ShareAddsUp (h : s_law25_ShareAddsUp Tryz.prog t0 t1 t2 t3 w R) : Calls Tryz.prog 5 #[t0, t1, t2, t3] w R :=
 en1 (.sq .z (.sq (.sq .z (.cd (.sq .z .z) .z)) (.sq (.sq (.dr (.pur true 0 (.pur true 1 (.pur true 2 (.pur true 4 (.pur true 5 (.pur true 6 (.pur true 7 (.pur true 8 (.pur true 11 (.eff 3 [] (.eff 9 [] (.pur true 10 .done))))))))))))) (.bk (.lp [28] [8, 10, 11, 12, 13, 14, 29, 30, 31, 32, 33, 34, 35, 36, 37, 38, 39, 40, 41, 42, 43, 44, 45, 46, 47, 48, 49, 50, 51, 52, 53, 54, 55, 56, 57, 58, 59, 60, 61, 62, 63, 64, 65, 66, 67, 68, 69, 70] (.sq .z (.sq (.cd .z .z) (.sq (.bk (.sq .z (.sq .z (.sq (.sq .z (.cd (.sq (.sq .z (.cd (.sq .z .z) .z)) .z) .z)) (.sq .z (.sq (.dr (.pur true 0 (.pur true 1 (.pur true 2 (.pur false 3 (.pur true 4 (.pur true 5 (.pur true 6 (.pur true 7 (.pur true 8 (.pur false 9 (.pur true 10 (.pur true 11 (.pur false 12 (.pur true 13 (.eff 14 [3] (.pur false 15 (.pur true 16 (.pur true 17 (.pur true 18 (.pur true 19 (.eff 20 [] (.pur true 21 (.pur true 22 .done)))))))))))))))))))))))) (.cd (.sq .z .z) .z))))))) .z)))))) (.sq .z .z)))) [t0, t1, t2, t3] Tryz.func5 (by kernel_rfl) (by kernel_rfl) h
end Go.Proofs.YthjhkpefammjkaaGreatDoor
