/-
  Contracts and plain lemmas. By an AI agent.
-/
import Derived.Test.YtnkmbjedcjcccaaGreatDoorEngW
import Derived.Test.YtnkmbjedcjcccaaGreatDoorProg
set_option linter.unusedSimpArgs false
set_option linter.unusedVariables false
set_option linter.unusedSectionVars false
namespace Go.Proofs.YtnkmbjedcjcccaaGreatDoor
open Go Go.Eng Go.Shelf
set_option maxRecDepth 100000
def s_alarm_Valid (P : Program) (t0 : Value) (w : World) (R : Ending → World → Prop) : Prop :=
 Bx P 28 t0 w fun t1 w =>
 Al P 4 w fun t2 w =>
 Fa P 28 t1 0 w fun t4 w =>
 Ld P 25 t4 w fun t5 w =>
 Cl P 41 #[t5, (str [49])] w (fun c w => Df P 40 #[t2] (.panicking c) w (fun w => Rc P 4 t2 w fun r0 => R (.returned r0) w) R) fun t6 w =>
 Un P .not t6 w fun t7 w =>
 Gd t7 false (fun k => Fa P 28 t1 1 w k) w fun t9 w =>
 Gd t7 false (fun k => Ld P 26 t9 w k) w fun t10 w =>
 Gd t7 false (fun k => Bt P .len #[26] 3 #[t10] w k) w fun t11 w =>
 Gd t7 false (fun k => Bn P .gtr 3 true t11 (.int .i64 12) w k) w fun t12 w =>
 Pick t7 (.bool true) t12 w fun t13 w =>
 Gd t13 false (fun k => Fa P 28 t1 1 w k) w fun t15 w =>
 Gd t13 false (fun k => Ld P 26 t15 w k) w fun t16 w =>
 Gd t13 false (fun k => Cl P 42 #[t16, (.func (.func 43) #[] #[])] w (fun c w => Df P 40 #[t2] (.panicking c) w (fun w => Rc P 4 t2 w fun r0 => R (.returned r0) w) R) k) w fun t17 w =>
 Pick t13 (.bool true) t17 w fun t18 w =>
 If t18
 (Sto P 4 t2 (.bool false) w fun w =>
 Df P 40 #[t2] .returning w (fun w => Rc P 4 t2 w fun r0 => R (.returned r0) w) R)
 (Dv P false (Instr.loadAt 28 t1) w.drew fun t19 =>
 Dv P true (Instr.fieldAt 28 t1 0) w.drew fun t21 =>
 Dv P false (Instr.loadAt 25 t21) w.drew fun t22 =>
 Cl P 45 #[t19] w.drew (fun c w => Df P 40 #[t2] (.panicking c) w (fun w => Rc P 4 t2 w fun r0 => R (.returned r0) w) R) fun t20 w =>
 Ke P (Instr.loadAt 25 t21) t22 w <|
 Cl P 34 #[t20, t22] w (fun c w => Df P 40 #[t2] (.panicking c) w (fun w => Rc P 4 t2 w fun r0 => R (.returned r0) w) R) fun t23 w =>
 Dv P true (bn .leq 3 true t23 (.int .i64 0)) w fun t24 =>
 Sto P 4 t2 t24 w fun w =>
 Df P 40 #[t2] .returning w (fun w => Rc P 4 t2 w fun r0 => R (.returned r0) w) R)
theorem e_alarm_Valid {t0 : Value} {w : World} {R : Ending → World → Prop} (hE : Enters Tryz.prog 40) (h : s_alarm_Valid Tryz.prog t0 w R) : Calls Tryz.prog 13 #[t0] w R :=
 enterE (hA := .z) (hB := (.sq (.sq .z (.cd (.sq .z .z) .z)) (.sq (.dr (.pur false 0 (.pur true 2 (.pur false 3 (.eff 1 [3] (.eff 4 [] (.pur true 5 (.eff 6 [] .done)))))))) .z))) (args := [t0]) Tryz.func13 rfl (by kernel_rfl) (by kernel_rfl) (by kernel_rfl) (by kernel_rfl) (by kernel_rfl) hE (Eq.mp (by kernel_rfl) h)
theorem n_alarm_Valid : Enters Tryz.prog 13 := enters_of Tryz.func13 (by kernel_rfl) rfl
end Go.Proofs.YtnkmbjedcjcccaaGreatDoor
