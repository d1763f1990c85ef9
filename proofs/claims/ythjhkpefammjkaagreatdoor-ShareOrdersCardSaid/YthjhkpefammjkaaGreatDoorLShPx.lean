/-
  Contracts and plain lemmas. By an AI agent.
-/
import Derived.Test.YthjhkpefammjkaaGreatDoorEng
import Derived.Test.YthjhkpefammjkaaGreatDoorProg
set_option linter.unusedSimpArgs false
set_option linter.unusedVariables false
set_option linter.unusedSectionVars false
namespace Go.Proofs.YthjhkpefammjkaaGreatDoor
open Go Go.Eng Go.Shelf
set_option maxRecDepth 100000
variable {t0 t1 t2 : Value} {w : World} {R : Ending → World → Prop}
def s_law25_ShareOrders (P : Program) (t0 t1 t2 : Value) (w : World) (R : Ending → World → Prop) : Prop :=
 Cl P 11 #[] w (Pk R) fun t19 w =>
 Un P .not t19 w fun t20 w =>
 If t20
 (R (.returned (.bool false)) w)
 (Cl P 12 #[t0, t1, t2] w (Pk R) fun t24 w =>
 Cl P 13 #[t24] w (Pk R) fun t27 w =>
 Ex t27 0 w fun t28 w =>
 Ex t27 1 w fun t29 w =>
 Bn P .neq 27 true t29 (.int .i64 0) w fun t31 w =>
 If t31
 (R (.returned (.bool false)) w)
 (Lp2 (.slice none 0 0) (.int .i64 0) w (fun t10 t11 w k1 =>
 Bt P .len #[26] 3 #[t28] w fun t34 w =>
 Bn P .lss 3 false t11 t34 w fun t35 w =>
 If t35
 (Bs P 22 1 [(0, t11)] w fun t40 w =>
 Bt P .append #[22, 22] 22 #[t10, t40] w fun t41 w =>
 Bn P .add 3 true t11 (.int .i64 1) w fun t37 w =>
 k1 t41 t37 w)
 (Bt P .len #[26] 3 #[t28] w fun t43 w =>
 Ms P 22 t43 t43 w fun t44 w =>
 Lp2 (.int .i64 0) (.bool true) w (fun t13 t14 w k2 =>
 If t14
 (Lp2 (.int .i64 0) (.int .i64 0) w (fun t15 t16 w k3 =>
 Bt P .len #[22] 3 #[t10] w fun t50 w =>
 Bn P .lss 3 false t16 t50 w fun t51 w =>
 If t51
 (Ia P 22 t10 t16 w fun t57 w =>
 Ld P 3 t57 w fun t58 w =>
 Bn P .shl 3 true (.int .i64 1) t58 w fun t59 w =>
 Bn P .or 3 false t15 t59 w fun t60 w =>
 Bt P .len #[22] 3 #[t24] w fun t63 w =>
 Bn P .geq 3 false t60 t63 w fun t64 w =>
 If t64
 (R (.returned (.bool false)) w)
 (dIx P 22 t10 t16 w.drew fun t68 =>
 dL P 3 t68 w.drew fun t69 =>
 dIx P 22 t10 t16 w.drew fun t73 =>
 dL P 3 t73 w.drew fun t74 =>
 dIx P 22 t44 t74 w.drew fun t75 =>
 dL P 3 t75 w.drew fun t76 =>
 dIx P 22 t24 t60 w.drew fun t79 =>
 dL P 3 t79 w.drew fun t80 =>
 Dv P true (bn .add 3 false t76 t80) w.drew fun t81 =>
 dIx P 22 t24 t15 w.drew fun t84 =>
 dL P 3 t84 w.drew fun t85 =>
 Dv P true (bn .sub 3 false t81 t85) w.drew fun t86 =>
 dIx P 22 t44 t69 w.drew fun t87 =>
 Sto P 3 t87 t86 w.drew fun w =>
 Bn P .add 3 true t16 (.int .i64 1) w fun t53 w =>
 k3 t60 t53 w))
 (Bn P .add 3 true t13 (.int .i64 1) w fun t90 w =>
 Cl P 32 #[t10] w (Pk R) fun t47 w =>
 k2 t90 t47 w)))
 (Lp1 (.int .i64 0) w (fun t18 w k4 =>
 Bt P .len #[26] 3 #[t28] w fun t93 w =>
 Bn P .lss 3 false t18 t93 w fun t94 w =>
 If t94
 (dIx P 26 t28 t18 w.drew fun t99 =>
 dL P 38 t99 w.drew fun t100 =>
 dIx P 22 t44 t18 w.drew fun t103 =>
 dL P 3 t103 w.drew fun t104 =>
 Cl P 22 #[t104, t13] w.drew (Pk R) fun t106 w =>
 kLd P 38 t99 t100 w <|
 Dv P false (bn .neq 38 false t100 t106) w fun t107 =>
 If t107
 (R (.returned (.bool false)) w)
 (Bn P .add 3 true t18 (.int .i64 1) w fun t96 w =>
 k4 t96 w))
 (R (.returned (.bool true)) w))))))))
theorem e_law25_ShareOrders (h : s_law25_ShareOrders Tryz.prog t0 t1 t2 w R) : Calls Tryz.prog 8 #[t0, t1, t2] w R :=
 en1 (.sq .z (.sq (.sq .z (.cd (.sq .z .z) .z)) (.sq .z (.sq .z (.sq (.sq .z (.cd (.sq .z .z) .z)) (.sq .z (.sq (.sq .z (.bk (.lp [10, 11] [32, 33, 34, 35, 36, 37, 38, 39, 40, 41] (.sq (.sq .z (.cd .z .z)) (.sq (.bk .z) .z))))) (.sq .z (.sq .z (.sq (.sq .z (.bk (.lp [13, 14] [6, 15, 16, 17, 45, 46, 47, 48, 49, 50, 51, 52, 53, 54, 55, 56, 57, 58, 59, 60, 61, 62, 63, 64, 65, 66, 67, 68, 69, 70, 71, 72, 73, 74, 75, 76, 77, 78, 79, 80, 81, 82, 83, 84, 85, 86, 87, 88, 89, 90] (.sq (.sq .z (.cd .z .z)) (.sq (.bk (.sq .z (.sq (.sq .z (.bk (.lp [15, 16] [6, 17, 48, 49, 50, 51, 52, 53, 54, 55, 56, 57, 58, 59, 60, 61, 62, 63, 64, 65, 66, 67, 68, 69, 70, 71, 72, 73, 74, 75, 76, 77, 78, 79, 80, 81, 82, 83, 84, 85, 86, 87, 88] (.sq (.sq .z (.cd .z .z)) (.sq (.bk (.sq .z (.sq (.sq .z (.cd (.sq .z .z) .z)) (.sq (.dr (.pur true 0 (.pur true 1 (.pur true 2 (.pur true 3 (.pur false 4 (.pur true 5 (.pur true 6 (.pur true 7 (.pur true 8 (.pur false 9 (.pur true 10 (.pur false 11 (.pur true 12 (.pur true 13 (.pur true 14 (.pur false 15 (.pur true 16 (.pur true 17 (.pur true 18 (.pur true 19 (.pur false 20 (.pur true 21 (.pur true 22 (.eff 23 [] .done))))))))))))))))))))))))) .z)))) .z))))) .z))) .z))))) (.sq (.sq .z (.bk (.lp [18] [6, 91, 92, 93, 94, 95, 96, 97, 98, 99, 100, 101, 102, 103, 104, 105, 106, 107] (.sq (.sq .z (.cd .z .z)) (.sq (.bk (.sq (.dr (.pur true 0 (.pur true 1 (.pur true 2 (.pur false 3 (.pur true 4 (.pur true 5 (.pur true 6 (.pur false 7 (.pur true 8 (.eff 9 [3] (.pur false 10 .done)))))))))))) (.cd (.sq .z .z) .z))) .z))))) (.sq .z .z)))))))))))) [t0, t1, t2] Tryz.func8 (by kernel_rfl) (by kernel_rfl) h
end Go.Proofs.YthjhkpefammjkaaGreatDoor
