/-
  Contracts and plain lemmas. By an AI agent.
-/
import Derived.Test.YthjhkpefammjkaaGreatDoorEng
import Derived.Test.YthjhkpefammjkaaGreatDoorProg
set_option linter.unusedSimpArgs false
set_option linter.unusedVariables false
set_option linter.unusedSectionVars false
namespace Go.Proofs.YthjhkpefammjkaaGreatDoor
open Go Go.Eng Go.Shelf
set_option maxRecDepth 100000
variable {t0 t1 t2 t3 : Value} {w : World} {R : Ending → World → Prop}
def s_law25_ShareMergedMatchesReference (P : Program) (t0 t1 t2 t3 : Value) (w : World) (R : Ending → World → Prop) : Prop :=
 Bx P 44 t0 w fun t4 w =>
 Cl P 11 #[] w (Pk R) fun t19 w =>
 Un P .not t19 w fun t20 w =>
 If t20
 (R (.returned (.bool false)) w)
 (Ld P 44 t4 w fun t22 w =>
 Cl P 26 #[t22, t1] w (Pk R) fun t24 w =>
 Ex t24 0 w fun t25 w =>
 Ex t24 1 w fun t26 w =>
 Bt P .len #[22] 3 #[t2] w fun t30 w =>
 Bt P .min #[3, 3] 3 #[t30, (.int .i64 7)] w fun t31 w =>
 Sc P 22 t2 none (some t31) none w fun t32 w =>
 Bs P 25 2 [(0, t25), (1, t32)] w fun t33 w =>
 Bt P .len #[25] 3 #[t33] w fun t34 w =>
 Lp1 (.int .i64 0) w (fun t35 w k1 =>
 Bn P .lss 3 false t35 t34 w fun t36 w =>
 If t36
 (Ia P 25 t33 t35 w fun t37 w =>
 Ld P 22 t37 w fun t38 w =>
 Bt P .len #[22] 3 #[t3] w fun t42 w =>
 Bt P .min #[3, 3] 3 #[t42, (.int .i64 401)] w fun t43 w =>
 Sc P 22 t3 none (some t43) none w fun t44 w =>
 Bs P 25 2 [(0, t26), (1, t44)] w fun t45 w =>
 Bt P .len #[25] 3 #[t45] w fun t46 w =>
 Lp1 (.int .i64 0) w (fun t47 w k2 =>
 Bn P .lss 3 false t47 t46 w fun t48 w =>
 If t48
 (Ia P 25 t45 t47 w fun t49 w =>
 Ld P 22 t49 w fun t50 w =>
 Cl P 27 #[t38, t50] w (Pk R) fun t54 w =>
 Ex t54 0 w fun t55 w =>
 Ex t54 1 w fun t56 w =>
 Cl P 28 #[t38, t50] w (Pk R) fun t60 w =>
 Ex t60 0 w fun t61 w =>
 Ex t60 1 w fun t62 w =>
 Bn P .neq 27 false t56 t62 w fun t65 w =>
 Gd t65 false (fun k => k t55 w) w fun t67 w =>
 Gd t65 false (fun k => k t61 w) w fun t68 w =>
 Gd t65 false (fun k => Cl P 19 #[t67, t68] w (Pk R) k) w fun t69 w =>
 Gd t65 false (fun k => Un P .not t69 w k) w fun t70 w =>
 Pick t65 (.bool true) t70 w fun t71 w =>
 If t71
 (R (.returned (.bool false)) w)
 (Bn P .add 3 true t47 (.int .i64 1) w fun t72 w =>
 k2 t72 w))
 (Bn P .add 3 true t35 (.int .i64 1) w fun t73 w =>
 k1 t73 w)))
 (R (.returned (.bool true)) w)))
theorem e_law25_ShareMergedMatchesReference (h : s_law25_ShareMergedMatchesReference Tryz.prog t0 t1 t2 t3 w R) : Calls Tryz.prog 4 #[t0, t1, t2, t3] w R :=
 en1 (.sq .z (.sq (.sq .z (.cd (.sq .z .z) .z)) (.sq .z (.sq (.sq .z (.bk (.lp [35] [8, 12, 14, 15, 16, 17, 18, 36, 37, 38, 39, 40, 41, 42, 43, 44, 45, 46, 47, 48, 49, 50, 51, 52, 53, 54, 55, 56, 57, 58, 59, 60, 61, 62, 63, 64, 65, 66, 67, 68, 69, 70, 71, 72, 73] (.sq .z (.sq (.cd .z .z) (.sq (.bk (.sq .z (.sq .z (.bk (.lp [47] [8, 14, 15, 16, 17, 18, 48, 49, 50, 51, 52, 53, 54, 55, 56, 57, 58, 59, 60, 61, 62, 63, 64, 65, 66, 67, 68, 69, 70, 71, 72] (.sq .z (.sq (.cd .z .z) (.sq (.bk (.sq .z (.sq .z (.sq .z (.sq .z (.cd (.sq .z .z) .z)))))) .z)))))))) .z)))))) (.sq .z .z))))) [t0, t1, t2, t3] Tryz.func4 (by kernel_rfl) (by kernel_rfl) h
end Go.Proofs.YthjhkpefammjkaaGreatDoor
