/-
  Contracts and plain lemmas. By an AI agent.
-/
import Derived.Test.YtjmdnjnjepinoaaGreatDoorEng
import Derived.Test.YtjmdnjnjepinoaaGreatDoorProg
set_option linter.unusedSimpArgs false
set_option linter.unusedVariables false
set_option linter.unusedSectionVars false
namespace Go.Proofs.YtjmdnjnjepinoaaGreatDoor
open Go Go.Eng Go.Shelf
set_option maxRecDepth 100000
set_option linter.unusedVariables false
def s_law26_ContractKept (P : Program) (t0 t1 t2 t3 t4 : Value) (w : World) (R : Ending → World → Prop) : Prop :=
 Bx P 26 t0 w fun t5 w =>
 Cl P 9 #[] w (Pk R) fun t23 w =>
 Ld P 26 t5 w fun t24 w =>
 Cl P 12 #[t24] w (Pk R) fun t25 w =>
 Al P 25 w fun t12 w =>
 Sto P 25 t12 t25 w fun w =>
 Cl P 33 #[t1] w (Pk R) fun t27 w =>
 Bt P .len #[27] 3 #[t27] w fun t30 w =>
 Bn P .add 3 true t30 (.int .i64 1) w fun t31 w =>
 Cl P 23 #[t2, t31] w (Pk R) fun t32 w =>
 Ld P 25 t12 w fun t34 w =>
 Cl P 13 #[t34, t27] w (Pk R) fun t36 w =>
 Ex t36 0 w fun t37 w =>
 Ex t36 1 w fun t38 w =>
 Dv P false (Instr.loadAt 25 t12) w.drew fun t40 =>
 Dv P true (Instr.sliceAt 27 t27 none (some t32) none) w.drew fun t43 =>
 Cl P 13 #[t40, t43] w.drew (Pk R) fun t44 w =>
 ExP t44 0 fun t45 =>
 ExP t44 1 fun t46 =>
 Bn P .neq 39 true t38 (.int .i64 0) w fun t48 w =>
 Gd t48 false (fun k => k t46 w) w fun t50 w =>
 Gd t48 false (fun k => Bn P .neq 39 true t50 (.int .i64 0) w k) w fun t51 w =>
 Pick t48 (.bool true) t51 w fun t52 w =>
 Gd t52 false (fun k => k t37 w) w fun t54 w =>
 Gd t52 false (fun k => Bt P .len #[27] 3 #[t54] w k) w fun t55 w =>
 Gd t52 false (fun k => k t27 w) w fun t56 w =>
 Gd t52 false (fun k => Bt P .len #[27] 3 #[t56] w k) w fun t57 w =>
 Gd t52 false (fun k => Bn P .neq 3 false t55 t57 w k) w fun t58 w =>
 Pick t52 (.bool true) t58 w fun t59 w =>
 Gd t59 false (fun k => k t37 w) w fun t61 w =>
 Gd t59 false (fun k => k t32 w) w fun t62 w =>
 Gd t59 false (fun k => Sc P 27 t61 none (some t62) none w k) w fun t63 w =>
 Gd t59 false (fun k => k t45 w) w fun t64 w =>
 Gd t59 false (fun k => Cl P 17 #[t63, t64] w (Pk R) k) w fun t65 w =>
 Gd t59 false (fun k => Un P .not t65 w k) w fun t66 w =>
 Pick t59 (.bool true) t66 w fun t67 w =>
 Gd t67 false (fun k => k t45 w) w fun t69 w =>
 Gd t67 false (fun k => Cl P 34 #[t69] w (Pk R) k) w fun t70 w =>
 Gd t67 false (fun k => k t37 w) w fun t71 w =>
 Gd t67 false (fun k => Cl P 34 #[t71] w (Pk R) k) w fun t72 w =>
 Gd t67 false (fun k => Bn P .gtr 3 false t70 t72 w k) w fun t73 w =>
 Pick t67 (.bool true) t73 w fun t74 w =>
 If t74
 (R (.returned (.bool false)) w)
 (Bt P .len #[27] 3 #[t27] w fun t76 w =>
 Bn P .eql 3 true t76 (.int .i64 0) w fun t77 w =>
 If t77
 (R (.returned t23) w)
 (Bt P .len #[27] 3 #[t27] w fun t81 w =>
 Cl P 23 #[t3, t81] w (Pk R) fun t82 w =>
 Bs P 27 0 [] w fun t83 w =>
 Bt P .append #[27, 27] 27 #[t83, t27] w fun t85 w =>
 Jn0 (fun k1 =>
 Ia P 27 t85 t82 w fun t88 w =>
 Ld P 3 t88 w fun t89 w =>
 Bn P .gtr 3 true t89 (.int .i64 0) w fun t90 w =>
 If t90
 (Dv P true (Instr.indexAt 27 t85 t82) w.drew fun t95 =>
 Dv P false (Instr.loadAt 3 t95) w.drew fun t96 =>
 Cl P 23 #[t4, (.int .i64 100)] w.drew (Pk R) fun t98 w =>
 Ke P (Instr.loadAt 3 t95) t96 w <|
 Dv P true (bn .add 3 false t96 t98) w fun t99 =>
 Dv P true (Instr.indexAt 27 t85 t82) w fun t100 =>
 Sto P 3 t100 t99 w fun w =>
 k1 w)
 (k1 w))
 (fun w =>
 Ld P 25 t12 w fun t102 w =>
 Cl P 13 #[t102, t85] w (Pk R) fun t104 w =>
 Ex t104 0 w fun t105 w =>
 Ex t104 1 w fun t106 w =>
 Gd t23 true (fun k => k t106 w) w fun t109 w =>
 Gd t23 true (fun k => Bn P .eql 39 true t109 (.int .i64 0) w k) w fun t110 w =>
 Pick t23 t110 (.bool false) w fun t111 w =>
 Gd t111 true (fun k => k t105 w) w fun t113 w =>
 Gd t111 true (fun k => Cl P 34 #[t113] w (Pk R) k) w fun t114 w =>
 Gd t111 true (fun k => k t37 w) w fun t115 w =>
 Gd t111 true (fun k => Cl P 34 #[t115] w (Pk R) k) w fun t116 w =>
 Gd t111 true (fun k => Bn P .geq 3 false t114 t116 w k) w fun t117 w =>
 Pick t111 t117 (.bool false) w fun t118 w =>
 R (.returned t118) w)))
theorem e_law26_ContractKept {t0 t1 t2 t3 t4 : Value} {w : World} {R : Ending → World → Prop} (h : s_law26_ContractKept Tryz.prog t0 t1 t2 t3 t4 w R) : Calls Tryz.prog 7 #[t0, t1, t2, t3, t4] w R :=
 enter (h := (.sq .z (.sq .z (.sq .z (.sq .z (.sq .z (.sq .z (.sq (.dr (.pur false 0 (.pur true 1 (.pur true 2 (.pur true 3 (.eff 4 [] (.pur true 5 (.pur true 6 (.pur true 7 (.pur true 8 (.pur true 9 .done))))))))))) (.sq (.sq .z (.cd (.sq .z .z) .z)) (.sq (.sq .z (.cd (.sq .z .z) .z)) (.sq .z (.sq .z (.jn [] [86, 87, 88, 89, 90, 91, 92, 93, 94, 95, 96, 97, 98, 99, 100] (.sq .z (.cd (.dr (.pur true 0 (.pur true 1 (.pur true 2 (.pur true 3 (.pur true 4 (.pur false 5 (.pur true 6 (.eff 7 [5] (.pur true 8 (.pur true 9 (.eff 10 [] .done)))))))))))) .z)) (.sq .z (.sq .z .z))))))))))))))) (args := [t0, t1, t2, t3, t4]) Tryz.func7 (by kernel_rfl) (by kernel_rfl) (by kernel_rfl) (Eq.mp (by kernel_rfl) h)
end Go.Proofs.YtjmdnjnjepinoaaGreatDoor
