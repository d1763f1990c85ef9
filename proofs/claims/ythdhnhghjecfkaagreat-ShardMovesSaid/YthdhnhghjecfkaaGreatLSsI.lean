/-
  Contracts and plain lemmas. By an AI agent.
-/
import Derived.Test.YthdhnhghjecfkaaGreatEng
import Derived.Test.YthdhnhghjecfkaaGreatProg
set_option linter.unusedSimpArgs false
set_option linter.unusedVariables false
set_option linter.unusedSectionVars false
namespace Go.Proofs.YthdhnhghjecfkaaGreat
open Go Go.Eng Go.Shelf
set_option maxRecDepth 100000
variable {t0 t1 : Value} {w : World} {R : Ending → World → Prop}
def s_law37_ShardExactlyOnce (P : Program) (t0 t1 : Value) (w : World) (R : Ending → World → Prop) : Prop :=
 Cl P 7 #[] w (Pk R) fun t13 w =>
 Un P .not t13 w fun t14 w =>
 If t14
 (R (.returned (.bool false)) w)
 (Cl P 9 #[t0, (.int .i64 3)] w (Pk R) fun t17 w =>
 Bn P .add 3 true (.int .i64 2) t17 w fun t18 w =>
 Cl P 8 #[t18] w (Pk R) fun t19 w =>
 Ex t19 0 w fun t20 w =>
 Ex t19 1 w fun t21 w =>
 Al P 30 w fun t5 w =>
 Sto P 30 t5 t20 w fun w =>
 Bn P .neq 31 true t21 (.int .i64 0) w fun t23 w =>
 If t23
 (R (.returned (.bool false)) w)
 (Ld P 30 t5 w fun t24 w =>
 Bd P 38 [(0, t24)] w fun t25 w =>
 Al P 38 w fun t7 w =>
 Sto P 38 t7 t25 w fun w =>
 Lp1 (.int .i64 0) w (fun t8 w k1 =>
 Bt P .len #[22] 3 #[t1] w fun t28 w =>
 Bn P .lss 3 false t8 t28 w fun t29 w =>
 Gd t29 true (fun k => k t8 w) w fun t31 w =>
 Gd t29 true (fun k => Bn P .lss 3 true t31 (.int .i64 50) w k) w fun t32 w =>
 Pick t29 t32 (.bool false) w fun t33 w =>
 If t33
 (Fa P 38 t7 0 w fun t36 w =>
 Fa P 30 t36 1 w fun t37 w =>
 Ld P 25 t37 w fun t38 w =>
 Bt P .len #[25] 3 #[t38] w fun t39 w =>
 Bn P .neq 3 true t39 (.int .i64 8) w fun t40 w =>
 Gd t40 false (fun k => Fa P 38 t7 0 w k) w fun t42 w =>
 Gd t40 false (fun k => Fa P 30 t42 0 w k) w fun t43 w =>
 Gd t40 false (fun k => Ld P 24 t43 w k) w fun t44 w =>
 Gd t40 false (fun k => Bt P .len #[24] 3 #[t44] w k) w fun t45 w =>
 Gd t40 false (fun k => Bn P .lss 3 true t45 (.int .i64 2) w k) w fun t46 w =>
 Pick t40 (.bool true) t46 w fun t47 w =>
 If t47
 (R (.returned (.bool false)) w)
 (Jn2 (fun k2 =>
 dL P 38 t7 w.drew fun t49 =>
 dFl P 38 t7 0 w.drew fun t50 =>
 dL P 30 t50 w.drew fun t51 =>
 dIx P 22 t1 t8 w.drew fun t54 =>
 dL P 46 t54 w.drew fun t55 =>
 (Cl P 11 #[t51, t55] w.drew (Pk R) fun t56 w =>
 kLd P 38 t7 t49 w <|
 (Cl P 10 #[t49, t56] w (Pk R) fun t57 w =>
 ExP t57 0 fun t58 =>
 ExP t57 1 fun t59 =>
 Al P 38 w fun t9 w =>
 kLd P 38 t7 t49 w <|
 kLd P 30 t50 t51 w <|
 kLd P 46 t54 t55 w <|
 Sto P 38 t9 t58 w fun w =>
 k2 t9 t59 w) ∧
 (Al P 38 w fun t9x1 w =>
 kLd P 38 t7 t49 w <|
 kLd P 30 t50 t51 w <|
 kLd P 46 t54 t55 w <|
 Cl P 10 #[t49, t56] w (Pk R) fun t57x1 w =>
 ExP t57x1 0 fun t58x1 =>
 ExP t57x1 1 fun t59x1 =>
 Sto P 38 t9x1 t58x1 w fun w =>
 k2 t9x1 t59x1 w)) ∧
 (Al P 38 w.drew fun t9x2 w =>
 kLd P 38 t7 t49 w <|
 kLd P 30 t50 t51 w <|
 kLd P 46 t54 t55 w <|
 Cl P 11 #[t51, t55] w (Pk R) fun t56x1 w =>
 kLd P 38 t7 t49 w <|
 Cl P 10 #[t49, t56x1] w (Pk R) fun t57x2 w =>
 ExP t57x2 0 fun t58x2 =>
 ExP t57x2 1 fun t59x2 =>
 Sto P 38 t9x2 t58x2 w fun w =>
 k2 t9x2 t59x2 w))
 (fun t9x3 t10 w =>
 Un P .not t10 w fun t61 w =>
 If t61
 (R (.returned (.bool false)) w)
 (Ld P 38 t9x3 w fun t62 w =>
 Sto P 38 t7 t62 w fun w =>
 Bn P .add 3 true t8 (.int .i64 1) w fun t35 w =>
 k1 t35 w))))
 (Lp0 w (fun w k3 =>
 Fa P 38 t7 0 w fun t63 w =>
 Fa P 30 t63 4 w fun t64 w =>
 Ld P 28 t64 w fun t65 w =>
 Bt P .len #[28] 3 #[t65] w fun t66 w =>
 Bn P .gtr 3 true t66 (.int .i64 0) w fun t67 w =>
 If t67
 (Jn2 (fun k4 =>
 dL P 38 t7 w.drew fun t69 =>
 dFl P 38 t7 0 w.drew fun t70 =>
 dFl P 30 t70 4 w.drew fun t71 =>
 dL P 28 t71 w.drew fun t72 =>
 Dv P true (Instr.indexAt 28 t72 (.int .i64 0)) w.drew fun t73 =>
 dFl P 48 t73 0 w.drew fun t74 =>
 dL P 3 t74 w.drew fun t75 =>
 Dv P true (Instr.build 44 #[(0, (.int .i64 8)), (5, t75)]) w.drew fun t76 =>
 (Cl P 10 #[t69, t76] w.drew (Pk R) fun t77 w =>
 ExP t77 0 fun t78 =>
 ExP t77 1 fun t79 =>
 Al P 38 w fun t11 w =>
 kLd P 38 t7 t69 w <|
 kLd P 28 t71 t72 w <|
 kLd P 3 t74 t75 w <|
 Sto P 38 t11 t78 w fun w =>
 k4 t11 t79 w) ∧
 (Al P 38 w.drew fun t11x1 w =>
 kLd P 38 t7 t69 w <|
 kLd P 28 t71 t72 w <|
 kLd P 3 t74 t75 w <|
 Cl P 10 #[t69, t76] w (Pk R) fun t77x1 w =>
 ExP t77x1 0 fun t78x1 =>
 ExP t77x1 1 fun t79x1 =>
 Sto P 38 t11x1 t78x1 w fun w =>
 k4 t11x1 t79x1 w))
 (fun t11x2 t12 w =>
 Dv P true (Op.unary .not t12) w.drew fun t81 =>
 GdP t81 false (fun k => dFl P 38 t11x2 0 w.drew k) fun t83 =>
 GdP t81 false (fun k => dFl P 30 t83 4 w.drew k) fun t84 =>
 GdP t81 false (fun k => dL P 28 t84 w.drew k) fun t85 =>
 GdP t81 false (fun k => Dv P true (bV .len #[28] 3 #[t85]) w.drew k) fun t86 =>
 GdP t81 false (fun k => dFl P 38 t7 0 w.drew k) fun t87 =>
 GdP t81 false (fun k => dFl P 30 t87 4 w.drew k) fun t88 =>
 GdP t81 false (fun k => dL P 28 t88 w.drew k) fun t89 =>
 GdP t81 false (fun k => Dv P true (bV .len #[28] 3 #[t89]) w.drew k) fun t90 =>
 GdP t81 false (fun k => Dv P true (bn .eql 3 false t86 t90) w.drew k) fun t91 =>
 GdP t81 false (fun k => k t91) fun t92 =>
 GdP t92 true (fun k => dFl P 38 t11x2 0 w.drew k) fun t93 =>
 GdP t92 true (fun k => dFl P 30 t93 4 w.drew k) fun t94 =>
 GdP t92 true (fun k => dL P 28 t94 w.drew k) fun t95 =>
 GdP t92 true (fun k => Dv P true (Instr.indexAt 28 t95 (.int .i64 0)) w.drew k) fun t96 =>
 GdP t92 true (fun k => dFl P 48 t96 3 w.drew k) fun t97 =>
 GdP t92 true (fun k => dL P 3 t97 w.drew k) fun t98 =>
 GdP t92 true (fun k => dFl P 38 t7 0 w.drew k) fun t99 =>
 GdP t92 true (fun k => dFl P 30 t99 4 w.drew k) fun t100 =>
 GdP t92 true (fun k => dL P 28 t100 w.drew k) fun t101 =>
 GdP t92 true (fun k => Dv P true (Instr.indexAt 28 t101 (.int .i64 0)) w.drew k) fun t102 =>
 GdP t92 true (fun k => dFl P 48 t102 3 w.drew k) fun t103 =>
 GdP t92 true (fun k => dL P 3 t103 w.drew k) fun t104 =>
 GdP t92 true (fun k => Dv P true (bn .eql 3 false t98 t104) w.drew k) fun t105 =>
 GdP t81 false (fun k => PickP t92 t105 (.bool false) k) fun t106 =>
 PickP t81 (.bool true) t106 fun t107 =>
 If t107
 (R (.returned (.bool false)) w.drew)
 (Ld P 38 t11x2 w.drew fun t108 w =>
 Sto P 38 t7 t108 w fun w =>
 k3 w)))
 (R (.returned (.bool true)) w))))))
theorem e_law37_ShardExactlyOnce (h : s_law37_ShardExactlyOnce Tryz.prog t0 t1 w R) : Calls Tryz.prog 3 #[t0, t1] w R :=
 en1 (.sq .z (.sq (.sq .z (.cd (.sq .z .z) .z)) (.sq .z (.sq (.sq .z (.cd (.sq .z .z) .z)) (.sq .z (.sq (.sq .z (.bk (.lp [8] [4, 9, 10, 26, 27, 28, 29, 30, 31, 32, 33, 34, 35, 36, 37, 38, 39, 40, 41, 42, 43, 44, 45, 46, 47, 48, 49, 50, 51, 52, 53, 54, 55, 56, 57, 58, 59, 60, 61, 62] (.sq (.sq .z (.cd .z .z)) (.sq (.bk (.sq (.sq .z (.cd (.sq .z .z) .z)) (.jn [9, 10] [48, 49, 50, 51, 52, 53, 54, 55, 56, 57, 58, 59] (.dr (.pur false 0 (.pur true 1 (.pur false 2 (.pur true 3 (.pur true 4 (.pur true 5 (.pur false 6 (.alt (.eff 7 [0] (.alt (.eff 8 [] (.pur true 9 (.pur true 10 (.pur true 11 (.eff 12 [0, 2, 6] (.eff 13 [] (.pur true 14 .done))))))) (.eff 12 [0, 2, 6] (.eff 8 [] (.pur true 9 (.pur true 10 (.pur true 11 (.eff 13 [] (.pur true 14 .done))))))))) (.eff 12 [0, 2, 6] (.eff 7 [0] (.eff 8 [] (.pur true 9 (.pur true 10 (.pur true 11 (.eff 13 [] (.pur true 14 .done))))))))))))))))) (.sq (.sq .z (.cd (.sq .z .z) .z)) .z)))) .z))))) (.sq (.bk (.lp [] [4, 11, 12, 63, 64, 65, 66, 67, 68, 69, 70, 71, 72, 73, 74, 75, 76, 77, 78, 79, 80, 81, 82, 83, 84, 85, 86, 87, 88, 89, 90, 91, 92, 93, 94, 95, 96, 97, 98, 99, 100, 101, 102, 103, 104, 105, 106, 107, 108] (.sq (.sq .z (.cd .z .z)) (.bk (.jn [11, 12] [68, 69, 70, 71, 72, 73, 74, 75, 76, 77, 78, 79] (.dr (.pur false 0 (.pur true 1 (.pur true 2 (.pur false 3 (.pur true 4 (.pur true 5 (.pur false 6 (.pur true 7 (.alt (.eff 8 [] (.pur true 9 (.pur true 10 (.pur true 11 (.eff 12 [0, 3, 6] (.eff 13 [] (.pur true 14 .done))))))) (.eff 12 [0, 3, 6] (.eff 8 [] (.pur true 9 (.pur true 10 (.pur true 11 (.eff 13 [] (.pur true 14 .done))))))))))))))))) (.sq (.sq (.dr (.pur true 0 (.pur true 1 (.pur true 2 (.pur true 3 (.pur true 4 (.pur false 5 (.pur true 6 (.pur true 7 (.pur true 8 (.pur false 9 (.pur true 10 (.pur true 11 (.pur true 12 (.pur true 13 (.pur true 14 (.pur false 15 (.pur true 16 (.pur true 17 (.pur false 18 (.pur true 19 (.pur true 20 (.pur false 21 (.pur true 22 (.pur true 23 (.pur false 24 (.pur true 25 (.pur true 26 (.pur true 27 .done))))))))))))))))))))))))))))) (.cd (.sq .z .z) .z)) .z)))))) (.sq .z .z)))))))) [t0, t1] Tryz.func3 (by kernel_rfl) (by kernel_rfl) h
end Go.Proofs.YthdhnhghjecfkaaGreat
