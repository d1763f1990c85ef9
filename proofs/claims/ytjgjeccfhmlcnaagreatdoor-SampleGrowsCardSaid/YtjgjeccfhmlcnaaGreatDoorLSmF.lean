/-
  Contracts and plain lemmas. By an AI agent.
-/
import Derived.Test.YtjgjeccfhmlcnaaGreatDoorEng
import Derived.Test.YtjgjeccfhmlcnaaGreatDoorProg
set_option linter.unusedSimpArgs false
set_option linter.unusedVariables false
set_option linter.unusedSectionVars false
namespace Go.Proofs.YtjgjeccfhmlcnaaGreatDoor
open Go Go.Eng Go.Shelf
set_option maxRecDepth 100000
variable {t0 t1 : Value} {w : World} {R : Ending → World → Prop}
def s_law15_SampleBudget (P : Program) (t0 t1 : Value) (w : World) (R : Ending → World → Prop) : Prop :=
 Cl P 8 #[] w (Pk R) fun t23 w =>
 Cl P 9 #[t0, t1] w (Pk R) fun t27 w =>
 Ex t27 0 w fun t28 w =>
 Ex t27 1 w fun t29 w =>
 Ex t27 2 w fun t30 w =>
 Cl P 11 #[t30, t28, t29] w (Pk R) fun t35 w =>
 Ex t35 0 w fun t36 w =>
 Ex t35 1 w fun t37 w =>
 Bn P .neq 28 true t37 (.int .i64 0) w fun t39 w =>
 If t39
 (Gd t23 true (fun k => k t37 w) w fun t42 w =>
 Gd t23 true (fun k => Bn P .eql 28 true t42 (.int .i64 150) w k) w fun t43 w =>
 Pick t23 t43 (.bool false) w fun t44 w =>
 R (.returned t44) w)
 (Bt P .len #[24] 3 #[t36] w fun t46 w =>
 Bt P .len #[24] 3 #[t28] w fun t48 w =>
 Bn P .neq 3 false t46 t48 w fun t49 w =>
 If t49
 (R (.returned (.bool false)) w)
 (Cl P 21 #[(.int .i64 0), (.int .i64 1)] w (Pk R) fun t51 w =>
 Ex t51 0 w fun t52 w =>
 Ex t51 1 w fun t53 w =>
 Al P 50 w fun t11 w =>
 Sto P 50 t11 t52 w fun w =>
 Bn P .neq 28 true t53 (.int .i64 0) w fun t55 w =>
 If t55
 (R (.returned (.bool false)) w)
 (Lp2 (.bool false) (.int .i64 0) w (fun t13 t14 w k1 =>
 Bt P .len #[24] 3 #[t36] w fun t58 w =>
 Bn P .lss 3 false t14 t58 w fun t59 w =>
 If t59
 (Ia P 24 t36 t14 w fun t64 w =>
 Ld P 3 t64 w fun t65 w =>
 Bn P .lss 3 true t65 (.int .i64 1) w fun t66 w =>
 Gd t66 false (fun k => k t36 w) w fun t68 w =>
 Gd t66 false (fun k => k t14 w) w fun t69 w =>
 Gd t66 false (fun k => Ia P 24 t68 t69 w k) w fun t70 w =>
 Gd t66 false (fun k => Ld P 3 t70 w k) w fun t71 w =>
 Gd t66 false (fun k => Bn P .gtr 3 true t71 (.int .i64 1000) w k) w fun t72 w =>
 Pick t66 (.bool true) t72 w fun t73 w =>
 If t73
 (R (.returned (.bool false)) w)
 (Gd t13 false (fun k => k t36 w) w fun t76 w =>
 Gd t13 false (fun k => k t14 w) w fun t77 w =>
 Gd t13 false (fun k => Ia P 24 t76 t77 w k) w fun t78 w =>
 Gd t13 false (fun k => Ld P 3 t78 w k) w fun t79 w =>
 Gd t13 false (fun k => Bn P .gtr 3 true t79 (.int .i64 1) w k) w fun t80 w =>
 Pick t13 (.bool true) t80 w fun t81 w =>
 Jn2 (fun k2 =>
 dIx P 24 t28 t14 w.drew fun t85 =>
 dL P 3 t85 w.drew fun t86 =>
 dIx P 24 t36 t14 w.drew fun t89 =>
 dL P 3 t89 w.drew fun t90 =>
 (Cl P 21 #[t86, t90] w.drew (Pk R) fun t91 w =>
 ExP t91 0 fun t92 =>
 ExP t91 1 fun t93 =>
 Al P 50 w fun t15 w =>
 kLd P 3 t85 t86 w <|
 kLd P 3 t89 t90 w <|
 Sto P 50 t15 t92 w fun w =>
 k2 t15 t93 w) ∧
 (Al P 50 w.drew fun t15x1 w =>
 kLd P 3 t85 t86 w <|
 kLd P 3 t89 t90 w <|
 Cl P 21 #[t86, t90] w (Pk R) fun t91x1 w =>
 ExP t91x1 0 fun t92x1 =>
 ExP t91x1 1 fun t93x1 =>
 Sto P 50 t15x1 t92x1 w fun w =>
 k2 t15x1 t93x1 w))
 (fun t15x2 t16 w =>
 Ld P 50 t11 w fun t95 w =>
 Ld P 50 t15x2 w fun t96 w =>
 Cl P 27 #[t95, t96] w (Pk R) fun t97 w =>
 Ex t97 0 w fun t98 w =>
 Ex t97 1 w fun t99 w =>
 Al P 50 w fun t17 w =>
 Sto P 50 t17 t98 w fun w =>
 Bn P .neq 28 true t16 (.int .i64 0) w fun t101 w =>
 Gd t101 false (fun k => k t99 w) w fun t103 w =>
 Gd t101 false (fun k => Bn P .neq 28 true t103 (.int .i64 0) w k) w fun t104 w =>
 Pick t101 (.bool true) t104 w fun t105 w =>
 If t105
 (R (.returned (.bool false)) w)
 (Ld P 50 t17 w fun t106 w =>
 Sto P 50 t11 t106 w fun w =>
 Bn P .add 3 true t14 (.int .i64 1) w fun t61 w =>
 k1 t81 t61 w))))
 (Cl P 21 #[t30, (.int .i64 1)] w (Pk R) fun t109 w =>
 Ex t109 0 w fun t110 w =>
 Ex t109 1 w fun t111 w =>
 Al P 50 w fun t19 w =>
 Sto P 50 t19 t110 w fun w =>
 Cl P 21 #[t30, (.int .i64 2)] w (Pk R) fun t114 w =>
 Ex t114 0 w fun t115 w =>
 Ex t114 1 w fun t116 w =>
 Al P 50 w fun t21 w =>
 Sto P 50 t21 t115 w fun w =>
 Gd t23 true (fun k => k t111 w) w fun t119 w =>
 Gd t23 true (fun k => Bn P .eql 28 true t119 (.int .i64 0) w k) w fun t120 w =>
 Pick t23 t120 (.bool false) w fun t121 w =>
 Gd t121 true (fun k => k t116 w) w fun t123 w =>
 Gd t121 true (fun k => Bn P .eql 28 true t123 (.int .i64 0) w k) w fun t124 w =>
 Pick t121 t124 (.bool false) w fun t125 w =>
 Gd t125 true (fun k => Ld P 50 t11 w k) w fun t127 w =>
 Gd t125 true (fun k => Ld P 50 t19 w k) w fun t128 w =>
 Gd t125 true (fun k => Cl P 28 #[t127, t128] w (Pk R) k) w fun t129 w =>
 Gd t125 true (fun k => Bn P .leq 3 true t129 (.int .i64 0) w k) w fun t130 w =>
 Pick t125 t130 (.bool false) w fun t131 w =>
 Gd t131 true (fun k => k t13 w) w fun t133 w =>
 Gd t131 true (fun k => Un P .not t133 w k) w fun t134 w =>
 Gd t131 true (fun k => k t134 w) w fun t135 w =>
 Gd t135 false (fun k => Ld P 50 t11 w k) w fun t136 w =>
 Gd t135 false (fun k => Ld P 50 t21 w k) w fun t137 w =>
 Gd t135 false (fun k => Cl P 28 #[t136, t137] w (Pk R) k) w fun t138 w =>
 Gd t135 false (fun k => Bn P .gtr 3 true t138 (.int .i64 0) w k) w fun t139 w =>
 Gd t131 true (fun k => Pick t135 (.bool true) t139 w k) w fun t140 w =>
 Pick t131 t140 (.bool false) w fun t141 w =>
 R (.returned t141) w)))))
theorem e_law15_SampleBudget (h : s_law15_SampleBudget Tryz.prog t0 t1 w R) : Calls Tryz.prog 7 #[t0, t1] w R :=
 en1 (.sq .z (.sq .z (.sq .z (.sq .z (.sq (.sq .z (.cd (.sq .z .z) .z)) (.sq (.sq .z (.cd (.sq .z .z) .z)) (.sq .z (.sq (.sq .z (.cd (.sq .z .z) .z)) (.sq .z (.sq (.sq .z (.bk (.lp [13, 14] [4, 15, 16, 17, 18, 56, 57, 58, 59, 60, 61, 62, 63, 64, 65, 66, 67, 68, 69, 70, 71, 72, 73, 74, 75, 76, 77, 78, 79, 80, 81, 82, 83, 84, 85, 86, 87, 88, 89, 90, 91, 92, 93, 94, 95, 96, 97, 98, 99, 100, 101, 102, 103, 104, 105, 106] (.sq (.sq .z (.cd .z .z)) (.sq (.bk (.sq (.sq .z (.cd (.sq .z .z) .z)) (.sq .z (.jn [15, 16] [82, 83, 84, 85, 86, 87, 88, 89, 90, 91, 92, 93] (.dr (.pur true 0 (.pur true 1 (.pur true 2 (.pur false 3 (.pur true 4 (.pur true 5 (.pur true 6 (.pur false 7 (.alt (.eff 8 [] (.pur true 9 (.pur true 10 (.pur true 11 (.eff 12 [3, 7] (.eff 13 [] (.pur true 14 .done))))))) (.eff 12 [3, 7] (.eff 8 [] (.pur true 9 (.pur true 10 (.pur true 11 (.eff 13 [] (.pur true 14 .done))))))))))))))))) (.sq .z (.sq (.sq .z (.cd (.sq .z .z) .z)) .z)))))) .z))))) (.sq .z (.sq .z (.sq .z .z))))))))))))) [t0, t1] Tryz.func7 (by kernel_rfl) (by kernel_rfl) h
end Go.Proofs.YtjgjeccfhmlcnaaGreatDoor
