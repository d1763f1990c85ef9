/-
  The formulas of the program's functions, printed by a program of ours, each proved by the kernel. By an AI agent.
-/
import Derived.Test.YthpcmmfijelbaaaGreatDoorEng
import Derived.Test.YthpcmmfijelbaaaGreatDoorProg
set_option linter.unusedSimpArgs false
set_option linter.unusedVariables false
set_option linter.unusedSectionVars false
namespace Go.Proofs.YthpcmmfijelbaaaGreatDoor
open Go Go.Eng Go.Shelf
set_option maxRecDepth 100000
set_option linter.unusedVariables false
def s_law04_RationalTextMatchesReference (P : Program) (t0 t1 t2 t3 t4 : Value) (w : World) (R : Ending → World → Prop) : Prop :=
  Bx P 23 t0 w fun t5 w =>
  Bx P 24 t1 w fun t6 w =>
  Cl P 11 #[] w (Pk R) fun t26 w =>
  Ld P 24 t6 w fun t27 w =>
  Cl P 12 #[t27] w (Pk R) fun t28 w =>
  Al P 23 w fun t12 w =>
  Sto P 23 t12 t28 w fun w =>
  Dv P false (Instr.loadAt 23 t5) w.drew fun t29 =>
  Dv P false (Instr.loadAt 23 t12) w.drew fun t31 =>
  Cl P 13 #[t29] w.drew (Pk R) fun t30 w =>
  Ke P (Instr.loadAt 23 t12) t31 w <|
  Bs P 28 2 [(0, t30), (1, t31)] w fun t32 w =>
  Dv P true (bV .len #[28] 3 #[t32]) w fun t33 =>
  Lp1 (.int .i64 0) w (fun t34 w k1 =>
  Bn P .lss 3 false t34 t33 w fun t35 w =>
  If t35
  (Ia P 28 t32 t34 w fun t36 w =>
  Ld P 23 t36 w fun t37 w =>
  Al P 23 w fun t14 w =>
  Sto P 23 t14 t37 w fun w =>
  Ld P 23 t14 w fun t38 w =>
  Cl P 14 #[t38] w (Pk R) fun t39 w =>
  Cl P 15 #[t39] w (Pk R) fun t42 w =>
  Ex t42 0 w fun t43 w =>
  Ex t42 1 w fun t44 w =>
  Al P 23 w fun t16 w =>
  Sto P 23 t16 t43 w fun w =>
  Ld P 23 t14 w fun t46 w =>
  Cl P 16 #[t46] w (Pk R) fun t47 w =>
  Bn P .neq 9 false t39 t47 w fun t48 w =>
  Gd t48 false (fun k => Ld P 23 t14 w k) w fun t50 w =>
  Gd t48 false (fun k => Cl P 17 #[t50] w (Pk R) k) w fun t51 w =>
  Gd t48 false (fun k => k t44 w) w fun t52 w =>
  Gd t48 false (fun k => Bn P .eql 30 true t52 (.int .i64 0) w k) w fun t53 w =>
  Gd t48 false (fun k => k t53 w) w fun t54 w =>
  Gd t54 true (fun k => Ld P 23 t16 w k) w fun t55 w =>
  Gd t54 true (fun k => Ld P 23 t14 w k) w fun t56 w =>
  Gd t54 true (fun k => Bn P .eql 23 false t55 t56 w k) w fun t57 w =>
  Gd t48 false (fun k => Pick t54 t57 (.bool false) w k) w fun t58 w =>
  Gd t48 false (fun k => Bn P .neq 4 false t51 t58 w k) w fun t59 w =>
  Pick t48 (.bool true) t59 w fun t60 w =>
  Gd t60 false (fun k => k t39 w) w fun t62 w =>
  Gd t60 false (fun k => Bn P .eql 9 true t62 (str []) w k) w fun t63 w =>
  Gd t60 false (fun k => Ld P 23 t14 w k) w fun t64 w =>
  Gd t60 false (fun k => Cl P 17 #[t64] w (Pk R) k) w fun t65 w =>
  Gd t60 false (fun k => Bn P .eql 4 false t63 t65 w k) w fun t66 w =>
  Pick t60 (.bool true) t66 w fun t67 w =>
  If t67
  (R (.returned (.bool false)) w)
  (Bn P .add 3 true t34 (.int .i64 1) w fun t68 w =>
  k1 t68 w))
  (Ld P 23 t12 w fun t69 w =>
  Cl P 16 #[t69] w (Pk R) fun t70 w =>
  Bn P .eql 9 true t70 (str []) w fun t72 w =>
  If t72
  (R (.returned (.bool false)) w)
  (Bt P .len #[9] 3 #[t70] w fun t75 w =>
  Cl P 18 #[t2, t75] w (Pk R) fun t76 w =>
  Dv P true (bV .len #[9] 3 #[t4]) w.drew fun t79 =>
  Dv P true (bV .min #[3, 3] 3 #[t79, (.int .i64 420)]) w.drew fun t80 =>
  Dv P true (Instr.sliceAt 9 t4 none (some t80) none) w.drew fun t81 =>
  Dv P true (Instr.sliceAt 9 t70 none (some t76) none) w.drew fun t84 =>
  Dv P true (bn .add 3 true t76 (.int .i64 1)) w.drew fun t91 =>
  Dv P true (Instr.sliceAt 9 t70 (some t91) none none) w.drew fun t92 =>
  Bs P 35 1 [(0, t3)] w.drew fun t86 w =>
  Dv P false (convert 35 9 t86) w fun t87 =>
  Dv P true (bn .add 9 false t84 t87) w fun t88 =>
  Dv P true (bn .add 9 false t88 t92) w fun t93 =>
  Bs P 36 2 [(0, t81), (1, t93)] w fun t94 w =>
  Dv P true (bV .len #[36] 3 #[t94]) w fun t95 =>
  Lp1 (.int .i64 0) w (fun t96 w k2 =>
  Bn P .lss 3 false t96 t95 w fun t97 w =>
  If t97
  (Ia P 36 t94 t96 w fun t98 w =>
  Ld P 9 t98 w fun t99 w =>
  Cl P 15 #[t99] w (Pk R) fun t102 w =>
  Ex t102 0 w fun t103 w =>
  Ex t102 1 w fun t104 w =>
  Al P 23 w fun t22 w =>
  Sto P 23 t22 t103 w fun w =>
  Cl P 19 #[t99] w (Pk R) fun t107 w =>
  Ex t107 0 w fun t108 w =>
  Ex t107 1 w fun t109 w =>
  Al P 23 w fun t24 w =>
  Sto P 23 t24 t108 w fun w =>
  Ld P 23 t22 w fun t110 w =>
  Ld P 23 t24 w fun t111 w =>
  Bn P .neq 23 false t110 t111 w fun t112 w =>
  Gd t112 false (fun k => k t104 w) w fun t114 w =>
  Gd t112 false (fun k => k t109 w) w fun t115 w =>
  Gd t112 false (fun k => Bn P .neq 30 false t114 t115 w k) w fun t116 w =>
  Pick t112 (.bool true) t116 w fun t117 w =>
  Gd t117 false (fun k => k t104 w) w fun t119 w =>
  Gd t117 false (fun k => Bn P .eql 30 true t119 (.int .i64 0) w k) w fun t120 w =>
  Gd t117 false (fun k => k t120 w) w fun t121 w =>
  Gd t121 true (fun k => Ld P 23 t22 w k) w fun t122 w =>
  Gd t121 true (fun k => Cl P 14 #[t122] w (Pk R) k) w fun t123 w =>
  Gd t121 true (fun k => k t99 w) w fun t124 w =>
  Gd t121 true (fun k => Bn P .neq 9 false t123 t124 w k) w fun t125 w =>
  Gd t117 false (fun k => Pick t121 t125 (.bool false) w k) w fun t126 w =>
  Pick t117 (.bool true) t126 w fun t127 w =>
  If t127
  (R (.returned (.bool false)) w)
  (Bn P .add 3 true t96 (.int .i64 1) w fun t128 w =>
  k2 t128 w))
  (R (.returned t26) w)))))
theorem e_law04_RationalTextMatchesReference {t0 t1 t2 t3 t4 : Value} {w : World} {R : Ending → World → Prop} (h : s_law04_RationalTextMatchesReference Tryz.prog t0 t1 t2 t3 t4 w R) : Calls Tryz.prog 3 #[t0, t1, t2, t3, t4] w R :=
  enter (h := (.sq .z (.sq .z (.sq .z (.sq (.sq (.dr (.pur false 0 (.pur false 2 (.pur true 5 (.eff 1 [2] (.eff 3 [] (.pur true 4 .done))))))) (.bk (.lp [34] [10, 14, 15, 16, 17, 35, 36, 37, 38, 39, 40, 41, 42, 43, 44, 45, 46, 47, 48, 49, 50, 51, 52, 53, 54, 55, 56, 57, 58, 59, 60, 61, 62, 63, 64, 65, 66, 67, 68] (.sq .z (.sq (.cd .z .z) (.sq (.bk (.sq .z (.sq .z (.sq .z (.sq .z (.cd (.sq .z .z) .z)))))) .z)))))) (.sq .z (.sq (.sq .z (.cd (.sq .z .z) .z)) (.sq .z (.sq (.sq (.dr (.pur true 0 (.pur true 1 (.pur true 2 (.pur true 3 (.pur true 4 (.pur true 5 (.pur true 6 (.pur true 7 (.pur true 8 (.pur true 12 (.pur true 13 (.pur true 14 (.pur true 15 (.pur true 19 (.eff 9 [] (.pur false 10 (.pur true 11 (.pur true 16 (.eff 17 [] (.pur true 18 .done))))))))))))))))))))) (.bk (.lp [96] [10, 21, 22, 23, 24, 25, 97, 98, 99, 100, 101, 102, 103, 104, 105, 106, 107, 108, 109, 110, 111, 112, 113, 114, 115, 116, 117, 118, 119, 120, 121, 122, 123, 124, 125, 126, 127, 128] (.sq .z (.sq (.cd .z .z) (.sq (.bk (.sq .z (.sq .z (.sq .z (.sq .z (.cd (.sq .z .z) .z)))))) .z)))))) (.sq .z .z)))))))))) (args := [t0, t1, t2, t3, t4]) Tryz.func3 (by kernel_rfl) (by kernel_rfl) (by kernel_rfl) (Eq.mp (by kernel_rfl) h)
theorem n_law04_RationalTextMatchesReference : Enters Tryz.prog 3 := enters_of Tryz.func3 (by kernel_rfl) rfl
def s_law04_RationalLowest (P : Program) (t0 t1 t2 : Value) (w : World) (R : Ending → World → Prop) : Prop :=
  Bx P 24 t0 w fun t3 w =>
  Cl P 11 #[] w (Pk R) fun t21 w =>
  Ld P 24 t3 w fun t22 w =>
  Cl P 12 #[t22] w (Pk R) fun t23 w =>
  Al P 23 w fun t8 w =>
  Sto P 23 t8 t23 w fun w =>
  Cl P 18 #[t1, (.int .i64 1000000)] w (Pk R) fun t25 w =>
  Bn P .add 3 true (.int .i64 1) t25 w fun t26 w =>
  Jn1 (fun k1 =>
  If t2
  (Un P .neg t26 w fun t29 w =>
  k1 t29 w)
  (k1 t26 w))
  (fun t9 w =>
  Cl P 20 #[t9] w (Pk R) fun t31 w =>
  Fa P 23 t8 0 w fun t33 w =>
  Ld P 9 t33 w fun t34 w =>
  Cl P 21 #[t34, t31] w (Pk R) fun t36 w =>
  Ex t36 0 w fun t37 w =>
  Ex t36 1 w fun t38 w =>
  Fa P 23 t8 1 w fun t40 w =>
  Ld P 9 t40 w fun t41 w =>
  Cl P 21 #[t41, t31] w (Pk R) fun t43 w =>
  Ex t43 0 w fun t44 w =>
  Ex t43 1 w fun t45 w =>
  Cl P 22 #[t37, t44] w (Pk R) fun t49 w =>
  Ex t49 0 w fun t50 w =>
  Ex t49 1 w fun t51 w =>
  Al P 23 w fun t15 w =>
  Sto P 23 t15 t50 w fun w =>
  Fa P 23 t8 0 w fun t53 w =>
  Ld P 9 t53 w fun t54 w =>
  Fa P 23 t8 1 w fun t55 w =>
  Ld P 9 t55 w fun t56 w =>
  Cl P 22 #[t54, t56] w (Pk R) fun t57 w =>
  Ex t57 0 w fun t58 w =>
  Ex t57 1 w fun t59 w =>
  Al P 23 w fun t17 w =>
  Sto P 23 t17 t58 w fun w =>
  Cl P 22 #[(str [48]), t31] w (Pk R) fun t62 w =>
  Ex t62 0 w fun t63 w =>
  Ex t62 1 w fun t64 w =>
  Al P 23 w fun t19 w =>
  Sto P 23 t19 t63 w fun w =>
  GdP t21 true (fun k => k t51) fun t67 =>
  GdP t21 true (fun k => Dv P true (bn .eql 30 true t67 (.int .i64 0)) w.drew k) fun t68 =>
  PickP t21 t68 (.bool false) fun t69 =>
  GdP t69 true (fun k => k t59) fun t71 =>
  GdP t69 true (fun k => Dv P true (bn .eql 30 true t71 (.int .i64 0)) w.drew k) fun t72 =>
  PickP t69 t72 (.bool false) fun t73 =>
  GdP t73 true (fun k => k t64) fun t75 =>
  GdP t73 true (fun k => Dv P true (bn .eql 30 true t75 (.int .i64 0)) w.drew k) fun t76 =>
  PickP t73 t76 (.bool false) fun t77 =>
  GdP t77 true (fun k => Dv P false (Instr.loadAt 23 t15) w.drew k) fun t79 =>
  GdP t77 true (fun k => Dv P false (Instr.loadAt 23 t17) w.drew k) fun t80 =>
  GdP t77 true (fun k => Dv P false (bn .eql 23 false t79 t80) w.drew k) fun t81 =>
  PickP t77 t81 (.bool false) fun t82 =>
  GdP t82 true (fun k => Dv P false (Instr.loadAt 23 t15) w.drew k) fun t84 =>
  GdP t82 true (fun k => Dv P false (Instr.loadAt 23 t8) w.drew k) fun t85 =>
  GdP t82 true (fun k => Dv P false (bn .eql 23 false t84 t85) w.drew k) fun t86 =>
  PickP t82 t86 (.bool false) fun t87 =>
  GdP t87 true (fun k => Dv P false (Instr.loadAt 23 t15) w.drew k) fun t89 =>
  Gd t87 true (fun k => Cl P 17 #[t89] w.drew (Pk R) k) w.drew fun t90 w =>
  PickP t87 t90 (.bool false) fun t91 =>
  GdP t91 true (fun k => Dv P false (Instr.loadAt 23 t15) w k) fun t93 =>
  GdP t91 true (fun k => Dv P false (Instr.loadAt 23 t17) w k) fun t94 =>
  Gd t91 true (fun k => Cl P 23 #[t93, t94] w (Pk R) k) w fun t95 w =>
  GdP t91 true (fun k => Dv P true (bn .eql 3 true t95 (.int .i64 0)) w k) fun t96 =>
  PickP t91 t96 (.bool false) fun t97 =>
  GdP t97 true (fun k => Dv P false (Instr.loadAt 23 t19) w k) fun t99 =>
  Gd t97 true (fun k => Cl P 24 #[(str [48]), (str [49])] w (Pk R) k) w fun t100 w =>
  Kg t97 true P (Instr.loadAt 23 t19) t99 w <|
  GdP t97 true (fun k => Dv P false (bn .eql 23 false t99 t100) w k) fun t101 =>
  PickP t97 t101 (.bool false) fun t102 =>
  GdP t102 true (fun k => Dv P false (Instr.loadAt 23 t15) w k) fun t104 =>
  GdP t102 true (fun k => Dv P false (Instr.loadAt 23 t17) w k) fun t106 =>
  Gd t102 true (fun k => Cl P 14 #[t104] w (Pk R) k) w fun t105 w =>
  Kg t102 true P (Instr.loadAt 23 t17) t106 w <|
  Gd t102 true (fun k => Cl P 14 #[t106] w (Pk R) k) w fun t107 w =>
  GdP t102 true (fun k => Dv P true (bn .eql 9 false t105 t107) w k) fun t108 =>
  PickP t102 t108 (.bool false) fun t109 =>
  R (.returned t109) w)
theorem e_law04_RationalLowest {t0 t1 t2 : Value} {w : World} {R : Ending → World → Prop} (h : s_law04_RationalLowest Tryz.prog t0 t1 t2 w R) : Calls Tryz.prog 4 #[t0, t1, t2] w R :=
  enter (h := (.sq .z (.sq .z (.sq .z (.sq .z (.jn [9] [27, 28, 29] (.sq .z (.cd .z .z)) (.sq .z (.sq .z (.sq .z (.sq .z (.sq .z (.sq .z (.sq (.dr (.pur true 0 (.pur true 1 (.pur true 2 (.pur true 3 (.pur true 4 (.pur true 5 (.pur true 6 (.pur true 7 (.pur true 8 (.pur true 9 (.pur true 10 (.pur true 11 (.pur true 12 (.pur true 13 (.pur false 14 (.pur false 15 (.pur false 16 (.pur true 17 (.pur true 18 (.pur false 19 (.pur false 20 (.pur false 21 (.pur true 22 (.pur true 23 (.pur false 24 (.eff 25 [] (.pur true 26 (.pur true 27 (.pur false 28 (.pur false 29 (.eff 30 [] (.pur true 31 (.pur true 32 (.pur true 33 (.pur false 34 (.eff 35 [34] (.pur false 36 (.pur true 37 (.pur true 38 (.pur false 39 (.pur false 41 (.eff 40 [41] (.eff 42 [] (.pur true 43 (.pur true 44 (.pur true 45 .done))))))))))))))))))))))))))))))))))))))))))))))) .z))))))))))))) (args := [t0, t1, t2]) Tryz.func4 (by kernel_rfl) (by kernel_rfl) (by kernel_rfl) (Eq.mp (by kernel_rfl) h)
theorem n_law04_RationalLowest : Enters Tryz.prog 4 := enters_of Tryz.func4 (by kernel_rfl) rfl
def s_law04_RationalLimits (P : Program) (t0 t1 : Value) (w : World) (R : Ending → World → Prop) : Prop :=
  Cl P 11 #[] w (Pk R) fun t21 w =>
  Cl P 18 #[t0, (.int .i64 200)] w (Pk R) fun t23 w =>
  Cl P 18 #[t1, (.int .i64 200)] w (Pk R) fun t25 w =>
  Lp2 (str [49]) (.int .i64 0) w (fun t6 t7 w k1 =>
  Bn P .lss 3 false t7 t23 w fun t28 w =>
  If t28
  (Bn P .add 9 true t6 (str [48]) w fun t32 w =>
  Bn P .add 3 true t7 (.int .i64 1) w fun t30 w =>
  k1 t32 t30 w)
  (Lp2 (str [49]) (.int .i64 0) w (fun t8 t9 w k2 =>
  Bn P .lss 3 false t9 t25 w fun t35 w =>
  If t35
  (Bn P .add 9 true t8 (str [48]) w fun t39 w =>
  Bn P .add 3 true t9 (.int .i64 1) w fun t37 w =>
  k2 t39 t37 w)
  (Cl P 24 #[t6, (str [49])] w (Pk R) fun t41 w =>
  Al P 23 w fun t10 w =>
  Sto P 23 t10 t41 w fun w =>
  Cl P 24 #[t8, (str [49])] w (Pk R) fun t43 w =>
  Al P 23 w fun t11 w =>
  Sto P 23 t11 t43 w fun w =>
  Ld P 23 t10 w fun t45 w =>
  Ld P 23 t11 w fun t46 w =>
  Cl P 25 #[t45, t46] w (Pk R) fun t47 w =>
  Ex t47 0 w fun t48 w =>
  Ex t47 1 w fun t49 w =>
  Al P 23 w fun t12 w =>
  Sto P 23 t12 t48 w fun w =>
  Jn2 (fun k3 =>
  Dv P false (Instr.loadAt 23 t11) w.drew fun t52 =>
  (Cl P 24 #[(str [49]), (str [49])] w.drew (Pk R) fun t51 w =>
  Ke P (Instr.loadAt 23 t11) t52 w <|
  (Cl P 26 #[t51, t52] w (Pk R) fun t53 w =>
  ExP t53 0 fun t54 =>
  ExP t53 1 fun t55 =>
  Al P 23 w fun t14 w =>
  Ke P (Instr.loadAt 23 t11) t52 w <|
  Sto P 23 t14 t54 w fun w =>
  k3 t14 t55 w) ∧
  (Al P 23 w fun t14x1 w =>
  Ke P (Instr.loadAt 23 t11) t52 w <|
  Cl P 26 #[t51, t52] w (Pk R) fun t53x1 w =>
  ExP t53x1 0 fun t54x1 =>
  ExP t53x1 1 fun t55x1 =>
  Sto P 23 t14x1 t54x1 w fun w =>
  k3 t14x1 t55x1 w)) ∧
  (Al P 23 w.drew fun t14x2 w =>
  Ke P (Instr.loadAt 23 t11) t52 w <|
  Cl P 24 #[(str [49]), (str [49])] w (Pk R) fun t51x1 w =>
  Ke P (Instr.loadAt 23 t11) t52 w <|
  Cl P 26 #[t51x1, t52] w (Pk R) fun t53x2 w =>
  ExP t53x2 0 fun t54x2 =>
  ExP t53x2 1 fun t55x2 =>
  Sto P 23 t14x2 t54x2 w fun w =>
  k3 t14x2 t55x2 w))
  (fun t14x3 t15 w =>
  Ld P 23 t10 w fun t57 w =>
  Ld P 23 t14x3 w fun t58 w =>
  Cl P 27 #[t57, t58] w (Pk R) fun t59 w =>
  Ex t59 0 w fun t60 w =>
  Ex t59 1 w fun t61 w =>
  Al P 23 w fun t16 w =>
  Sto P 23 t16 t60 w fun w =>
  Bn P .add 3 false t23 t25 w fun t64 w =>
  Bn P .add 3 true t64 (.int .i64 1) w fun t65 w =>
  Bn P .leq 3 true t65 (.int .i64 200) w fun t66 w =>
  Bn P .eql 30 true t49 (.int .i64 0) w fun t68 w =>
  Bn P .neq 4 false t68 t66 w fun t70 w =>
  Gd t70 false (fun k => k t49 w) w fun t72 w =>
  Gd t70 false (fun k => Bn P .neq 30 true t72 (.int .i64 0) w k) w fun t73 w =>
  Gd t70 false (fun k => k t73 w) w fun t74 w =>
  Gd t74 true (fun k => k t49 w) w fun t75 w =>
  Gd t74 true (fun k => Bn P .neq 30 true t75 (.int .i64 40) w k) w fun t76 w =>
  Gd t74 true (fun k => k t76 w) w fun t77 w =>
  Gd t77 false (fun k => Ld P 23 t12 w k) w fun t78 w =>
  Gd t77 false (fun k => Bd P 23 [] w k) w fun t79 w =>
  Gd t77 false (fun k => Bn P .neq 23 false t78 t79 w k) w fun t80 w =>
  Gd t74 true (fun k => Pick t77 (.bool true) t80 w k) w fun t81 w =>
  Gd t70 false (fun k => Pick t74 t81 (.bool false) w k) w fun t82 w =>
  Pick t70 (.bool true) t82 w fun t83 w =>
  Gd t83 false (fun k => k t15 w) w fun t85 w =>
  Gd t83 false (fun k => Bn P .neq 30 true t85 (.int .i64 0) w k) w fun t86 w =>
  Pick t83 (.bool true) t86 w fun t87 w =>
  Gd t87 false (fun k => k t61 w) w fun t89 w =>
  Gd t87 false (fun k => Bn P .eql 30 true t89 (.int .i64 0) w k) w fun t90 w =>
  Gd t87 false (fun k => k t66 w) w fun t91 w =>
  Gd t87 false (fun k => Bn P .neq 4 false t90 t91 w k) w fun t92 w =>
  Pick t87 (.bool true) t92 w fun t93 w =>
  If t93
  (R (.returned (.bool false)) w)
  (Jn1 (fun k4 =>
  Bn P .lss 3 false t23 t25 w fun t96 w =>
  If t96
  (k4 (.int .i64 (-1)) w)
  (Bn P .gtr 3 false t23 t25 w fun t99 w =>
  If t99
  (k4 (.int .i64 1) w)
  (k4 (.int .i64 0) w)))
  (fun t19 w =>
  Jn1 (fun k5 =>
  Bn P .eql 3 true t23 (.int .i64 0) w fun t101 w =>
  Gd t101 true (fun k => k t25 w) w fun t103 w =>
  Gd t101 true (fun k => Bn P .eql 3 true t103 (.int .i64 0) w k) w fun t104 w =>
  Pick t101 t104 (.bool false) w fun t105 w =>
  If t105
  (k5 (.int .i64 0) w)
  (k5 (.int .i64 1) w))
  (fun t20 w =>
  Gd t21 true (fun k => Ld P 23 t10 w k) w fun t108 w =>
  Gd t21 true (fun k => Ld P 23 t11 w k) w fun t109 w =>
  Gd t21 true (fun k => Cl P 23 #[t108, t109] w (Pk R) k) w fun t110 w =>
  Gd t21 true (fun k => k t19 w) w fun t111 w =>
  Gd t21 true (fun k => Bn P .eql 3 false t110 t111 w k) w fun t112 w =>
  Pick t21 t112 (.bool false) w fun t113 w =>
  Gd t113 true (fun k => Ld P 23 t10 w k) w fun t115 w =>
  Gd t113 true (fun k => Ld P 23 t14x3 w k) w fun t116 w =>
  Gd t113 true (fun k => Cl P 23 #[t115, t116] w (Pk R) k) w fun t117 w =>
  Gd t113 true (fun k => k t20 w) w fun t118 w =>
  Gd t113 true (fun k => Bn P .eql 3 false t117 t118 w k) w fun t119 w =>
  Pick t113 t119 (.bool false) w fun t120 w =>
  R (.returned t120) w))))))))
theorem e_law04_RationalLimits {t0 t1 : Value} {w : World} {R : Ending → World → Prop} (h : s_law04_RationalLimits Tryz.prog t0 t1 w R) : Calls Tryz.prog 5 #[t0, t1] w R :=
  enter (h := (.sq .z (.sq .z (.sq .z (.sq .z (.sq .z (.sq (.sq .z (.bk (.lp [6, 7] [26, 27, 28, 29, 30, 31, 32] (.sq (.sq .z (.cd .z .z)) (.sq (.bk .z) .z))))) (.sq .z (.sq (.sq .z (.bk (.lp [8, 9] [33, 34, 35, 36, 37, 38, 39] (.sq (.sq .z (.cd .z .z)) (.sq (.bk .z) .z))))) (.sq .z (.sq .z (.sq .z (.jn [14, 15] [50, 51, 52, 53, 54, 55] (.dr (.pur false 1 (.alt (.eff 0 [1] (.alt (.eff 2 [] (.pur true 3 (.pur true 4 (.pur true 5 (.eff 6 [1] (.eff 7 [] (.pur true 8 .done))))))) (.eff 6 [1] (.eff 2 [] (.pur true 3 (.pur true 4 (.pur true 5 (.eff 7 [] (.pur true 8 .done))))))))) (.eff 6 [1] (.eff 0 [1] (.eff 2 [] (.pur true 3 (.pur true 4 (.pur true 5 (.eff 7 [] (.pur true 8 .done))))))))))) (.sq .z (.sq .z (.sq (.sq .z (.cd (.sq .z .z) .z)) (.sq .z (.jn [19] [94, 95, 96, 97, 98, 99] (.sq .z (.cd .z (.sq .z (.cd .z .z)))) (.sq .z (.jn [20] [100, 101, 102, 103, 104, 105] (.sq .z (.cd .z .z)) (.sq .z .z))))))))))))))))))))) (args := [t0, t1]) Tryz.func5 (by kernel_rfl) (by kernel_rfl) (by kernel_rfl) (Eq.mp (by kernel_rfl) h)
theorem n_law04_RationalLimits : Enters Tryz.prog 5 := enters_of Tryz.func5 (by kernel_rfl) rfl
def s_law04_RationalMatchesReference (P : Program) (t0 t1 t2 t3 t4 t5 t6 t7 : Value) (w : World) (R : Ending → World → Prop) : Prop :=
  Bx P 23 t0 w fun t8 w =>
  Bx P 23 t1 w fun t9 w =>
  Bx P 24 t2 w fun t10 w =>
  Bx P 24 t3 w fun t11 w =>
  Bx P 47 t4 w fun t12 w =>
  Cl P 11 #[] w (Pk R) fun t45 w =>
  Ld P 23 t8 w fun t46 w =>
  Cl P 13 #[t46] w (Pk R) fun t47 w =>
  Sto P 23 t8 t47 w fun w =>
  Ld P 23 t9 w fun t48 w =>
  Cl P 13 #[t48] w (Pk R) fun t49 w =>
  Sto P 23 t9 t49 w fun w =>
  Dv P false (Instr.loadAt 23 t8) w.drew fun t50 =>
  Dv P false (Instr.loadAt 23 t9) w.drew fun t51 =>
  Dv P false (Instr.loadAt 24 t10) w.drew fun t52 =>
  Dv P false (Instr.loadAt 24 t11) w.drew fun t54 =>
  Dv P false (Instr.loadAt 47 t12) w.drew fun t56 =>
  Cl P 12 #[t52] w.drew (Pk R) fun t53 w =>
  Ke P (Instr.loadAt 23 t8) t50 w <|
  Ke P (Instr.loadAt 23 t9) t51 w <|
  Ke P (Instr.loadAt 24 t11) t54 w <|
  Ke P (Instr.loadAt 47 t12) t56 w <|
  Cl P 12 #[t54] w (Pk R) fun t55 w =>
  Ke P (Instr.loadAt 23 t8) t50 w <|
  Ke P (Instr.loadAt 23 t9) t51 w <|
  Ke P (Instr.loadAt 47 t12) t56 w <|
  Cl P 28 #[t56] w (Pk R) fun t57 w =>
  Ke P (Instr.loadAt 23 t8) t50 w <|
  Ke P (Instr.loadAt 23 t9) t51 w <|
  Bs P 28 5 [(0, t50), (1, t51), (2, t53), (3, t55), (4, t57)] w fun t58 w =>
  Lp1 (.int .i64 0) w (fun t19 w k1 =>
  Bt P .len #[28] 3 #[t58] w fun t61 w =>
  Bn P .lss 3 false t19 t61 w fun t62 w =>
  If t62
  (Lp1 (.int .i64 0) w (fun t20 w k2 =>
  Bt P .len #[28] 3 #[t58] w fun t67 w =>
  Bn P .lss 3 false t20 t67 w fun t68 w =>
  If t68
  (Ia P 28 t58 t19 w fun t73 w =>
  Ld P 23 t73 w fun t74 w =>
  Al P 23 w fun t21 w =>
  Sto P 23 t21 t74 w fun w =>
  Ia P 28 t58 t20 w fun t77 w =>
  Ld P 23 t77 w fun t78 w =>
  Al P 23 w fun t22 w =>
  Sto P 23 t22 t78 w fun w =>
  Ld P 23 t21 w fun t80 w =>
  Ld P 23 t22 w fun t81 w =>
  Cl P 29 #[t80, t81] w (Pk R) fun t82 w =>
  Ex t82 0 w fun t83 w =>
  Ex t82 1 w fun t84 w =>
  Al P 49 w fun t23 w =>
  Al P 50 w fun t24 w =>
  Sto P 49 t23 t83 w fun w =>
  Sto P 50 t24 t84 w fun w =>
  Al P 49 w fun t25 w =>
  Al P 50 w fun t26 w =>
  Ld P 23 t21 w fun t86 w =>
  Ld P 23 t22 w fun t87 w =>
  Cl P 30 #[t86, t87] w (Pk R) fun t88 w =>
  Ex t88 0 w fun t89 w =>
  Ex t88 1 w fun t90 w =>
  Ia P 49 t25 (.int .i64 0) w fun t91 w =>
  Sto P 23 t91 t89 w fun w =>
  Ia P 50 t26 (.int .i64 0) w fun t92 w =>
  Sto P 30 t92 t90 w fun w =>
  Ld P 23 t21 w fun t94 w =>
  Ld P 23 t22 w fun t95 w =>
  Cl P 31 #[t94, t95] w (Pk R) fun t96 w =>
  Ex t96 0 w fun t97 w =>
  Ex t96 1 w fun t98 w =>
  Ia P 49 t25 (.int .i64 1) w fun t99 w =>
  Sto P 23 t99 t97 w fun w =>
  Ia P 50 t26 (.int .i64 1) w fun t100 w =>
  Sto P 30 t100 t98 w fun w =>
  Ld P 23 t21 w fun t102 w =>
  Ld P 23 t22 w fun t103 w =>
  Cl P 32 #[t102, t103] w (Pk R) fun t104 w =>
  Ex t104 0 w fun t105 w =>
  Ex t104 1 w fun t106 w =>
  Ia P 49 t25 (.int .i64 2) w fun t107 w =>
  Sto P 23 t107 t105 w fun w =>
  Ia P 50 t26 (.int .i64 2) w fun t108 w =>
  Sto P 30 t108 t106 w fun w =>
  Ld P 23 t21 w fun t110 w =>
  Ld P 23 t22 w fun t111 w =>
  Cl P 33 #[t110, t111] w (Pk R) fun t112 w =>
  Ex t112 0 w fun t113 w =>
  Ex t112 1 w fun t114 w =>
  Ia P 49 t25 (.int .i64 3) w fun t115 w =>
  Sto P 23 t115 t113 w fun w =>
  Ia P 50 t26 (.int .i64 3) w fun t116 w =>
  Sto P 30 t116 t114 w fun w =>
  Dv P false (Instr.loadAt 49 t23) w.drew fun t117 =>
  Dv P false (Instr.loadAt 49 t25) w.drew fun t118 =>
  Dv P false (bn .neq 49 false t117 t118) w.drew fun t119 =>
  GdP t119 false (fun k => Dv P false (Instr.loadAt 50 t24) w.drew k) fun t121 =>
  GdP t119 false (fun k => Dv P false (Instr.loadAt 50 t26) w.drew k) fun t122 =>
  GdP t119 false (fun k => Dv P false (bn .neq 50 false t121 t122) w.drew k) fun t123 =>
  PickP t119 (.bool true) t123 fun t124 =>
  GdP t124 false (fun k => Dv P false (Instr.loadAt 23 t21) w.drew k) fun t126 =>
  GdP t124 false (fun k => Dv P false (Instr.loadAt 23 t22) w.drew k) fun t127 =>
  GdP t124 false (fun k => Dv P false (Instr.loadAt 23 t21) w.drew k) fun t129 =>
  GdP t124 false (fun k => Dv P false (Instr.loadAt 23 t22) w.drew k) fun t130 =>
  Gd t124 false (fun k => Cl P 23 #[t126, t127] w.drew (Pk R) k) w.drew fun t128 w =>
  Kg t124 false P (Instr.loadAt 23 t21) t129 w <|
  Kg t124 false P (Instr.loadAt 23 t22) t130 w <|
  Gd t124 false (fun k => Cl P 34 #[t129, t130] w (Pk R) k) w fun t131 w =>
  GdP t124 false (fun k => Dv P true (bn .neq 3 false t128 t131) w k) fun t132 =>
  PickP t124 (.bool true) t132 fun t133 =>
  If t133
  (R (.returned (.bool false)) w)
  (Bn P .add 3 true t20 (.int .i64 1) w fun t70 w =>
  k2 t70 w))
  (Cl P 18 #[t7, (.int .i64 32)] w (Pk R) fun t136 w =>
  Bs P 53 2 [(0, t7), (1, t136)] w fun t137 w =>
  Bt P .len #[53] 3 #[t137] w fun t138 w =>
  Lp1 (.int .i64 0) w (fun t139 w k3 =>
  Bn P .lss 3 false t139 t138 w fun t140 w =>
  If t140
  (Ia P 53 t137 t139 w fun t141 w =>
  Ld P 3 t141 w fun t142 w =>
  Ia P 28 t58 t19 w fun t146 w =>
  Ld P 23 t146 w fun t147 w =>
  Cl P 35 #[t147, t142] w (Pk R) fun t149 w =>
  Ex t149 0 w fun t150 w =>
  Ex t149 1 w fun t151 w =>
  Al P 23 w fun t29 w =>
  Sto P 23 t29 t150 w fun w =>
  Ia P 28 t58 t19 w fun t155 w =>
  Ld P 23 t155 w fun t156 w =>
  Cl P 36 #[t156, t142] w (Pk R) fun t158 w =>
  Ex t158 0 w fun t159 w =>
  Ex t158 1 w fun t160 w =>
  Al P 23 w fun t31 w =>
  Sto P 23 t31 t159 w fun w =>
  Ia P 28 t58 t19 w fun t164 w =>
  Ld P 23 t164 w fun t165 w =>
  Cl P 37 #[t165, t142] w (Pk R) fun t167 w =>
  Ex t167 0 w fun t168 w =>
  Ex t167 1 w fun t169 w =>
  Al P 23 w fun t33 w =>
  Sto P 23 t33 t168 w fun w =>
  Ia P 28 t58 t19 w fun t173 w =>
  Ld P 23 t173 w fun t174 w =>
  Cl P 38 #[t174, t142] w (Pk R) fun t176 w =>
  Ex t176 0 w fun t177 w =>
  Ex t176 1 w fun t178 w =>
  Al P 23 w fun t35 w =>
  Sto P 23 t35 t177 w fun w =>
  Ld P 23 t29 w fun t179 w =>
  Ld P 23 t31 w fun t180 w =>
  Bn P .neq 23 false t179 t180 w fun t181 w =>
  Gd t181 false (fun k => k t151 w) w fun t183 w =>
  Gd t181 false (fun k => k t160 w) w fun t184 w =>
  Gd t181 false (fun k => Bn P .neq 30 false t183 t184 w k) w fun t185 w =>
  Pick t181 (.bool true) t185 w fun t186 w =>
  Gd t186 false (fun k => Ld P 23 t33 w k) w fun t188 w =>
  Gd t186 false (fun k => Ld P 23 t35 w k) w fun t189 w =>
  Gd t186 false (fun k => Bn P .neq 23 false t188 t189 w k) w fun t190 w =>
  Pick t186 (.bool true) t190 w fun t191 w =>
  Gd t191 false (fun k => k t169 w) w fun t193 w =>
  Gd t191 false (fun k => k t178 w) w fun t194 w =>
  Gd t191 false (fun k => Bn P .neq 30 false t193 t194 w k) w fun t195 w =>
  Pick t191 (.bool true) t195 w fun t196 w =>
  If t196
  (R (.returned (.bool false)) w)
  (Bn P .add 3 true t139 (.int .i64 1) w fun t197 w =>
  k3 t197 w))
  (Jn2 (fun k4 =>
  Dv P true (Instr.indexAt 28 t58 t19) w.drew fun t201 =>
  Dv P true (Instr.fieldAt 23 t201 0) w.drew fun t202 =>
  Dv P false (Instr.loadAt 9 t202) w.drew fun t203 =>
  Dv P true (Instr.indexAt 28 t58 (.int .i64 0)) w.drew fun t205 =>
  Dv P true (Instr.fieldAt 23 t205 1) w.drew fun t206 =>
  Dv P false (Instr.loadAt 9 t206) w.drew fun t207 =>
  (Cl P 22 #[t203, t207] w.drew (Pk R) fun t208 w =>
  ExP t208 0 fun t209 =>
  ExP t208 1 fun t210 =>
  Al P 23 w fun t37 w =>
  Ke P (Instr.loadAt 9 t202) t203 w <|
  Ke P (Instr.loadAt 9 t206) t207 w <|
  Sto P 23 t37 t209 w fun w =>
  k4 t37 t210 w) ∧
  (Al P 23 w.drew fun t37x1 w =>
  Ke P (Instr.loadAt 9 t202) t203 w <|
  Ke P (Instr.loadAt 9 t206) t207 w <|
  Cl P 22 #[t203, t207] w (Pk R) fun t208x1 w =>
  ExP t208x1 0 fun t209x1 =>
  ExP t208x1 1 fun t210x1 =>
  Sto P 23 t37x1 t209x1 w fun w =>
  k4 t37x1 t210x1 w))
  (fun t37x2 t38 w =>
  Jn2 (fun k5 =>
  Dv P true (Instr.indexAt 28 t58 t19) w.drew fun t214 =>
  Dv P true (Instr.fieldAt 23 t214 0) w.drew fun t215 =>
  Dv P false (Instr.loadAt 9 t215) w.drew fun t216 =>
  Dv P true (Instr.indexAt 28 t58 (.int .i64 0)) w.drew fun t218 =>
  Dv P true (Instr.fieldAt 23 t218 1) w.drew fun t219 =>
  Dv P false (Instr.loadAt 9 t219) w.drew fun t220 =>
  (Cl P 39 #[t216, t220] w.drew (Pk R) fun t221 w =>
  ExP t221 0 fun t222 =>
  ExP t221 1 fun t223 =>
  Al P 23 w fun t39 w =>
  Ke P (Instr.loadAt 9 t215) t216 w <|
  Ke P (Instr.loadAt 9 t219) t220 w <|
  Sto P 23 t39 t222 w fun w =>
  k5 t39 t223 w) ∧
  (Al P 23 w.drew fun t39x1 w =>
  Ke P (Instr.loadAt 9 t215) t216 w <|
  Ke P (Instr.loadAt 9 t219) t220 w <|
  Cl P 39 #[t216, t220] w (Pk R) fun t221x1 w =>
  ExP t221x1 0 fun t222x1 =>
  ExP t221x1 1 fun t223x1 =>
  Sto P 23 t39x1 t222x1 w fun w =>
  k5 t39x1 t223x1 w))
  (fun t39x2 t40 w =>
  Dv P true (Instr.indexAt 28 t58 t19) w.drew fun t226 =>
  Dv P false (Instr.loadAt 23 t226) w.drew fun t227 =>
  Dv P true (Instr.indexAt 28 t58 t19) w.drew fun t231 =>
  Dv P false (Instr.loadAt 23 t231) w.drew fun t232 =>
  Cl P 17 #[t227] w.drew (Pk R) fun t228 w =>
  Ke P (Instr.loadAt 23 t231) t232 w <|
  Cl P 40 #[t232] w (Pk R) fun t233 w =>
  Dv P true (bn .neq 4 false t228 t233) w fun t234 =>
  GdP t234 false (fun k => Dv P false (Instr.loadAt 23 t37x2) w k) fun t236 =>
  GdP t234 false (fun k => Dv P false (Instr.loadAt 23 t39x2) w k) fun t237 =>
  GdP t234 false (fun k => Dv P false (bn .neq 23 false t236 t237) w k) fun t238 =>
  PickP t234 (.bool true) t238 fun t239 =>
  GdP t239 false (fun k => k t38) fun t241 =>
  GdP t239 false (fun k => k t40) fun t242 =>
  GdP t239 false (fun k => Dv P true (bn .neq 30 false t241 t242) w k) fun t243 =>
  PickP t239 (.bool true) t243 fun t244 =>
  If t244
  (R (.returned (.bool false)) w)
  (Bn P .add 3 true t19 (.int .i64 1) w fun t64 w =>
  k1 t64 w))))))))
  (Cl P 41 #[t5, t6] w (Pk R) fun t248 w =>
  Ex t248 0 w fun t249 w =>
  Ex t248 1 w fun t250 w =>
  Al P 23 w fun t41 w =>
  Sto P 23 t41 t249 w fun w =>
  Cl P 42 #[t5, t6] w (Pk R) fun t254 w =>
  Ex t254 0 w fun t255 w =>
  Ex t254 1 w fun t256 w =>
  Al P 23 w fun t43 w =>
  Sto P 23 t43 t255 w fun w =>
  Gd t45 true (fun k => Ld P 23 t41 w k) w fun t259 w =>
  Gd t45 true (fun k => Ld P 23 t43 w k) w fun t260 w =>
  Gd t45 true (fun k => Bn P .eql 23 false t259 t260 w k) w fun t261 w =>
  Pick t45 t261 (.bool false) w fun t262 w =>
  Gd t262 true (fun k => k t250 w) w fun t264 w =>
  Gd t262 true (fun k => k t256 w) w fun t265 w =>
  Gd t262 true (fun k => Bn P .eql 30 false t264 t265 w k) w fun t266 w =>
  Pick t262 t266 (.bool false) w fun t267 w =>
  R (.returned t267) w))
theorem e_law04_RationalMatchesReference {t0 t1 t2 t3 t4 t5 t6 t7 : Value} {w : World} {R : Ending → World → Prop} (h : s_law04_RationalMatchesReference Tryz.prog t0 t1 t2 t3 t4 t5 t6 t7 w R) : Calls Tryz.prog 6 #[t0, t1, t2, t3, t4, t5, t6, t7] w R :=
  enter (h := (.sq .z (.sq .z (.sq .z (.sq .z (.sq (.dr (.pur false 0 (.pur false 1 (.pur false 2 (.pur false 4 (.pur false 6 (.eff 3 [0, 1, 4, 6] (.eff 5 [0, 1, 6] (.eff 7 [0, 1] (.eff 8 [] (.pur true 9 .done))))))))))) (.sq (.sq .z (.bk (.lp [19] [16, 20, 21, 22, 23, 24, 25, 26, 28, 29, 30, 31, 32, 33, 34, 35, 36, 37, 38, 39, 40, 59, 60, 61, 62, 63, 64, 65, 66, 67, 68, 69, 70, 71, 72, 73, 74, 75, 76, 77, 78, 79, 80, 81, 82, 83, 84, 85, 86, 87, 88, 89, 90, 91, 92, 93, 94, 95, 96, 97, 98, 99, 100, 101, 102, 103, 104, 105, 106, 107, 108, 109, 110, 111, 112, 113, 114, 115, 116, 117, 118, 119, 120, 121, 122, 123, 124, 125, 126, 127, 128, 129, 130, 131, 132, 133, 134, 135, 136, 137, 138, 139, 140, 141, 142, 143, 144, 145, 146, 147, 148, 149, 150, 151, 152, 153, 154, 155, 156, 157, 158, 159, 160, 161, 162, 163, 164, 165, 166, 167, 168, 169, 170, 171, 172, 173, 174, 175, 176, 177, 178, 179, 180, 181, 182, 183, 184, 185, 186, 187, 188, 189, 190, 191, 192, 193, 194, 195, 196, 197, 198, 199, 200, 201, 202, 203, 204, 205, 206, 207, 208, 209, 210, 211, 212, 213, 214, 215, 216, 217, 218, 219, 220, 221, 222, 223, 224, 225, 226, 227, 228, 229, 230, 231, 232, 233, 234, 235, 236, 237, 238, 239, 240, 241, 242, 243, 244] (.sq (.sq .z (.cd .z .z)) (.sq (.bk (.sq (.sq .z (.bk (.lp [20] [16, 21, 22, 23, 24, 25, 26, 65, 66, 67, 68, 69, 70, 71, 72, 73, 74, 75, 76, 77, 78, 79, 80, 81, 82, 83, 84, 85, 86, 87, 88, 89, 90, 91, 92, 93, 94, 95, 96, 97, 98, 99, 100, 101, 102, 103, 104, 105, 106, 107, 108, 109, 110, 111, 112, 113, 114, 115, 116, 117, 118, 119, 120, 121, 122, 123, 124, 125, 126, 127, 128, 129, 130, 131, 132, 133] (.sq (.sq .z (.cd .z .z)) (.sq (.bk (.sq .z (.sq .z (.sq .z (.sq .z (.sq .z (.sq .z (.sq .z (.sq .z (.sq .z (.sq (.dr (.pur false 0 (.pur false 1 (.pur false 2 (.pur true 3 (.pur false 4 (.pur false 5 (.pur false 6 (.pur true 7 (.pur true 8 (.pur false 9 (.pur false 10 (.pur false 12 (.pur false 13 (.eff 11 [12, 13] (.eff 14 [] (.pur true 15 (.pur true 16 .done)))))))))))))))))) (.cd (.sq .z .z) .z)))))))))))) .z))))) (.sq (.sq .z (.bk (.lp [139] [16, 28, 29, 30, 31, 32, 33, 34, 35, 36, 140, 141, 142, 143, 144, 145, 146, 147, 148, 149, 150, 151, 152, 153, 154, 155, 156, 157, 158, 159, 160, 161, 162, 163, 164, 165, 166, 167, 168, 169, 170, 171, 172, 173, 174, 175, 176, 177, 178, 179, 180, 181, 182, 183, 184, 185, 186, 187, 188, 189, 190, 191, 192, 193, 194, 195, 196, 197] (.sq .z (.sq (.cd .z .z) (.sq (.bk (.sq .z (.sq .z (.sq .z (.sq .z (.sq .z (.sq .z (.cd (.sq .z .z) .z)))))))) .z)))))) (.jn [37, 38] [198, 199, 200, 201, 202, 203, 204, 205, 206, 207, 208, 209, 210] (.dr (.pur true 0 (.pur true 1 (.pur true 2 (.pur true 3 (.pur false 4 (.pur true 5 (.pur true 6 (.pur true 7 (.pur false 8 (.alt (.eff 9 [] (.pur true 10 (.pur true 11 (.pur true 12 (.eff 13 [4, 8] (.eff 14 [] (.pur true 15 .done))))))) (.eff 13 [4, 8] (.eff 9 [] (.pur true 10 (.pur true 11 (.pur true 12 (.eff 14 [] (.pur true 15 .done)))))))))))))))))) (.jn [39, 40] [211, 212, 213, 214, 215, 216, 217, 218, 219, 220, 221, 222, 223] (.dr (.pur true 0 (.pur true 1 (.pur true 2 (.pur true 3 (.pur false 4 (.pur true 5 (.pur true 6 (.pur true 7 (.pur false 8 (.alt (.eff 9 [] (.pur true 10 (.pur true 11 (.pur true 12 (.eff 13 [4, 8] (.eff 14 [] (.pur true 15 .done))))))) (.eff 13 [4, 8] (.eff 9 [] (.pur true 10 (.pur true 11 (.pur true 12 (.eff 14 [] (.pur true 15 .done)))))))))))))))))) (.sq (.dr (.pur true 0 (.pur true 1 (.pur true 2 (.pur false 3 (.pur true 5 (.pur true 6 (.pur true 7 (.pur false 8 (.eff 4 [8] (.eff 9 [] (.pur true 10 (.pur true 11 (.pur false 12 (.pur false 13 (.pur false 14 (.pur true 15 (.pur true 16 (.pur true 17 (.pur true 18 (.pur true 19 (.pur true 20 .done)))))))))))))))))))))) (.cd (.sq .z .z) .z))))))) .z))))) (.sq .z (.sq .z (.sq .z .z)))))))))) (args := [t0, t1, t2, t3, t4, t5, t6, t7]) Tryz.func6 (by kernel_rfl) (by kernel_rfl) (by kernel_rfl) (Eq.mp (by kernel_rfl) h)
theorem n_law04_RationalMatchesReference : Enters Tryz.prog 6 := enters_of Tryz.func6 (by kernel_rfl) rfl
def s_law04_RationalMachine (P : Program) (t0 t1 t2 t3 : Value) (w : World) (R : Ending → World → Prop) : Prop :=
  Cl P 11 #[] w (Pk R) fun t23 w =>
  Cl P 18 #[t0, (.int .i64 60001)] w (Pk R) fun t25 w =>
  Bn P .sub 3 true t25 (.int .i64 30000) w fun t26 w =>
  Cl P 18 #[t2, (.int .i64 60001)] w (Pk R) fun t28 w =>
  Bn P .sub 3 true t28 (.int .i64 30000) w fun t29 w =>
  Cl P 18 #[t1, (.int .i64 30000)] w (Pk R) fun t31 w =>
  Bn P .add 3 true (.int .i64 1) t31 w fun t32 w =>
  Cl P 18 #[t3, (.int .i64 30000)] w (Pk R) fun t34 w =>
  Bn P .add 3 true (.int .i64 1) t34 w fun t35 w =>
  Cl P 41 #[t26, t32] w (Pk R) fun t39 w =>
  Ex t39 0 w fun t40 w =>
  Ex t39 1 w fun t41 w =>
  Al P 23 w fun t10 w =>
  Sto P 23 t10 t40 w fun w =>
  Cl P 41 #[t29, t35] w (Pk R) fun t45 w =>
  Ex t45 0 w fun t46 w =>
  Ex t45 1 w fun t47 w =>
  Al P 23 w fun t12 w =>
  Sto P 23 t12 t46 w fun w =>
  Ld P 23 t10 w fun t49 w =>
  Ld P 23 t12 w fun t50 w =>
  Cl P 29 #[t49, t50] w (Pk R) fun t51 w =>
  Ex t51 0 w fun t52 w =>
  Ex t51 1 w fun t53 w =>
  Al P 49 w fun t14 w =>
  Al P 50 w fun t15 w =>
  Sto P 49 t14 t52 w fun w =>
  Sto P 50 t15 t53 w fun w =>
  Bn P .mul 3 false t26 t35 w fun t56 w =>
  Bn P .mul 3 false t29 t32 w fun t59 w =>
  Bn P .add 3 false t56 t59 w fun t60 w =>
  Bn P .mul 3 false t32 t35 w fun t63 w =>
  Bd P 47 [(0, t60), (1, t63)] w fun t64 w =>
  Bn P .mul 3 false t26 t35 w fun t67 w =>
  Bn P .mul 3 false t29 t32 w fun t70 w =>
  Bn P .sub 3 false t67 t70 w fun t71 w =>
  Bn P .mul 3 false t32 t35 w fun t74 w =>
  Bd P 47 [(0, t71), (1, t74)] w fun t75 w =>
  Bn P .mul 3 false t26 t29 w fun t78 w =>
  Bn P .mul 3 false t32 t35 w fun t81 w =>
  Bd P 47 [(0, t78), (1, t81)] w fun t82 w =>
  Bn P .mul 3 false t26 t35 w fun t85 w =>
  Bn P .mul 3 false t32 t29 w fun t88 w =>
  Bd P 47 [(0, t85), (1, t88)] w fun t89 w =>
  Bd P 57 [(0, t64), (1, t75), (2, t82), (3, t89)] w fun t90 w =>
  Al P 57 w fun t16 w =>
  Sto P 57 t16 t90 w fun w =>
  Lp1 (.int .i64 0) w (fun t17 w k1 =>
  Bn P .lss 3 true t17 (.int .i64 4) w fun t92 w =>
  If t92
  (Bn P .eql 3 true t17 (.int .i64 3) w fun t96 w =>
  Gd t96 true (fun k => k t29 w) w fun t98 w =>
  Gd t96 true (fun k => Bn P .eql 3 true t98 (.int .i64 0) w k) w fun t99 w =>
  Pick t96 t99 (.bool false) w fun t100 w =>
  If t100
  (Ia P 50 t15 t17 w fun t102 w =>
  Ld P 30 t102 w fun t103 w =>
  Bn P .neq 30 true t103 (.int .i64 40) w fun t104 w =>
  Gd t104 false (fun k => k t17 w) w fun t106 w =>
  Gd t104 false (fun k => Ia P 49 t14 t106 w k) w fun t107 w =>
  Gd t104 false (fun k => Ld P 23 t107 w k) w fun t108 w =>
  Gd t104 false (fun k => Bd P 23 [] w k) w fun t109 w =>
  Gd t104 false (fun k => Bn P .neq 23 false t108 t109 w k) w fun t110 w =>
  Pick t104 (.bool true) t110 w fun t111 w =>
  If t111
  (R (.returned (.bool false)) w)
  (Bn P .add 3 true t17 (.int .i64 1) w fun t94 w =>
  k1 t94 w))
  (Ia P 49 t14 t17 w fun t114 w =>
  Fa P 23 t114 0 w fun t115 w =>
  Ld P 9 t115 w fun t116 w =>
  Cl P 43 #[t116] w (Pk R) fun t117 w =>
  Ex t117 0 w fun t118 w =>
  Ex t117 1 w fun t119 w =>
  Ia P 49 t14 t17 w fun t122 w =>
  Fa P 23 t122 1 w fun t123 w =>
  Ld P 9 t123 w fun t124 w =>
  Cl P 43 #[t124] w (Pk R) fun t125 w =>
  Ex t125 0 w fun t126 w =>
  Ex t125 1 w fun t127 w =>
  Dv P true (Instr.indexAt 50 t15 t17) w.drew fun t129 =>
  Dv P false (Instr.loadAt 30 t129) w.drew fun t130 =>
  Dv P true (bn .neq 30 true t130 (.int .i64 0)) w.drew fun t131 =>
  GdP t131 false (fun k => k t119) fun t133 =>
  GdP t131 false (fun k => Dv P true (bn .neq 30 true t133 (.int .i64 0)) w.drew k) fun t134 =>
  PickP t131 (.bool true) t134 fun t135 =>
  GdP t135 false (fun k => k t127) fun t137 =>
  GdP t135 false (fun k => Dv P true (bn .neq 30 true t137 (.int .i64 0)) w.drew k) fun t138 =>
  PickP t135 (.bool true) t138 fun t139 =>
  GdP t139 false (fun k => k t126) fun t141 =>
  GdP t139 false (fun k => Dv P true (bn .lss 3 true t141 (.int .i64 1)) w.drew k) fun t142 =>
  PickP t139 (.bool true) t142 fun t143 =>
  GdP t143 false (fun k => k t118) fun t145 =>
  GdP t143 false (fun k => k t17) fun t146 =>
  GdP t143 false (fun k => Dv P true (Instr.indexAt 57 t16 t146) w.drew k) fun t147 =>
  GdP t143 false (fun k => Dv P true (Instr.indexAt 47 t147 (.int .i64 1)) w.drew k) fun t148 =>
  GdP t143 false (fun k => Dv P false (Instr.loadAt 3 t148) w.drew k) fun t149 =>
  GdP t143 false (fun k => Dv P true (bn .mul 3 false t145 t149) w.drew k) fun t150 =>
  GdP t143 false (fun k => k t17) fun t151 =>
  GdP t143 false (fun k => Dv P true (Instr.indexAt 57 t16 t151) w.drew k) fun t152 =>
  GdP t143 false (fun k => Dv P true (Instr.indexAt 47 t152 (.int .i64 0)) w.drew k) fun t153 =>
  GdP t143 false (fun k => Dv P false (Instr.loadAt 3 t153) w.drew k) fun t154 =>
  GdP t143 false (fun k => k t126) fun t155 =>
  GdP t143 false (fun k => Dv P true (bn .mul 3 false t154 t155) w.drew k) fun t156 =>
  GdP t143 false (fun k => Dv P true (bn .neq 3 false t150 t156) w.drew k) fun t157 =>
  PickP t143 (.bool true) t157 fun t158 =>
  GdP t158 false (fun k => k t17) fun t160 =>
  GdP t158 false (fun k => Dv P true (Instr.indexAt 49 t14 t160) w.drew k) fun t161 =>
  GdP t158 false (fun k => Dv P false (Instr.loadAt 23 t161) w.drew k) fun t162 =>
  Gd t158 false (fun k => Cl P 17 #[t162] w.drew (Pk R) k) w.drew fun t163 w =>
  GdP t158 false (fun k => Dv P true (Op.unary .not t163) w k) fun t164 =>
  PickP t158 (.bool true) t164 fun t165 =>
  If t165
  (R (.returned (.bool false)) w)
  (Bn P .add 3 true t17 (.int .i64 1) w fun t94x1 w =>
  k1 t94x1 w)))
  (Jn1 (fun k2 =>
  Bn P .mul 3 false t26 t35 w fun t168 w =>
  Bn P .mul 3 false t29 t32 w fun t171 w =>
  Bn P .lss 3 false t168 t171 w fun t172 w =>
  If t172
  (k2 (.int .i64 (-1)) w)
  (Bn P .mul 3 false t26 t35 w fun t175 w =>
  Bn P .mul 3 false t29 t32 w fun t178 w =>
  Bn P .gtr 3 false t175 t178 w fun t179 w =>
  If t179
  (k2 (.int .i64 1) w)
  (k2 (.int .i64 0) w)))
  (fun t22 w =>
  Gd t23 true (fun k => k t41 w) w fun t182 w =>
  Gd t23 true (fun k => Bn P .eql 30 true t182 (.int .i64 0) w k) w fun t183 w =>
  Pick t23 t183 (.bool false) w fun t184 w =>
  Gd t184 true (fun k => k t47 w) w fun t186 w =>
  Gd t184 true (fun k => Bn P .eql 30 true t186 (.int .i64 0) w k) w fun t187 w =>
  Pick t184 t187 (.bool false) w fun t188 w =>
  Gd t188 true (fun k => Ld P 23 t10 w k) w fun t190 w =>
  Gd t188 true (fun k => Ld P 23 t12 w k) w fun t191 w =>
  Gd t188 true (fun k => Cl P 23 #[t190, t191] w (Pk R) k) w fun t192 w =>
  Gd t188 true (fun k => k t22 w) w fun t193 w =>
  Gd t188 true (fun k => Bn P .eql 3 false t192 t193 w k) w fun t194 w =>
  Pick t188 t194 (.bool false) w fun t195 w =>
  R (.returned t195) w)))
theorem e_law04_RationalMachine {t0 t1 t2 t3 : Value} {w : World} {R : Ending → World → Prop} (h : s_law04_RationalMachine Tryz.prog t0 t1 t2 t3 w R) : Calls Tryz.prog 7 #[t0, t1, t2, t3] w R :=
  enter (h := (.sq .z (.sq .z (.sq .z (.sq .z (.sq .z (.sq .z (.sq .z (.sq .z (.sq .z (.sq .z (.sq (.sq .z (.bk (.lp [17] [8, 18, 19, 20, 21, 91, 92, 93, 94, 95, 96, 97, 98, 99, 100, 101, 102, 103, 104, 105, 106, 107, 108, 109, 110, 111, 112, 113, 114, 115, 116, 117, 118, 119, 120, 121, 122, 123, 124, 125, 126, 127, 128, 129, 130, 131, 132, 133, 134, 135, 136, 137, 138, 139, 140, 141, 142, 143, 144, 145, 146, 147, 148, 149, 150, 151, 152, 153, 154, 155, 156, 157, 158, 159, 160, 161, 162, 163, 164, 165] (.sq (.sq .z (.cd .z .z)) (.sq (.bk (.sq (.sq .z (.cd (.sq (.sq .z (.cd (.sq .z .z) .z)) .z) .z)) (.sq .z (.sq .z (.sq (.dr (.pur true 0 (.pur true 1 (.pur false 2 (.pur true 3 (.pur true 4 (.pur true 5 (.pur true 6 (.pur true 7 (.pur true 8 (.pur true 9 (.pur true 10 (.pur true 11 (.pur true 12 (.pur true 13 (.pur true 14 (.pur true 15 (.pur true 16 (.pur true 17 (.pur true 18 (.pur true 19 (.pur true 20 (.pur false 21 (.pur true 22 (.pur true 23 (.pur true 24 (.pur true 25 (.pur false 26 (.pur true 27 (.pur true 28 (.pur true 29 (.pur true 30 (.pur true 31 (.pur true 32 (.pur true 33 (.pur false 34 (.eff 35 [] (.pur true 36 (.pur true 37 .done))))))))))))))))))))))))))))))))))))))) (.cd (.sq .z .z) .z)))))) .z))))) (.sq .z (.jn [22] [166, 167, 168, 169, 170, 171, 172, 173, 174, 175, 176, 177, 178, 179] (.sq .z (.cd .z (.sq .z (.cd .z .z)))) (.sq .z .z))))))))))))))) (args := [t0, t1, t2, t3]) Tryz.func7 (by kernel_rfl) (by kernel_rfl) (by kernel_rfl) (Eq.mp (by kernel_rfl) h)
theorem n_law04_RationalMachine : Enters Tryz.prog 7 := enters_of Tryz.func7 (by kernel_rfl) rfl
def s_law04_RationalField (P : Program) (t0 t1 t2 t3 : Value) (w : World) (R : Ending → World → Prop) : Prop :=
  Bx P 24 t0 w fun t4 w =>
  Bx P 24 t1 w fun t5 w =>
  Bx P 47 t2 w fun t6 w =>
  Cl P 11 #[] w (Pk R) fun t37 w =>
  Ia P 24 t4 (.int .i64 0) w fun t38 w =>
  Ld P 3 t38 w fun t39 w =>
  Ia P 24 t4 (.int .i64 1) w fun t40 w =>
  Ld P 3 t40 w fun t41 w =>
  Bd P 47 [(0, t39), (1, t41)] w fun t42 w =>
  Cl P 28 #[t42] w (Pk R) fun t43 w =>
  Al P 23 w fun t10 w =>
  Sto P 23 t10 t43 w fun w =>
  Ia P 24 t5 (.int .i64 0) w fun t44 w =>
  Ld P 3 t44 w fun t45 w =>
  Ia P 24 t5 (.int .i64 1) w fun t46 w =>
  Ld P 3 t46 w fun t47 w =>
  Bd P 47 [(0, t45), (1, t47)] w fun t48 w =>
  Cl P 28 #[t48] w (Pk R) fun t49 w =>
  Al P 23 w fun t11 w =>
  Sto P 23 t11 t49 w fun w =>
  Ld P 47 t6 w fun t50 w =>
  Cl P 28 #[t50] w (Pk R) fun t51 w =>
  Al P 23 w fun t12 w =>
  Sto P 23 t12 t51 w fun w =>
  Jn0 (fun k1 =>
  If t3
  (Ld P 24 t4 w fun t53 w =>
  Cl P 12 #[t53] w (Pk R) fun t54 w =>
  Sto P 23 t10 t54 w fun w =>
  Ld P 24 t5 w fun t55 w =>
  Cl P 12 #[t55] w (Pk R) fun t56 w =>
  Sto P 23 t11 t56 w fun w =>
  k1 w)
  (k1 w))
  (fun w =>
  Ld P 23 t10 w fun t58 w =>
  Ld P 23 t11 w fun t59 w =>
  Cl P 29 #[t58, t59] w (Pk R) fun t60 w =>
  Ex t60 0 w fun t61 w =>
  Ex t60 1 w fun t62 w =>
  Al P 49 w fun t13 w =>
  Al P 50 w fun t14 w =>
  Sto P 49 t13 t61 w fun w =>
  Sto P 50 t14 t62 w fun w =>
  Ld P 23 t11 w fun t64 w =>
  Ld P 23 t10 w fun t65 w =>
  Cl P 29 #[t64, t65] w (Pk R) fun t66 w =>
  Ex t66 0 w fun t67 w =>
  Ex t66 1 w fun t68 w =>
  Al P 49 w fun t15 w =>
  Al P 50 w fun t16 w =>
  Sto P 49 t15 t67 w fun w =>
  Sto P 50 t16 t68 w fun w =>
  Ia P 49 t13 (.int .i64 0) w fun t69 w =>
  Ld P 23 t69 w fun t70 w =>
  Ia P 49 t15 (.int .i64 0) w fun t71 w =>
  Ld P 23 t71 w fun t72 w =>
  Bn P .neq 23 false t70 t72 w fun t73 w =>
  Gd t73 false (fun k => Ia P 49 t13 (.int .i64 2) w k) w fun t75 w =>
  Gd t73 false (fun k => Ld P 23 t75 w k) w fun t76 w =>
  Gd t73 false (fun k => Ia P 49 t15 (.int .i64 2) w k) w fun t77 w =>
  Gd t73 false (fun k => Ld P 23 t77 w k) w fun t78 w =>
  Gd t73 false (fun k => Bn P .neq 23 false t76 t78 w k) w fun t79 w =>
  Pick t73 (.bool true) t79 w fun t80 w =>
  Gd t80 false (fun k => Ia P 50 t14 (.int .i64 0) w k) w fun t82 w =>
  Gd t80 false (fun k => Ld P 30 t82 w k) w fun t83 w =>
  Gd t80 false (fun k => Ia P 50 t16 (.int .i64 0) w k) w fun t84 w =>
  Gd t80 false (fun k => Ld P 30 t84 w k) w fun t85 w =>
  Gd t80 false (fun k => Bn P .neq 30 false t83 t85 w k) w fun t86 w =>
  Pick t80 (.bool true) t86 w fun t87 w =>
  Gd t87 false (fun k => Ia P 50 t14 (.int .i64 2) w k) w fun t89 w =>
  Gd t87 false (fun k => Ld P 30 t89 w k) w fun t90 w =>
  Gd t87 false (fun k => Ia P 50 t16 (.int .i64 2) w k) w fun t91 w =>
  Gd t87 false (fun k => Ld P 30 t91 w k) w fun t92 w =>
  Gd t87 false (fun k => Bn P .neq 30 false t90 t92 w k) w fun t93 w =>
  Pick t87 (.bool true) t93 w fun t94 w =>
  Gd t94 false (fun k => k t3 w) w fun t96 w =>
  Gd t94 false (fun k => Un P .not t96 w k) w fun t97 w =>
  Gd t94 false (fun k => k t97 w) w fun t98 w =>
  Gd t98 true (fun k => Ia P 50 t14 (.int .i64 0) w k) w fun t99 w =>
  Gd t98 true (fun k => Ld P 30 t99 w k) w fun t100 w =>
  Gd t98 true (fun k => Bn P .neq 30 true t100 (.int .i64 0) w k) w fun t101 w =>
  Gd t98 true (fun k => k t101 w) w fun t102 w =>
  Gd t102 false (fun k => Ia P 50 t14 (.int .i64 2) w k) w fun t103 w =>
  Gd t102 false (fun k => Ld P 30 t103 w k) w fun t104 w =>
  Gd t102 false (fun k => Bn P .neq 30 true t104 (.int .i64 0) w k) w fun t105 w =>
  Gd t98 true (fun k => Pick t102 (.bool true) t105 w k) w fun t106 w =>
  Gd t94 false (fun k => Pick t98 t106 (.bool false) w k) w fun t107 w =>
  Pick t94 (.bool true) t107 w fun t108 w =>
  If t108
  (R (.returned (.bool false)) w)
  (Ld P 23 t11 w fun t110 w =>
  Ld P 23 t12 w fun t111 w =>
  Cl P 29 #[t110, t111] w (Pk R) fun t112 w =>
  Ex t112 0 w fun t113 w =>
  Ex t112 1 w fun t114 w =>
  Al P 49 w fun t17 w =>
  Al P 50 w fun t18 w =>
  Sto P 49 t17 t113 w fun w =>
  Sto P 50 t18 t114 w fun w =>
  Ia P 49 t13 (.int .i64 0) w fun t116 w =>
  Ld P 23 t116 w fun t117 w =>
  Ld P 23 t12 w fun t118 w =>
  Cl P 29 #[t117, t118] w (Pk R) fun t119 w =>
  Ex t119 0 w fun t120 w =>
  Ex t119 1 w fun t121 w =>
  Al P 49 w fun t19 w =>
  Al P 50 w fun t20 w =>
  Sto P 49 t19 t120 w fun w =>
  Sto P 50 t20 t121 w fun w =>
  Ld P 23 t10 w fun t123 w =>
  Ia P 49 t17 (.int .i64 0) w fun t124 w =>
  Ld P 23 t124 w fun t125 w =>
  Cl P 27 #[t123, t125] w (Pk R) fun t126 w =>
  Ex t126 0 w fun t127 w =>
  Ex t126 1 w fun t128 w =>
  Al P 23 w fun t21 w =>
  Sto P 23 t21 t127 w fun w =>
  Ia P 50 t14 (.int .i64 0) w fun t129 w =>
  Ld P 30 t129 w fun t130 w =>
  Bn P .eql 30 true t130 (.int .i64 0) w fun t131 w =>
  Gd t131 true (fun k => Ia P 50 t18 (.int .i64 0) w k) w fun t133 w =>
  Gd t131 true (fun k => Ld P 30 t133 w k) w fun t134 w =>
  Gd t131 true (fun k => Bn P .eql 30 true t134 (.int .i64 0) w k) w fun t135 w =>
  Pick t131 t135 (.bool false) w fun t136 w =>
  Gd t136 true (fun k => Ia P 50 t20 (.int .i64 0) w k) w fun t138 w =>
  Gd t136 true (fun k => Ld P 30 t138 w k) w fun t139 w =>
  Gd t136 true (fun k => Bn P .eql 30 true t139 (.int .i64 0) w k) w fun t140 w =>
  Pick t136 t140 (.bool false) w fun t141 w =>
  Gd t141 true (fun k => k t128 w) w fun t143 w =>
  Gd t141 true (fun k => Bn P .eql 30 true t143 (.int .i64 0) w k) w fun t144 w =>
  Pick t141 t144 (.bool false) w fun t145 w =>
  Gd t145 true (fun k => Ia P 49 t19 (.int .i64 0) w k) w fun t147 w =>
  Gd t145 true (fun k => Ld P 23 t147 w k) w fun t148 w =>
  Gd t145 true (fun k => Ld P 23 t21 w k) w fun t149 w =>
  Gd t145 true (fun k => Bn P .neq 23 false t148 t149 w k) w fun t150 w =>
  Pick t145 t150 (.bool false) w fun t151 w =>
  If t151
  (R (.returned (.bool false)) w)
  (Ld P 23 t10 w fun t153 w =>
  Ia P 49 t17 (.int .i64 2) w fun t154 w =>
  Ld P 23 t154 w fun t155 w =>
  Cl P 25 #[t153, t155] w (Pk R) fun t156 w =>
  Ex t156 0 w fun t157 w =>
  Ex t156 1 w fun t158 w =>
  Al P 23 w fun t23 w =>
  Sto P 23 t23 t157 w fun w =>
  Ia P 49 t13 (.int .i64 2) w fun t160 w =>
  Ld P 23 t160 w fun t161 w =>
  Ld P 23 t12 w fun t162 w =>
  Cl P 25 #[t161, t162] w (Pk R) fun t163 w =>
  Ex t163 0 w fun t164 w =>
  Ex t163 1 w fun t165 w =>
  Al P 23 w fun t25 w =>
  Sto P 23 t25 t164 w fun w =>
  Ia P 50 t14 (.int .i64 2) w fun t166 w =>
  Ld P 30 t166 w fun t167 w =>
  Bn P .eql 30 true t167 (.int .i64 0) w fun t168 w =>
  Gd t168 true (fun k => Ia P 50 t18 (.int .i64 2) w k) w fun t170 w =>
  Gd t168 true (fun k => Ld P 30 t170 w k) w fun t171 w =>
  Gd t168 true (fun k => Bn P .eql 30 true t171 (.int .i64 0) w k) w fun t172 w =>
  Pick t168 t172 (.bool false) w fun t173 w =>
  Gd t173 true (fun k => k t158 w) w fun t175 w =>
  Gd t173 true (fun k => Bn P .eql 30 true t175 (.int .i64 0) w k) w fun t176 w =>
  Pick t173 t176 (.bool false) w fun t177 w =>
  Gd t177 true (fun k => k t165 w) w fun t179 w =>
  Gd t177 true (fun k => Bn P .eql 30 true t179 (.int .i64 0) w k) w fun t180 w =>
  Pick t177 t180 (.bool false) w fun t181 w =>
  Gd t181 true (fun k => Ld P 23 t23 w k) w fun t183 w =>
  Gd t181 true (fun k => Ld P 23 t25 w k) w fun t184 w =>
  Gd t181 true (fun k => Bn P .neq 23 false t183 t184 w k) w fun t185 w =>
  Pick t181 t185 (.bool false) w fun t186 w =>
  If t186
  (R (.returned (.bool false)) w)
  (Ld P 23 t10 w fun t188 w =>
  Ld P 23 t12 w fun t189 w =>
  Cl P 25 #[t188, t189] w (Pk R) fun t190 w =>
  Ex t190 0 w fun t191 w =>
  Ex t190 1 w fun t192 w =>
  Al P 23 w fun t27 w =>
  Sto P 23 t27 t191 w fun w =>
  Ld P 23 t27 w fun t194 w =>
  Ia P 49 t17 (.int .i64 2) w fun t195 w =>
  Ld P 23 t195 w fun t196 w =>
  Cl P 27 #[t194, t196] w (Pk R) fun t197 w =>
  Ex t197 0 w fun t198 w =>
  Ex t197 1 w fun t199 w =>
  Al P 23 w fun t29 w =>
  Sto P 23 t29 t198 w fun w =>
  Ia P 49 t13 (.int .i64 0) w fun t201 w =>
  Ld P 23 t201 w fun t202 w =>
  Ld P 23 t12 w fun t203 w =>
  Cl P 25 #[t202, t203] w (Pk R) fun t204 w =>
  Ex t204 0 w fun t205 w =>
  Ex t204 1 w fun t206 w =>
  Al P 23 w fun t31 w =>
  Sto P 23 t31 t205 w fun w =>
  Ia P 50 t14 (.int .i64 0) w fun t207 w =>
  Ld P 30 t207 w fun t208 w =>
  Bn P .eql 30 true t208 (.int .i64 0) w fun t209 w =>
  Gd t209 true (fun k => k t192 w) w fun t211 w =>
  Gd t209 true (fun k => Bn P .eql 30 true t211 (.int .i64 0) w k) w fun t212 w =>
  Pick t209 t212 (.bool false) w fun t213 w =>
  Gd t213 true (fun k => Ia P 50 t18 (.int .i64 2) w k) w fun t215 w =>
  Gd t213 true (fun k => Ld P 30 t215 w k) w fun t216 w =>
  Gd t213 true (fun k => Bn P .eql 30 true t216 (.int .i64 0) w k) w fun t217 w =>
  Pick t213 t217 (.bool false) w fun t218 w =>
  Gd t218 true (fun k => k t199 w) w fun t220 w =>
  Gd t218 true (fun k => Bn P .eql 30 true t220 (.int .i64 0) w k) w fun t221 w =>
  Pick t218 t221 (.bool false) w fun t222 w =>
  Gd t222 true (fun k => k t206 w) w fun t224 w =>
  Gd t222 true (fun k => Bn P .eql 30 true t224 (.int .i64 0) w k) w fun t225 w =>
  Pick t222 t225 (.bool false) w fun t226 w =>
  Gd t226 true (fun k => Ld P 23 t29 w k) w fun t228 w =>
  Gd t226 true (fun k => Ld P 23 t31 w k) w fun t229 w =>
  Gd t226 true (fun k => Bn P .neq 23 false t228 t229 w k) w fun t230 w =>
  Pick t226 t230 (.bool false) w fun t231 w =>
  If t231
  (R (.returned (.bool false)) w)
  (Ia P 49 t13 (.int .i64 0) w fun t233 w =>
  Ld P 23 t233 w fun t234 w =>
  Ld P 23 t11 w fun t235 w =>
  Cl P 44 #[t234, t235] w (Pk R) fun t236 w =>
  Ex t236 0 w fun t237 w =>
  Ex t236 1 w fun t238 w =>
  Al P 23 w fun t33 w =>
  Sto P 23 t33 t237 w fun w =>
  Ia P 49 t13 (.int .i64 3) w fun t240 w =>
  Ld P 23 t240 w fun t241 w =>
  Ld P 23 t11 w fun t242 w =>
  Cl P 25 #[t241, t242] w (Pk R) fun t243 w =>
  Ex t243 0 w fun t244 w =>
  Ex t243 1 w fun t245 w =>
  Al P 23 w fun t35 w =>
  Sto P 23 t35 t244 w fun w =>
  Gd t37 true (fun k => Ia P 50 t14 (.int .i64 0) w k) w fun t248 w =>
  Gd t37 true (fun k => Ld P 30 t248 w k) w fun t249 w =>
  Gd t37 true (fun k => Bn P .neq 30 true t249 (.int .i64 0) w k) w fun t250 w =>
  Gd t37 true (fun k => k t250 w) w fun t251 w =>
  Gd t251 false (fun k => k t238 w) w fun t252 w =>
  Gd t251 false (fun k => Bn P .neq 30 true t252 (.int .i64 0) w k) w fun t253 w =>
  Gd t37 true (fun k => Pick t251 (.bool true) t253 w k) w fun t254 w =>
  Gd t37 true (fun k => k t254 w) w fun t255 w =>
  Gd t255 false (fun k => Ld P 23 t33 w k) w fun t256 w =>
  Gd t255 false (fun k => Ld P 23 t10 w k) w fun t257 w =>
  Gd t255 false (fun k => Bn P .eql 23 false t256 t257 w k) w fun t258 w =>
  Gd t37 true (fun k => Pick t255 (.bool true) t258 w k) w fun t259 w =>
  Pick t37 t259 (.bool false) w fun t260 w =>
  Gd t260 true (fun k => Ia P 50 t14 (.int .i64 3) w k) w fun t262 w =>
  Gd t260 true (fun k => Ld P 30 t262 w k) w fun t263 w =>
  Gd t260 true (fun k => Bn P .neq 30 true t263 (.int .i64 0) w k) w fun t264 w =>
  Gd t260 true (fun k => k t264 w) w fun t265 w =>
  Gd t265 false (fun k => k t245 w) w fun t266 w =>
  Gd t265 false (fun k => Bn P .neq 30 true t266 (.int .i64 0) w k) w fun t267 w =>
  Gd t260 true (fun k => Pick t265 (.bool true) t267 w k) w fun t268 w =>
  Gd t260 true (fun k => k t268 w) w fun t269 w =>
  Gd t269 false (fun k => Ld P 23 t35 w k) w fun t270 w =>
  Gd t269 false (fun k => Ld P 23 t10 w k) w fun t271 w =>
  Gd t269 false (fun k => Bn P .eql 23 false t270 t271 w k) w fun t272 w =>
  Gd t260 true (fun k => Pick t269 (.bool true) t272 w k) w fun t273 w =>
  Pick t260 t273 (.bool false) w fun t274 w =>
  R (.returned t274) w)))))
theorem e_law04_RationalField {t0 t1 t2 t3 : Value} {w : World} {R : Ending → World → Prop} (h : s_law04_RationalField Tryz.prog t0 t1 t2 t3 w R) : Calls Tryz.prog 8 #[t0, t1, t2, t3] w R :=
  enter (h := (.sq .z (.sq .z (.sq .z (.sq .z (.sq .z (.jn [] [52, 53, 54, 55, 56] (.sq .z (.cd (.sq .z .z) .z)) (.sq .z (.sq .z (.sq (.sq .z (.cd (.sq .z .z) .z)) (.sq .z (.sq .z (.sq .z (.sq (.sq .z (.cd (.sq .z .z) .z)) (.sq .z (.sq .z (.sq (.sq .z (.cd (.sq .z .z) .z)) (.sq .z (.sq .z (.sq .z (.sq (.sq .z (.cd (.sq .z .z) .z)) (.sq .z (.sq .z (.sq .z .z)))))))))))))))))))))))) (args := [t0, t1, t2, t3]) Tryz.func8 (by kernel_rfl) (by kernel_rfl) (by kernel_rfl) (Eq.mp (by kernel_rfl) h)
theorem n_law04_RationalField : Enters Tryz.prog 8 := enters_of Tryz.func8 (by kernel_rfl) rfl
def s_law04_RationalOrder (P : Program) (t0 t1 t2 t3 : Value) (w : World) (R : Ending → World → Prop) : Prop :=
  Bx P 24 t0 w fun t4 w =>
  Bx P 24 t1 w fun t5 w =>
  Bx P 24 t2 w fun t6 w =>
  Bx P 47 t3 w fun t7 w =>
  Cl P 11 #[] w (Pk R) fun t23 w =>
  Ld P 24 t4 w fun t24 w =>
  Cl P 12 #[t24] w (Pk R) fun t25 w =>
  Al P 23 w fun t10 w =>
  Sto P 23 t10 t25 w fun w =>
  Ld P 24 t5 w fun t26 w =>
  Cl P 12 #[t26] w (Pk R) fun t27 w =>
  Al P 23 w fun t11 w =>
  Sto P 23 t11 t27 w fun w =>
  Ld P 24 t6 w fun t28 w =>
  Cl P 12 #[t28] w (Pk R) fun t29 w =>
  Al P 23 w fun t12 w =>
  Sto P 23 t12 t29 w fun w =>
  Ld P 47 t7 w fun t30 w =>
  Cl P 28 #[t30] w (Pk R) fun t31 w =>
  Al P 23 w fun t13 w =>
  Sto P 23 t13 t31 w fun w =>
  Ld P 23 t10 w fun t32 w =>
  Ld P 23 t11 w fun t33 w =>
  Cl P 23 #[t32, t33] w (Pk R) fun t34 w =>
  Ld P 23 t11 w fun t35 w =>
  Ld P 23 t12 w fun t36 w =>
  Cl P 23 #[t35, t36] w (Pk R) fun t37 w =>
  Ld P 23 t10 w fun t38 w =>
  Ld P 23 t12 w fun t39 w =>
  Cl P 23 #[t38, t39] w (Pk R) fun t40 w =>
  Ld P 23 t11 w fun t41 w =>
  Ld P 23 t10 w fun t42 w =>
  Cl P 23 #[t41, t42] w (Pk R) fun t43 w =>
  Un P .neg t34 w fun t45 w =>
  Bn P .neq 3 false t43 t45 w fun t46 w =>
  Gd t46 false (fun k => k t34 w) w fun t48 w =>
  Gd t46 false (fun k => Bn P .eql 3 true t48 (.int .i64 0) w k) w fun t49 w =>
  Gd t46 false (fun k => Ld P 23 t10 w k) w fun t50 w =>
  Gd t46 false (fun k => Ld P 23 t11 w k) w fun t51 w =>
  Gd t46 false (fun k => Bn P .eql 23 false t50 t51 w k) w fun t52 w =>
  Gd t46 false (fun k => Bn P .neq 4 false t49 t52 w k) w fun t53 w =>
  Pick t46 (.bool true) t53 w fun t54 w =>
  Gd t54 false (fun k => k t34 w) w fun t56 w =>
  Gd t54 false (fun k => Bn P .lss 3 true t56 (.int .i64 (-1)) w k) w fun t57 w =>
  Pick t54 (.bool true) t57 w fun t58 w =>
  Gd t58 false (fun k => k t34 w) w fun t60 w =>
  Gd t58 false (fun k => Bn P .gtr 3 true t60 (.int .i64 1) w k) w fun t61 w =>
  Pick t58 (.bool true) t61 w fun t62 w =>
  Gd t62 false (fun k => Ld P 23 t10 w k) w fun t64 w =>
  Gd t62 false (fun k => Ld P 23 t10 w k) w fun t65 w =>
  Gd t62 false (fun k => Cl P 23 #[t64, t65] w (Pk R) k) w fun t66 w =>
  Gd t62 false (fun k => Bn P .neq 3 true t66 (.int .i64 0) w k) w fun t67 w =>
  Pick t62 (.bool true) t67 w fun t68 w =>
  Gd t68 false (fun k => k t34 w) w fun t70 w =>
  Gd t68 false (fun k => Bn P .leq 3 true t70 (.int .i64 0) w k) w fun t71 w =>
  Gd t68 false (fun k => k t71 w) w fun t72 w =>
  Gd t72 true (fun k => k t37 w) w fun t73 w =>
  Gd t72 true (fun k => Bn P .leq 3 true t73 (.int .i64 0) w k) w fun t74 w =>
  Gd t68 false (fun k => Pick t72 t74 (.bool false) w k) w fun t75 w =>
  Gd t68 false (fun k => k t75 w) w fun t76 w =>
  Gd t76 true (fun k => k t40 w) w fun t77 w =>
  Gd t76 true (fun k => Bn P .gtr 3 true t77 (.int .i64 0) w k) w fun t78 w =>
  Gd t68 false (fun k => Pick t76 t78 (.bool false) w k) w fun t79 w =>
  Pick t68 (.bool true) t79 w fun t80 w =>
  Gd t80 false (fun k => k t34 w) w fun t82 w =>
  Gd t80 false (fun k => Bn P .leq 3 true t82 (.int .i64 0) w k) w fun t83 w =>
  Gd t80 false (fun k => k t83 w) w fun t84 w =>
  Gd t84 true (fun k => k t37 w) w fun t85 w =>
  Gd t84 true (fun k => Bn P .lss 3 true t85 (.int .i64 0) w k) w fun t86 w =>
  Gd t80 false (fun k => Pick t84 t86 (.bool false) w k) w fun t87 w =>
  Gd t80 false (fun k => k t87 w) w fun t88 w =>
  Gd t88 true (fun k => k t40 w) w fun t89 w =>
  Gd t88 true (fun k => Bn P .geq 3 true t89 (.int .i64 0) w k) w fun t90 w =>
  Gd t80 false (fun k => Pick t88 t90 (.bool false) w k) w fun t91 w =>
  Pick t80 (.bool true) t91 w fun t92 w =>
  If t92
  (R (.returned (.bool false)) w)
  (Ld P 23 t10 w fun t94 w =>
  Ld P 23 t11 w fun t95 w =>
  Cl P 44 #[t94, t95] w (Pk R) fun t96 w =>
  Ex t96 0 w fun t97 w =>
  Ex t96 1 w fun t98 w =>
  Al P 23 w fun t17 w =>
  Sto P 23 t17 t97 w fun w =>
  Dv P true (bn .eql 30 true t98 (.int .i64 0)) w.drew fun t100 =>
  GdP t100 true (fun k => Dv P false (Instr.loadAt 23 t17) w.drew k) fun t102 =>
  GdP t100 true (fun k => k t34) fun t105 =>
  Gd t100 true (fun k => Cl P 24 #[(str [48]), (str [49])] w.drew (Pk R) k) w.drew fun t103 w =>
  Kg t100 true P (Instr.loadAt 23 t17) t102 w <|
  Gd t100 true (fun k => Cl P 23 #[t102, t103] w (Pk R) k) w fun t104 w =>
  GdP t100 true (fun k => Dv P true (bn .neq 3 false t104 t105) w k) fun t106 =>
  PickP t100 t106 (.bool false) fun t107 =>
  If t107
  (R (.returned (.bool false)) w)
  (Ld P 23 t10 w fun t109 w =>
  Ld P 23 t13 w fun t110 w =>
  Cl P 27 #[t109, t110] w (Pk R) fun t111 w =>
  Ex t111 0 w fun t112 w =>
  Ex t111 1 w fun t113 w =>
  Al P 23 w fun t19 w =>
  Sto P 23 t19 t112 w fun w =>
  Ld P 23 t11 w fun t115 w =>
  Ld P 23 t13 w fun t116 w =>
  Cl P 27 #[t115, t116] w (Pk R) fun t117 w =>
  Ex t117 0 w fun t118 w =>
  Ex t117 1 w fun t119 w =>
  Al P 23 w fun t21 w =>
  Sto P 23 t21 t118 w fun w =>
  Bn P .eql 30 true t113 (.int .i64 0) w fun t121 w =>
  Gd t121 true (fun k => k t119 w) w fun t123 w =>
  Gd t121 true (fun k => Bn P .eql 30 true t123 (.int .i64 0) w k) w fun t124 w =>
  Pick t121 t124 (.bool false) w fun t125 w =>
  Gd t125 true (fun k => Ld P 23 t19 w k) w fun t127 w =>
  Gd t125 true (fun k => Ld P 23 t21 w k) w fun t128 w =>
  Gd t125 true (fun k => Cl P 23 #[t127, t128] w (Pk R) k) w fun t129 w =>
  Gd t125 true (fun k => k t34 w) w fun t130 w =>
  Gd t125 true (fun k => Bn P .neq 3 false t129 t130 w k) w fun t131 w =>
  Pick t125 t131 (.bool false) w fun t132 w =>
  If t132
  (R (.returned (.bool false)) w)
  (Ld P 23 t10 w fun t134 w =>
  Ld P 23 t13 w fun t135 w =>
  Cl P 25 #[t134, t135] w (Pk R) fun t136 w =>
  Ex t136 0 w fun t137 w =>
  Ex t136 1 w fun t138 w =>
  Sto P 23 t19 t137 w fun w =>
  Ld P 23 t11 w fun t140 w =>
  Ld P 23 t13 w fun t141 w =>
  Cl P 25 #[t140, t141] w (Pk R) fun t142 w =>
  Ex t142 0 w fun t143 w =>
  Ex t142 1 w fun t144 w =>
  Sto P 23 t21 t143 w fun w =>
  GdP t23 true (fun k => k t138) fun t147 =>
  GdP t23 true (fun k => Dv P true (bn .neq 30 true t147 (.int .i64 0)) w.drew k) fun t148 =>
  GdP t23 true (fun k => k t148) fun t149 =>
  GdP t149 false (fun k => k t144) fun t150 =>
  GdP t149 false (fun k => Dv P true (bn .neq 30 true t150 (.int .i64 0)) w.drew k) fun t151 =>
  GdP t23 true (fun k => PickP t149 (.bool true) t151 k) fun t152 =>
  GdP t23 true (fun k => k t152) fun t153 =>
  GdP t153 false (fun k => Dv P false (Instr.loadAt 23 t19) w.drew k) fun t154 =>
  GdP t153 false (fun k => Dv P false (Instr.loadAt 23 t21) w.drew k) fun t155 =>
  GdP t153 false (fun k => k t34) fun t157 =>
  GdP t153 false (fun k => Dv P false (Instr.loadAt 23 t13) w.drew k) fun t158 =>
  Gd t153 false (fun k => Cl P 23 #[t154, t155] w.drew (Pk R) k) w.drew fun t156 w =>
  Kg t153 false P (Instr.loadAt 23 t13) t158 w <|
  Gd t153 false (fun k => Cl P 24 #[(str [48]), (str [49])] w (Pk R) k) w fun t159 w =>
  Kg t153 false P (Instr.loadAt 23 t13) t158 w <|
  Gd t153 false (fun k => Cl P 23 #[t158, t159] w (Pk R) k) w fun t160 w =>
  GdP t153 false (fun k => Dv P true (bn .mul 3 false t157 t160) w k) fun t161 =>
  GdP t153 false (fun k => Dv P true (bn .eql 3 false t156 t161) w k) fun t162 =>
  GdP t23 true (fun k => PickP t153 (.bool true) t162 k) fun t163 =>
  PickP t23 t163 (.bool false) fun t164 =>
  R (.returned t164) w)))
theorem e_law04_RationalOrder {t0 t1 t2 t3 : Value} {w : World} {R : Ending → World → Prop} (h : s_law04_RationalOrder Tryz.prog t0 t1 t2 t3 w R) : Calls Tryz.prog 9 #[t0, t1, t2, t3] w R :=
  enter (h := (.sq .z (.sq .z (.sq .z (.sq .z (.sq .z (.sq .z (.sq .z (.sq .z (.sq .z (.sq (.sq .z (.cd (.sq .z .z) .z)) (.sq .z (.sq (.sq (.dr (.pur true 0 (.pur true 1 (.pur true 2 (.pur false 3 (.pur true 6 (.eff 4 [3] (.eff 5 [] (.pur true 7 (.pur true 8 .done)))))))))) (.cd (.sq .z .z) .z)) (.sq .z (.sq .z (.sq (.sq .z (.cd (.sq .z .z) .z)) (.sq .z (.sq .z (.sq (.dr (.pur true 0 (.pur true 1 (.pur true 2 (.pur true 3 (.pur true 4 (.pur true 5 (.pur true 6 (.pur true 7 (.pur true 8 (.pur false 9 (.pur false 10 (.pur true 12 (.pur false 13 (.eff 11 [13] (.eff 14 [13] (.eff 15 [] (.pur true 16 (.pur true 17 (.pur true 18 (.pur true 19 (.pur true 20 .done)))))))))))))))))))))) .z))))))))))))))))))) (args := [t0, t1, t2, t3]) Tryz.func9 (by kernel_rfl) (by kernel_rfl) (by kernel_rfl) (Eq.mp (by kernel_rfl) h)
theorem n_law04_RationalOrder : Enters Tryz.prog 9 := enters_of Tryz.func9 (by kernel_rfl) rfl
def s_law04_RationalGrid (P : Program) (t0 t1 : Value) (w : World) (R : Ending → World → Prop) : Prop :=
  Bx P 24 t0 w fun t2 w =>
  Cl P 11 #[] w (Pk R) fun t25 w =>
  Ld P 24 t2 w fun t26 w =>
  Cl P 12 #[t26] w (Pk R) fun t27 w =>
  Al P 23 w fun t6 w =>
  Sto P 23 t6 t27 w fun w =>
  Cl P 18 #[t1, (.int .i64 31)] w (Pk R) fun t29 w =>
  Lp2 (str [49]) (.int .i64 0) w (fun t7 t8 w k1 =>
  Bn P .lss 3 false t8 t29 w fun t32 w =>
  If t32
  (Bn P .add 9 true t7 (str [48]) w fun t36 w =>
  Bn P .add 3 true t8 (.int .i64 1) w fun t34 w =>
  k1 t36 t34 w)
  (Ld P 23 t6 w fun t38 w =>
  Cl P 35 #[t38, t29] w (Pk R) fun t40 w =>
  Ex t40 0 w fun t41 w =>
  Ex t40 1 w fun t42 w =>
  Al P 23 w fun t9 w =>
  Sto P 23 t9 t41 w fun w =>
  Ld P 23 t6 w fun t44 w =>
  Cl P 37 #[t44, t29] w (Pk R) fun t46 w =>
  Ex t46 0 w fun t47 w =>
  Ex t46 1 w fun t48 w =>
  Al P 23 w fun t11 w =>
  Sto P 23 t11 t47 w fun w =>
  Ld P 23 t6 w fun t50 w =>
  Cl P 45 #[t50] w (Pk R) fun t51 w =>
  Cl P 35 #[t51, t29] w (Pk R) fun t53 w =>
  Ex t53 0 w fun t54 w =>
  Ex t53 1 w fun t55 w =>
  Al P 23 w fun t13 w =>
  Sto P 23 t13 t54 w fun w =>
  Dv P true (bn .neq 30 true t42 (.int .i64 0)) w.drew fun t57 =>
  GdP t57 false (fun k => k t48) fun t59 =>
  GdP t57 false (fun k => Dv P true (bn .neq 30 true t59 (.int .i64 0)) w.drew k) fun t60 =>
  PickP t57 (.bool true) t60 fun t61 =>
  GdP t61 false (fun k => k t55) fun t63 =>
  GdP t61 false (fun k => Dv P true (bn .neq 30 true t63 (.int .i64 0)) w.drew k) fun t64 =>
  PickP t61 (.bool true) t64 fun t65 =>
  GdP t65 false (fun k => Dv P false (Instr.loadAt 23 t13) w.drew k) fun t67 =>
  GdP t65 false (fun k => Dv P false (Instr.loadAt 23 t11) w.drew k) fun t69 =>
  Gd t65 false (fun k => Cl P 45 #[t67] w.drew (Pk R) k) w.drew fun t68 w =>
  Kg t65 false P (Instr.loadAt 23 t11) t69 w <|
  GdP t65 false (fun k => Dv P false (bn .neq 23 false t68 t69) w k) fun t70 =>
  PickP t65 (.bool true) t70 fun t71 =>
  GdP t71 false (fun k => Dv P false (Instr.loadAt 23 t9) w k) fun t73 =>
  GdP t71 false (fun k => Dv P false (Instr.loadAt 23 t6) w k) fun t74 =>
  Gd t71 false (fun k => Cl P 23 #[t73, t74] w (Pk R) k) w fun t75 w =>
  GdP t71 false (fun k => Dv P true (bn .gtr 3 true t75 (.int .i64 0)) w k) fun t76 =>
  PickP t71 (.bool true) t76 fun t77 =>
  GdP t77 false (fun k => Dv P false (Instr.loadAt 23 t11) w k) fun t79 =>
  GdP t77 false (fun k => Dv P false (Instr.loadAt 23 t6) w k) fun t80 =>
  Gd t77 false (fun k => Cl P 23 #[t79, t80] w (Pk R) k) w fun t81 w =>
  GdP t77 false (fun k => Dv P true (bn .lss 3 true t81 (.int .i64 0)) w k) fun t82 =>
  PickP t77 (.bool true) t82 fun t83 =>
  If t83
  (R (.returned (.bool false)) w)
  (Ld P 23 t11 w fun t85 w =>
  Cl P 35 #[t85, t29] w (Pk R) fun t87 w =>
  Ex t87 0 w fun t88 w =>
  Ex t87 1 w fun t89 w =>
  Al P 23 w fun t15 w =>
  Sto P 23 t15 t88 w fun w =>
  Ld P 23 t9 w fun t91 w =>
  Cl P 37 #[t91, t29] w (Pk R) fun t93 w =>
  Ex t93 0 w fun t94 w =>
  Ex t93 1 w fun t95 w =>
  Al P 23 w fun t17 w =>
  Sto P 23 t17 t94 w fun w =>
  Jn2 (fun k2 =>
  Dv P false (Instr.loadAt 23 t9) w.drew fun t97 =>
  (Cl P 24 #[t7, (str [49])] w.drew (Pk R) fun t99 w =>
  Ke P (Instr.loadAt 23 t9) t97 w <|
  (Cl P 25 #[t97, t99] w (Pk R) fun t100 w =>
  ExP t100 0 fun t101 =>
  ExP t100 1 fun t102 =>
  Al P 23 w fun t19 w =>
  Ke P (Instr.loadAt 23 t9) t97 w <|
  Sto P 23 t19 t101 w fun w =>
  k2 t19 t102 w) ∧
  (Al P 23 w fun t19x1 w =>
  Ke P (Instr.loadAt 23 t9) t97 w <|
  Cl P 25 #[t97, t99] w (Pk R) fun t100x1 w =>
  ExP t100x1 0 fun t101x1 =>
  ExP t100x1 1 fun t102x1 =>
  Sto P 23 t19x1 t101x1 w fun w =>
  k2 t19x1 t102x1 w)) ∧
  (Al P 23 w.drew fun t19x2 w =>
  Ke P (Instr.loadAt 23 t9) t97 w <|
  Cl P 24 #[t7, (str [49])] w (Pk R) fun t99x1 w =>
  Ke P (Instr.loadAt 23 t9) t97 w <|
  Cl P 25 #[t97, t99x1] w (Pk R) fun t100x2 w =>
  ExP t100x2 0 fun t101x2 =>
  ExP t100x2 1 fun t102x2 =>
  Sto P 23 t19x2 t101x2 w fun w =>
  k2 t19x2 t102x2 w))
  (fun t19x3 t20 w =>
  Ld P 23 t11 w fun t104 w =>
  Ld P 23 t9 w fun t105 w =>
  Cl P 44 #[t104, t105] w (Pk R) fun t106 w =>
  Ex t106 0 w fun t107 w =>
  Ex t106 1 w fun t108 w =>
  Al P 23 w fun t21 w =>
  Sto P 23 t21 t107 w fun w =>
  Ld P 23 t9 w fun t109 w =>
  Ld P 23 t6 w fun t110 w =>
  Cl P 23 #[t109, t110] w (Pk R) fun t111 w =>
  Bn P .eql 3 true t111 (.int .i64 0) w fun t112 w =>
  Cl P 24 #[(str [49]), t7] w (Pk R) fun t114 w =>
  Al P 23 w fun t24 w =>
  Sto P 23 t24 t114 w fun w =>
  Jn0 (fun k3 =>
  Bn P .eql 3 true t29 (.int .i64 0) w fun t116 w =>
  If t116
  (Cl P 24 #[(str [49]), (str [49])] w (Pk R) fun t117 w =>
  Sto P 23 t24 t117 w fun w =>
  k3 w)
  (k3 w))
  (fun w =>
  Jn0 (fun k4 =>
  If t112
  (Cl P 24 #[(str [48]), (str [49])] w (Pk R) fun t119 w =>
  Sto P 23 t24 t119 w fun w =>
  k4 w)
  (k4 w))
  (fun w =>
  Gd t25 true (fun k => k t89 w) w fun t122 w =>
  Gd t25 true (fun k => Bn P .eql 30 true t122 (.int .i64 0) w k) w fun t123 w =>
  Pick t25 t123 (.bool false) w fun t124 w =>
  Gd t124 true (fun k => k t95 w) w fun t126 w =>
  Gd t124 true (fun k => Bn P .eql 30 true t126 (.int .i64 0) w k) w fun t127 w =>
  Pick t124 t127 (.bool false) w fun t128 w =>
  Gd t128 true (fun k => Ld P 23 t15 w k) w fun t130 w =>
  Gd t128 true (fun k => Ld P 23 t11 w k) w fun t131 w =>
  Gd t128 true (fun k => Bn P .eql 23 false t130 t131 w k) w fun t132 w =>
  Pick t128 t132 (.bool false) w fun t133 w =>
  Gd t133 true (fun k => Ld P 23 t17 w k) w fun t135 w =>
  Gd t133 true (fun k => Ld P 23 t9 w k) w fun t136 w =>
  Gd t133 true (fun k => Bn P .eql 23 false t135 t136 w k) w fun t137 w =>
  Pick t133 t137 (.bool false) w fun t138 w =>
  Gd t138 true (fun k => k t20 w) w fun t140 w =>
  Gd t138 true (fun k => Bn P .eql 30 true t140 (.int .i64 0) w k) w fun t141 w =>
  Pick t138 t141 (.bool false) w fun t142 w =>
  Gd t142 true (fun k => Fa P 23 t19x3 1 w k) w fun t144 w =>
  Gd t142 true (fun k => Ld P 9 t144 w k) w fun t145 w =>
  Gd t142 true (fun k => Bn P .eql 9 true t145 (str [49]) w k) w fun t146 w =>
  Pick t142 t146 (.bool false) w fun t147 w =>
  Gd t147 true (fun k => k t108 w) w fun t149 w =>
  Gd t147 true (fun k => Bn P .eql 30 true t149 (.int .i64 0) w k) w fun t150 w =>
  Pick t147 t150 (.bool false) w fun t151 w =>
  Gd t151 true (fun k => Ld P 23 t21 w k) w fun t153 w =>
  Gd t151 true (fun k => Ld P 23 t24 w k) w fun t154 w =>
  Gd t151 true (fun k => Bn P .eql 23 false t153 t154 w k) w fun t155 w =>
  Pick t151 t155 (.bool false) w fun t156 w =>
  Gd t156 true (fun k => k t112 w) w fun t158 w =>
  Gd t156 true (fun k => Ld P 23 t11 w k) w fun t159 w =>
  Gd t156 true (fun k => Ld P 23 t6 w k) w fun t160 w =>
  Gd t156 true (fun k => Cl P 23 #[t159, t160] w (Pk R) k) w fun t161 w =>
  Gd t156 true (fun k => Bn P .eql 3 true t161 (.int .i64 0) w k) w fun t162 w =>
  Gd t156 true (fun k => Bn P .eql 4 false t158 t162 w k) w fun t163 w =>
  Pick t156 t163 (.bool false) w fun t164 w =>
  R (.returned t164) w))))))
theorem e_law04_RationalGrid {t0 t1 : Value} {w : World} {R : Ending → World → Prop} (h : s_law04_RationalGrid Tryz.prog t0 t1 w R) : Calls Tryz.prog 10 #[t0, t1] w R :=
  enter (h := (.sq .z (.sq .z (.sq .z (.sq .z (.sq .z (.sq (.sq .z (.bk (.lp [7, 8] [30, 31, 32, 33, 34, 35, 36] (.sq (.sq .z (.cd .z .z)) (.sq (.bk .z) .z))))) (.sq .z (.sq .z (.sq .z (.sq (.sq (.dr (.pur true 0 (.pur true 1 (.pur true 2 (.pur true 3 (.pur true 4 (.pur true 5 (.pur true 6 (.pur true 7 (.pur true 8 (.pur true 9 (.pur true 10 (.pur false 11 (.pur false 13 (.eff 12 [13] (.pur false 14 (.pur true 15 (.pur true 16 (.pur false 17 (.pur false 18 (.eff 19 [] (.pur true 20 (.pur true 21 (.pur true 22 (.pur false 23 (.pur false 24 (.eff 25 [] (.pur true 26 (.pur true 27 .done))))))))))))))))))))))))))))) (.cd (.sq .z .z) .z)) (.sq .z (.sq .z (.jn [19, 20] [96, 97, 98, 99, 100, 101, 102] (.dr (.pur false 0 (.pur true 1 (.alt (.eff 2 [0] (.alt (.eff 3 [] (.pur true 4 (.pur true 5 (.pur true 6 (.eff 7 [0] (.eff 8 [] (.pur true 9 .done))))))) (.eff 7 [0] (.eff 3 [] (.pur true 4 (.pur true 5 (.pur true 6 (.eff 8 [] (.pur true 9 .done))))))))) (.eff 7 [0] (.eff 2 [0] (.eff 3 [] (.pur true 4 (.pur true 5 (.pur true 6 (.eff 8 [] (.pur true 9 .done)))))))))))) (.sq .z (.sq .z (.sq .z (.jn [] [115, 116, 117] (.sq .z (.cd .z .z)) (.jn [] [118, 119] (.sq .z (.cd .z .z)) (.sq .z .z)))))))))))))))))))) (args := [t0, t1]) Tryz.func10 (by kernel_rfl) (by kernel_rfl) (by kernel_rfl) (Eq.mp (by kernel_rfl) h)
theorem n_law04_RationalGrid : Enters Tryz.prog 10 := enters_of Tryz.func10 (by kernel_rfl) rfl
def s_law04_sane (P : Program) (w : World) (R : Ending → World → Prop) : Prop :=
  Cl P 41 #[(.int .i64 6), (.int .i64 (-4))] w (Pk R) fun t23 w =>
  Ex t23 0 w fun t24 w =>
  Ex t23 1 w fun t25 w =>
  Al P 23 w fun t1 w =>
  Sto P 23 t1 t24 w fun w =>
  Cl P 41 #[(.int .i64 0), (.int .i64 (-5))] w (Pk R) fun t27 w =>
  Ex t27 0 w fun t28 w =>
  Ex t27 1 w fun t29 w =>
  Al P 23 w fun t3 w =>
  Sto P 23 t3 t28 w fun w =>
  Cl P 41 #[(.int .i64 1), (.int .i64 0)] w (Pk R) fun t31 w =>
  Ex t31 0 w fun t32 w =>
  Ex t31 1 w fun t33 w =>
  Al P 23 w fun t5 w =>
  Sto P 23 t5 t32 w fun w =>
  Cl P 24 #[(str [49]), (str [50])] w (Pk R) fun t35 w =>
  Cl P 24 #[(str [49]), (str [51])] w (Pk R) fun t36 w =>
  Cl P 27 #[t35, t36] w (Pk R) fun t37 w =>
  Ex t37 0 w fun t38 w =>
  Ex t37 1 w fun t39 w =>
  Al P 23 w fun t7 w =>
  Sto P 23 t7 t38 w fun w =>
  Cl P 24 #[(str [49]), (str [50])] w (Pk R) fun t41 w =>
  Cl P 24 #[(str [45, 49]), (str [52])] w (Pk R) fun t42 w =>
  Cl P 26 #[t41, t42] w (Pk R) fun t43 w =>
  Ex t43 0 w fun t44 w =>
  Ex t43 1 w fun t45 w =>
  Al P 23 w fun t9 w =>
  Sto P 23 t9 t44 w fun w =>
  Jn1 (fun k1 =>
  Dv P false (Instr.loadAt 23 t3) w.drew fun t48 =>
  (Cl P 24 #[(str [49]), (str [49])] w.drew (Pk R) fun t47 w =>
  Ke P (Instr.loadAt 23 t3) t48 w <|
  (Cl P 26 #[t47, t48] w (Pk R) fun t49 w =>
  ExP t49 0 fun t50 =>
  ExP t49 1 fun t51 =>
  Al P 23 w fun t11 w =>
  Ke P (Instr.loadAt 23 t3) t48 w <|
  Sto P 23 t11 t50 w fun w =>
  k1 t51 w) ∧
  (Al P 23 w fun t11x1 w =>
  Ke P (Instr.loadAt 23 t3) t48 w <|
  Cl P 26 #[t47, t48] w (Pk R) fun t49x1 w =>
  ExP t49x1 0 fun t50x1 =>
  ExP t49x1 1 fun t51x1 =>
  Sto P 23 t11x1 t50x1 w fun w =>
  k1 t51x1 w)) ∧
  (Al P 23 w.drew fun t11x2 w =>
  Ke P (Instr.loadAt 23 t3) t48 w <|
  Cl P 24 #[(str [49]), (str [49])] w (Pk R) fun t47x1 w =>
  Ke P (Instr.loadAt 23 t3) t48 w <|
  Cl P 26 #[t47x1, t48] w (Pk R) fun t49x2 w =>
  ExP t49x2 0 fun t50x2 =>
  ExP t49x2 1 fun t51x2 =>
  Sto P 23 t11x2 t50x2 w fun w =>
  k1 t51x2 w))
  (fun t12 w =>
  Cl P 24 #[(str [45, 49]), (str [51])] w (Pk R) fun t53 w =>
  Cl P 35 #[t53, (.int .i64 2)] w (Pk R) fun t54 w =>
  Ex t54 0 w fun t55 w =>
  Ex t54 1 w fun t56 w =>
  Al P 23 w fun t13 w =>
  Sto P 23 t13 t55 w fun w =>
  Cl P 24 #[(str [49]), (str [51])] w (Pk R) fun t58 w =>
  Cl P 37 #[t58, (.int .i64 2)] w (Pk R) fun t59 w =>
  Ex t59 0 w fun t60 w =>
  Ex t59 1 w fun t61 w =>
  Al P 23 w fun t15 w =>
  Sto P 23 t15 t60 w fun w =>
  Cl P 15 #[(str [45, 51, 47, 50])] w (Pk R) fun t63 w =>
  Ex t63 0 w fun t64 w =>
  Ex t63 1 w fun t65 w =>
  Al P 23 w fun t17 w =>
  Sto P 23 t17 t64 w fun w =>
  Cl P 15 #[(str [54, 47, 52])] w (Pk R) fun t67 w =>
  Ex t67 0 w fun t68 w =>
  Ex t67 1 w fun t69 w =>
  Al P 23 w fun t19 w =>
  Sto P 23 t19 t68 w fun w =>
  Bn P .eql 30 true t25 (.int .i64 0) w fun t71 w =>
  Gd t71 true (fun k => k t29 w) w fun t73 w =>
  Gd t71 true (fun k => Bn P .eql 30 true t73 (.int .i64 0) w k) w fun t74 w =>
  Pick t71 t74 (.bool false) w fun t75 w =>
  Gd t75 true (fun k => k t33 w) w fun t77 w =>
  Gd t75 true (fun k => Bn P .eql 30 true t77 (.int .i64 40) w k) w fun t78 w =>
  Pick t75 t78 (.bool false) w fun t79 w =>
  Gd t79 true (fun k => k t39 w) w fun t81 w =>
  Gd t79 true (fun k => Bn P .eql 30 true t81 (.int .i64 0) w k) w fun t82 w =>
  Pick t79 t82 (.bool false) w fun t83 w =>
  Gd t83 true (fun k => k t45 w) w fun t85 w =>
  Gd t83 true (fun k => Bn P .eql 30 true t85 (.int .i64 0) w k) w fun t86 w =>
  Pick t83 t86 (.bool false) w fun t87 w =>
  Gd t87 true (fun k => k t12 w) w fun t89 w =>
  Gd t87 true (fun k => Bn P .eql 30 true t89 (.int .i64 40) w k) w fun t90 w =>
  Pick t87 t90 (.bool false) w fun t91 w =>
  Gd t91 true (fun k => k t56 w) w fun t93 w =>
  Gd t91 true (fun k => Bn P .eql 30 true t93 (.int .i64 0) w k) w fun t94 w =>
  Pick t91 t94 (.bool false) w fun t95 w =>
  Gd t95 true (fun k => k t61 w) w fun t97 w =>
  Gd t95 true (fun k => Bn P .eql 30 true t97 (.int .i64 0) w k) w fun t98 w =>
  Pick t95 t98 (.bool false) w fun t99 w =>
  Gd t99 true (fun k => k t65 w) w fun t101 w =>
  Gd t99 true (fun k => Bn P .eql 30 true t101 (.int .i64 0) w k) w fun t102 w =>
  Pick t99 t102 (.bool false) w fun t103 w =>
  Gd t103 true (fun k => k t69 w) w fun t105 w =>
  Gd t103 true (fun k => Bn P .eql 30 true t105 (.int .i64 40) w k) w fun t106 w =>
  Pick t103 t106 (.bool false) w fun t107 w =>
  GdP t107 true (fun k => Dv P false (Instr.loadAt 23 t1) w.drew k) fun t110 =>
  Gd t107 true (fun k => Cl P 24 #[(str [45, 51]), (str [50])] w.drew (Pk R) k) w.drew fun t111 w =>
  Kg t107 true P (Instr.loadAt 23 t1) t110 w <|
  GdP t107 true (fun k => Dv P false (bn .eql 23 false t110 t111) w k) fun t112 =>
  PickP t107 t112 (.bool false) fun t113 =>
  GdP t113 true (fun k => Dv P false (Instr.loadAt 23 t3) w k) fun t115 =>
  Gd t113 true (fun k => Cl P 24 #[(str [48]), (str [49])] w (Pk R) k) w fun t116 w =>
  Kg t113 true P (Instr.loadAt 23 t3) t115 w <|
  GdP t113 true (fun k => Dv P false (bn .eql 23 false t115 t116) w k) fun t117 =>
  PickP t113 t117 (.bool false) fun t118 =>
  GdP t118 true (fun k => Dv P false (Instr.loadAt 23 t7) w k) fun t120 =>
  Gd t118 true (fun k => Cl P 24 #[(str [53]), (str [54])] w (Pk R) k) w fun t121 w =>
  Kg t118 true P (Instr.loadAt 23 t7) t120 w <|
  GdP t118 true (fun k => Dv P false (bn .eql 23 false t120 t121) w k) fun t122 =>
  PickP t118 t122 (.bool false) fun t123 =>
  GdP t123 true (fun k => Dv P false (Instr.loadAt 23 t9) w k) fun t125 =>
  Gd t123 true (fun k => Cl P 24 #[(str [45, 50]), (str [49])] w (Pk R) k) w fun t126 w =>
  Kg t123 true P (Instr.loadAt 23 t9) t125 w <|
  GdP t123 true (fun k => Dv P false (bn .eql 23 false t125 t126) w k) fun t127 =>
  PickP t123 t127 (.bool false) fun t128 =>
  GdP t128 true (fun k => Dv P false (Instr.loadAt 23 t13) w k) fun t130 =>
  Gd t128 true (fun k => Cl P 24 #[(str [45, 49, 55]), (str [53, 48])] w (Pk R) k) w fun t131 w =>
  Kg t128 true P (Instr.loadAt 23 t13) t130 w <|
  GdP t128 true (fun k => Dv P false (bn .eql 23 false t130 t131) w k) fun t132 =>
  PickP t128 t132 (.bool false) fun t133 =>
  GdP t133 true (fun k => Dv P false (Instr.loadAt 23 t15) w k) fun t135 =>
  Gd t133 true (fun k => Cl P 24 #[(str [49, 55]), (str [53, 48])] w (Pk R) k) w fun t136 w =>
  Kg t133 true P (Instr.loadAt 23 t15) t135 w <|
  GdP t133 true (fun k => Dv P false (bn .eql 23 false t135 t136) w k) fun t137 =>
  PickP t133 t137 (.bool false) fun t138 =>
  GdP t138 true (fun k => Dv P false (Instr.loadAt 23 t17) w k) fun t140 =>
  GdP t138 true (fun k => Dv P false (Instr.loadAt 23 t1) w k) fun t141 =>
  GdP t138 true (fun k => Dv P false (bn .eql 23 false t140 t141) w k) fun t142 =>
  PickP t138 t142 (.bool false) fun t143 =>
  GdP t143 true (fun k => Dv P false (Instr.loadAt 23 t1) w k) fun t145 =>
  Gd t143 true (fun k => Cl P 14 #[t145] w (Pk R) k) w fun t146 w =>
  GdP t143 true (fun k => Dv P true (bn .eql 9 true t146 (str [45, 51, 47, 50])) w k) fun t147 =>
  PickP t143 t147 (.bool false) fun t148 =>
  Gd t148 true (fun k => Cl P 24 #[(str [49]), (str [51])] w (Pk R) k) w fun t150 w =>
  Gd t148 true (fun k => Cl P 24 #[(str [51, 51, 51, 51, 51]), (str [49, 48, 48, 48, 48, 48])] w (Pk R) k) w fun t151 w =>
  Gd t148 true (fun k => Cl P 23 #[t150, t151] w (Pk R) k) w fun t152 w =>
  GdP t148 true (fun k => Dv P true (bn .eql 3 true t152 (.int .i64 1)) w k) fun t153 =>
  PickP t148 t153 (.bool false) fun t154 =>
  GdP t154 true (fun k => Dv P false (Instr.loadAt 23 t1) w k) fun t156 =>
  Gd t154 true (fun k => Cl P 17 #[t156] w (Pk R) k) w fun t157 w =>
  PickP t154 t157 (.bool false) fun t158 =>
  GdP t158 true (fun k => Dv P true (Instr.build 23 #[]) w k) fun t160 =>
  Gd t158 true (fun k => Cl P 17 #[t160] w (Pk R) k) w fun t161 w =>
  GdP t158 true (fun k => Dv P true (Op.unary .not t161) w k) fun t162 =>
  PickP t158 t162 (.bool false) fun t163 =>
  R (.returned t163) w)
theorem e_law04_sane {w : World} {R : Ending → World → Prop} (h : s_law04_sane Tryz.prog  w R) : Calls Tryz.prog 11 #[] w R :=
  enter (h := (.sq .z (.sq .z (.sq .z (.sq .z (.sq .z (.sq .z (.jn [12] [11, 46, 47, 48, 49, 50, 51] (.dr (.pur false 1 (.alt (.eff 0 [1] (.alt (.eff 2 [] (.pur true 3 (.pur true 4 (.pur true 5 (.eff 6 [1] (.eff 7 [] (.pur true 8 .done))))))) (.eff 6 [1] (.eff 2 [] (.pur true 3 (.pur true 4 (.pur true 5 (.eff 7 [] (.pur true 8 .done))))))))) (.eff 6 [1] (.eff 0 [1] (.eff 2 [] (.pur true 3 (.pur true 4 (.pur true 5 (.eff 7 [] (.pur true 8 .done))))))))))) (.sq .z (.sq .z (.sq .z (.sq .z (.sq .z (.sq (.dr (.pur true 0 (.pur true 1 (.pur false 2 (.eff 3 [2] (.pur false 4 (.pur true 5 (.pur true 6 (.pur false 7 (.eff 8 [7] (.pur false 9 (.pur true 10 (.pur true 11 (.pur false 12 (.eff 13 [12] (.pur false 14 (.pur true 15 (.pur true 16 (.pur false 17 (.eff 18 [17] (.pur false 19 (.pur true 20 (.pur true 21 (.pur false 22 (.eff 23 [22] (.pur false 24 (.pur true 25 (.pur true 26 (.pur false 27 (.eff 28 [27] (.pur false 29 (.pur true 30 (.pur true 31 (.pur false 32 (.pur false 33 (.pur false 34 (.pur true 35 (.pur true 36 (.pur false 37 (.eff 38 [] (.pur true 39 (.pur true 40 (.pur true 41 (.eff 42 [] (.eff 43 [] (.eff 44 [] (.pur true 45 (.pur true 46 (.pur true 47 (.pur false 48 (.eff 49 [] (.pur true 50 (.pur true 51 (.pur true 52 (.eff 53 [] (.pur true 54 (.pur true 55 (.pur true 56 .done)))))))))))))))))))))))))))))))))))))))))))))))))))))))))) .z)))))))))))))) (args := []) Tryz.func11 (by kernel_rfl) (by kernel_rfl) (by kernel_rfl) (Eq.mp (by kernel_rfl) h)
theorem n_law04_sane : Enters Tryz.prog 11 := enters_of Tryz.func11 (by kernel_rfl) rfl
def s_ref04_Long (P : Program) (t0 : Value) (w : World) (R : Ending → World → Prop) : Prop :=
  Bx P 24 t0 w fun t1 w =>
  Al P 23 w fun t2 w =>
  Al P 64 w fun t3 w =>
  Lp1 (.int .i64 0) w (fun t4 w k1 =>
  Bn P .lss 3 true t4 (.int .i64 2) w fun t11 w =>
  If t11
  (Bn P .mul 3 true (.int .i64 2) t4 w fun t15 w =>
  Bn P .add 3 true t15 (.int .i64 1) w fun t16 w =>
  Ia P 24 t1 t16 w fun t17 w =>
  Ld P 3 t17 w fun t18 w =>
  Cl P 46 #[t18, (.int .i64 100)] w (Pk R) fun t19 w =>
  Bn P .add 3 true (.int .i64 1) t19 w fun t20 w =>
  Bn P .mul 3 true (.int .i64 2) t4 w fun t22 w =>
  Ia P 24 t1 t22 w fun t23 w =>
  Ld P 3 t23 w fun t24 w =>
  Cl P 46 #[t24, (.int .i64 1000000007)] w (Pk R) fun t25 w =>
  Lp2 (str []) t25 w (fun t6 t7 w k2 =>
  Bt P .len #[9] 3 #[t6] w fun t27 w =>
  Bn P .lss 3 false t27 t20 w fun t29 w =>
  If t29
  (Bn P .mul 3 true t7 (.int .i64 48271) w fun t31 w =>
  Bn P .add 3 true t31 (.int .i64 11) w fun t32 w =>
  Bn P .rem 3 true t32 (.int .i64 2147483647) w fun t33 w =>
  Bn P .quo 3 true t33 (.int .i64 65536) w fun t36 w =>
  Bn P .rem 3 true t36 (.int .i64 10) w fun t37 w =>
  Bn P .add 3 true (.int .i64 48) t37 w fun t38 w =>
  Cv P 3 5 t38 w fun t39 w =>
  Bs P 35 1 [(0, t39)] w fun t40 w =>
  Cv P 35 9 t40 w fun t41 w =>
  Bn P .add 9 false t6 t41 w fun t42 w =>
  k2 t42 t33 w)
  (Lp1 t6 w (fun t6x1 w k3 =>
  Bt P .len #[9] 3 #[t6x1] w fun t44 w =>
  Bn P .gtr 3 true t44 (.int .i64 1) w fun t45 w =>
  Gd t45 true (fun k => k t6x1 w) w fun t47 w =>
  Gd t45 true (fun k => Ix P 9 t47 (.int .i64 0) w k) w fun t48 w =>
  Gd t45 true (fun k => Bn P .eql 5 true t48 (.int .u8 48) w k) w fun t49 w =>
  Pick t45 t49 (.bool false) w fun t50 w =>
  If t50
  (Sc P 9 t6x1 (some (.int .i64 1)) none none w fun t52 w =>
  k3 t52 w)
  (Ia P 64 t3 t4 w fun t55 w =>
  Sto P 9 t55 t6x1 w fun w =>
  Bn P .add 3 true t4 (.int .i64 1) w fun t13 w =>
  k1 t13 w)))))
  (Jn0 (fun k4 =>
  Ia P 64 t3 (.int .i64 1) w fun t56 w =>
  Ld P 9 t56 w fun t57 w =>
  Bn P .eql 9 true t57 (str [48]) w fun t58 w =>
  If t58
  (Ia P 64 t3 (.int .i64 1) w fun t59 w =>
  Sto P 9 t59 (str [55]) w fun w =>
  k4 w)
  (k4 w))
  (fun w =>
  Jn0 (fun k5 =>
  Ia P 24 t1 (.int .i64 0) w fun t60 w =>
  Ld P 3 t60 w fun t61 w =>
  Cl P 46 #[t61, (.int .i64 2)] w (Pk R) fun t62 w =>
  Bn P .eql 3 true t62 (.int .i64 0) w fun t63 w =>
  Gd t63 true (fun k => Ia P 64 t3 (.int .i64 0) w k) w fun t65 w =>
  Gd t63 true (fun k => Ld P 9 t65 w k) w fun t66 w =>
  Gd t63 true (fun k => Bn P .neq 9 true t66 (str [48]) w k) w fun t67 w =>
  Pick t63 t67 (.bool false) w fun t68 w =>
  If t68
  (Ia P 64 t3 (.int .i64 0) w fun t69 w =>
  Ld P 9 t69 w fun t70 w =>
  Bn P .add 9 true (str [45]) t70 w fun t71 w =>
  Ia P 64 t3 (.int .i64 0) w fun t72 w =>
  Sto P 9 t72 t71 w fun w =>
  k5 w)
  (k5 w))
  (fun w =>
  Ia P 64 t3 (.int .i64 0) w fun t74 w =>
  Ld P 9 t74 w fun t75 w =>
  Ia P 64 t3 (.int .i64 1) w fun t76 w =>
  Ld P 9 t76 w fun t77 w =>
  Cl P 39 #[t75, t77] w (Pk R) fun t78 w =>
  Ex t78 0 w fun t79 w =>
  Ex t78 1 w fun t80 w =>
  Al P 23 w fun t8 w =>
  Sto P 23 t8 t79 w fun w =>
  Ld P 23 t8 w fun t81 w =>
  Sto P 23 t2 t81 w fun w =>
  Rc P 23 t2 w fun r0 =>
  R (.returned r0) w))))
theorem e_ref04_Long {t0 : Value} {w : World} {R : Ending → World → Prop} (h : s_ref04_Long Tryz.prog t0 w R) : Calls Tryz.prog 12 #[t0] w R :=
  enter (h := (.sq .z (.sq .z (.sq (.sq .z (.bk (.lp [4] [5, 6, 7, 10, 11, 12, 13, 14, 15, 16, 17, 18, 19, 20, 21, 22, 23, 24, 25, 26, 27, 28, 29, 30, 31, 32, 33, 34, 35, 36, 37, 38, 39, 40, 41, 42, 43, 44, 45, 46, 47, 48, 49, 50, 51, 52, 53, 54, 55] (.sq (.sq .z (.cd .z .z)) (.sq (.bk (.sq .z (.sq .z (.sq .z (.sq (.bk (.lp [6, 7] [26, 27, 28, 29, 30, 31, 32, 33, 34, 35, 36, 37, 38, 39, 40, 41, 42] (.sq (.sq .z (.cd .z .z)) (.bk (.sq .z .z))))) (.sq (.bk (.lp [6] [43, 44, 45, 46, 47, 48, 49, 50, 51, 52] (.sq (.sq .z (.cd .z .z)) (.bk .z)))) .z)))))) .z))))) (.jn [] [56, 57, 58, 59] (.sq .z (.cd .z .z)) (.jn [] [60, 61, 62, 63, 64, 65, 66, 67, 68, 69, 70, 71, 72] (.sq .z (.cd .z .z)) (.sq .z (.sq .z .z)))))))) (args := [t0]) Tryz.func12 (by kernel_rfl) (by kernel_rfl) (by kernel_rfl) (Eq.mp (by kernel_rfl) h)
theorem n_ref04_Long : Enters Tryz.prog 12 := enters_of Tryz.func12 (by kernel_rfl) rfl
def s_law04_cut (P : Program) (t0 : Value) (w : World) (R : Ending → World → Prop) : Prop :=
  Bx P 23 t0 w fun t1 w =>
  Al P 23 w fun t2 w =>
  Dv P true (Instr.fieldAt 23 t1 0) w.drew fun t3 =>
  Dv P false (Instr.loadAt 9 t3) w.drew fun t4 =>
  Dv P true (Instr.fieldAt 23 t1 0) w.drew fun t5 =>
  Dv P false (Instr.loadAt 9 t5) w.drew fun t6 =>
  Dv P true (bV .len #[9] 3 #[t6]) w.drew fun t7 =>
  Dv P true (bV .min #[3, 3] 3 #[t7, (.int .i64 210)]) w.drew fun t8 =>
  Dv P true (Instr.sliceAt 9 t4 none (some t8) none) w.drew fun t9 =>
  Dv P true (Instr.fieldAt 23 t1 1) w.drew fun t10 =>
  Dv P false (Instr.loadAt 9 t10) w.drew fun t11 =>
  Dv P true (Instr.fieldAt 23 t1 1) w.drew fun t12 =>
  Dv P false (Instr.loadAt 9 t12) w.drew fun t13 =>
  Dv P true (bV .len #[9] 3 #[t13]) w.drew fun t14 =>
  Dv P true (bV .min #[3, 3] 3 #[t14, (.int .i64 210)]) w.drew fun t15 =>
  Dv P true (Instr.sliceAt 9 t11 none (some t15) none) w.drew fun t16 =>
  Dv P true (Instr.build 23 #[(0, t9), (1, t16)]) w.drew fun t17 =>
  Sto P 23 t2 t17 w.drew fun w =>
  Rc P 23 t2 w fun r0 =>
  R (.returned r0) w
theorem e_law04_cut {t0 : Value} {w : World} {R : Ending → World → Prop} (h : s_law04_cut Tryz.prog t0 w R) : Calls Tryz.prog 13 #[t0] w R :=
  enter (h := (.sq .z (.sq (.dr (.pur true 0 (.pur false 1 (.pur true 2 (.pur false 3 (.pur true 4 (.pur true 5 (.pur true 6 (.pur true 7 (.pur false 8 (.pur true 9 (.pur false 10 (.pur true 11 (.pur true 12 (.pur true 13 (.pur true 14 (.eff 15 [] .done))))))))))))))))) .z))) (args := [t0]) Tryz.func13 (by kernel_rfl) (by kernel_rfl) (by kernel_rfl) (Eq.mp (by kernel_rfl) h)
theorem n_law04_cut : Enters Tryz.prog 13 := enters_of Tryz.func13 (by kernel_rfl) rfl
def s_rational_Print (P : Program) (t0 : Value) (w : World) (R : Ending → World → Prop) : Prop :=
  Bx P 23 t0 w fun t1 w =>
  Ld P 23 t1 w fun t4 w =>
  Cl P 17 #[t4] w (Pk R) fun t5 w =>
  Un P .not t5 w fun t6 w =>
  If t6
  (R (.returned (str [])) w)
  (Fa P 23 t1 1 w fun t8 w =>
  Ld P 9 t8 w fun t9 w =>
  Bn P .eql 9 true t9 (str [49]) w fun t10 w =>
  If t10
  (Fa P 23 t1 0 w fun t11 w =>
  Ld P 9 t11 w fun t12 w =>
  R (.returned t12) w)
  (Fa P 23 t1 0 w fun t13 w =>
  Ld P 9 t13 w fun t14 w =>
  Fa P 23 t1 1 w fun t15 w =>
  Ld P 9 t15 w fun t16 w =>
  Bs P 36 2 [(0, t14), (1, t16)] w fun t17 w =>
  Cl P 47 #[t17, (str [47])] w (Pk R) fun t18 w =>
  R (.returned t18) w))
theorem e_rational_Print {t0 : Value} {w : World} {R : Ending → World → Prop} (h : s_rational_Print Tryz.prog t0 w R) : Calls Tryz.prog 14 #[t0] w R :=
  enter (h := (.sq .z (.sq (.bk (.sq .z (.cd (.sq .z .z) (.sq .z (.cd (.sq .z .z) .z))))) (.sq .z .z)))) (args := [t0]) Tryz.func14 (by kernel_rfl) (by kernel_rfl) (by kernel_rfl) (Eq.mp (by kernel_rfl) h)
theorem n_rational_Print : Enters Tryz.prog 14 := enters_of Tryz.func14 (by kernel_rfl) rfl
def s_rational_Parse (P : Program) (t0 : Value) (w : World) (R : Ending → World → Prop) : Prop :=
  Al P 23 w fun t2 w =>
  Bd P 23 [(1, (str [49]))] w fun t8 w =>
  Al P 23 w fun t4 w =>
  Sto P 23 t4 t8 w fun w =>
  Cl P 48 #[t0, (str [47])] w (Pk R) fun t11 w =>
  Ex t11 0 w fun t12 w =>
  Ex t11 1 w fun t13 w =>
  Ex t11 2 w fun t14 w =>
  Jn0 (fun k1 =>
  Fa P 23 t4 0 w fun t16 w =>
  Sto P 9 t16 t12 w fun w =>
  If t14
  (Fa P 23 t4 1 w fun t19 w =>
  Sto P 9 t19 t13 w fun w =>
  k1 w)
  (k1 w))
  (fun w =>
  Ld P 23 t4 w fun t20 w =>
  Cl P 14 #[t20] w (Pk R) fun t21 w =>
  Bn P .neq 9 false t21 t0 w fun t23 w =>
  Gd t23 false (fun k => k t0 w) w fun t25 w =>
  Gd t23 false (fun k => Bn P .eql 9 true t25 (str []) w k) w fun t26 w =>
  Pick t23 (.bool true) t26 w fun t27 w =>
  If t27
  (Bd P 23 [] w fun t28 w =>
  Sto P 23 t2 t28 w fun w =>
  Rc P 23 t2 w fun r0 =>
  R (.returned (.tuple #[r0, (.int .i64 40)])) w)
  (Ld P 23 t4 w fun t29 w =>
  Sto P 23 t2 t29 w fun w =>
  Rc P 23 t2 w fun r0 =>
  R (.returned (.tuple #[r0, (.int .i64 0)])) w))
theorem e_rational_Parse {t0 : Value} {w : World} {R : Ending → World → Prop} (h : s_rational_Parse Tryz.prog t0 w R) : Calls Tryz.prog 15 #[t0] w R :=
  enter (h := (.sq .z (.sq .z (.sq .z (.jn [] [15, 16, 17, 18, 19] (.sq .z (.sq .z (.cd .z .z))) (.sq (.sq .z (.cd (.sq .z .z) .z)) (.sq .z .z))))))) (args := [t0]) Tryz.func15 (by kernel_rfl) (by kernel_rfl) (by kernel_rfl) (Eq.mp (by kernel_rfl) h)
theorem n_rational_Parse : Enters Tryz.prog 15 := enters_of Tryz.func15 (by kernel_rfl) rfl
def s_ref04_Print (P : Program) (t0 : Value) (w : World) (R : Ending → World → Prop) : Prop :=
  Bx P 23 t0 w fun t1 w =>
  Ld P 23 t1 w fun t4 w =>
  Cl P 40 #[t4] w (Pk R) fun t5 w =>
  Un P .not t5 w fun t7 w =>
  If t7
  (R (.returned (str [])) w)
  (Fa P 23 t1 1 w fun t8 w =>
  Ld P 9 t8 w fun t9 w =>
  Bn P .eql 9 true t9 (str [49]) w fun t10 w =>
  If t10
  (Fa P 23 t1 0 w fun t11 w =>
  Ld P 9 t11 w fun t12 w =>
  R (.returned t12) w)
  (Fa P 23 t1 0 w fun t13 w =>
  Ld P 9 t13 w fun t14 w =>
  Bn P .add 9 true t14 (str [47]) w fun t15 w =>
  Fa P 23 t1 1 w fun t16 w =>
  Ld P 9 t16 w fun t17 w =>
  Bn P .add 9 false t15 t17 w fun t18 w =>
  R (.returned t18) w))
theorem e_ref04_Print {t0 : Value} {w : World} {R : Ending → World → Prop} (h : s_ref04_Print Tryz.prog t0 w R) : Calls Tryz.prog 16 #[t0] w R :=
  enter (h := (.sq .z (.sq .z (.sq (.sq .z (.cd (.sq .z .z) .z)) (.sq (.sq .z (.cd (.sq .z .z) .z)) (.sq .z .z)))))) (args := [t0]) Tryz.func16 (by kernel_rfl) (by kernel_rfl) (by kernel_rfl) (Eq.mp (by kernel_rfl) h)
theorem n_ref04_Print : Enters Tryz.prog 16 := enters_of Tryz.func16 (by kernel_rfl) rfl
def s_rational_Valid (P : Program) (t0 : Value) (w : World) (R : Ending → World → Prop) : Prop :=
  Bx P 23 t0 w fun t1 w =>
  Fa P 23 t1 0 w fun t5 w =>
  Ld P 9 t5 w fun t6 w =>
  Cl P 49 #[t6] w (Pk R) fun t7 w =>
  Un P .not t7 w fun t8 w =>
  Gd t8 false (fun k => Fa P 23 t1 1 w k) w fun t10 w =>
  Gd t8 false (fun k => Ld P 9 t10 w k) w fun t11 w =>
  Gd t8 false (fun k => Cl P 49 #[t11] w (Pk R) k) w fun t12 w =>
  Gd t8 false (fun k => Un P .not t12 w k) w fun t13 w =>
  Pick t8 (.bool true) t13 w fun t14 w =>
  Gd t14 false (fun k => Fa P 23 t1 1 w k) w fun t16 w =>
  Gd t14 false (fun k => Ld P 9 t16 w k) w fun t17 w =>
  Gd t14 false (fun k => Cl P 50 #[t17, (str [48])] w (Pk R) k) w fun t18 w =>
  Gd t14 false (fun k => Bn P .leq 3 true t18 (.int .i64 0) w k) w fun t19 w =>
  Pick t14 (.bool true) t19 w fun t20 w =>
  If t20
  (R (.returned (.bool false)) w)
  (Fa P 23 t1 0 w fun t22 w =>
  Ld P 9 t22 w fun t23 w =>
  Fa P 23 t1 1 w fun t24 w =>
  Ld P 9 t24 w fun t25 w =>
  Cl P 51 #[t23, t25] w (Pk R) fun t26 w =>
  Ex t26 0 w fun t27 w =>
  Ex t26 1 w fun t28 w =>
  Bn P .eql 30 true t28 (.int .i64 0) w fun t30 w =>
  Gd t30 true (fun k => k t27 w) w fun t32 w =>
  Gd t30 true (fun k => Bn P .eql 9 true t32 (str [49]) w k) w fun t33 w =>
  Pick t30 t33 (.bool false) w fun t34 w =>
  R (.returned t34) w)
theorem e_rational_Valid {t0 : Value} {w : World} {R : Ending → World → Prop} (h : s_rational_Valid Tryz.prog t0 w R) : Calls Tryz.prog 17 #[t0] w R :=
  enter (h := (.sq .z (.sq (.sq .z (.cd (.sq .z .z) .z)) (.sq .z (.sq .z .z))))) (args := [t0]) Tryz.func17 (by kernel_rfl) (by kernel_rfl) (by kernel_rfl) (Eq.mp (by kernel_rfl) h)
theorem n_rational_Valid : Enters Tryz.prog 17 := enters_of Tryz.func17 (by kernel_rfl) rfl
def s_law04_pick (P : Program) (t0 t1 : Value) (w : World) (R : Ending → World → Prop) : Prop :=
  Bn P .lss 3 true t0 (.int .i64 0) w fun t6 w =>
  If t6
  (Bn P .add 3 true t0 (.int .i64 1) w fun t8 w =>
  Un P .neg t8 w fun t9 w =>
  Bn P .rem 3 false t9 t1 w fun t12 w =>
  R (.returned t12) w)
  (Bn P .rem 3 false t0 t1 w fun t12x1 w =>
  R (.returned t12x1) w)
theorem e_law04_pick {t0 t1 : Value} {w : World} {R : Ending → World → Prop} (h : s_law04_pick Tryz.prog t0 t1 w R) : Calls Tryz.prog 18 #[t0, t1] w R :=
  enter (h := (.sq .z (.sq (.sq .z (.cd .z .z)) (.sq .z .z)))) (args := [t0, t1]) Tryz.func18 (by kernel_rfl) (by kernel_rfl) (by kernel_rfl) (Eq.mp (by kernel_rfl) h)
theorem n_law04_pick : Enters Tryz.prog 18 := enters_of Tryz.func18 (by kernel_rfl) rfl
def s_ref04_Parse (P : Program) (t0 : Value) (w : World) (R : Ending → World → Prop) : Prop :=
  Al P 23 w fun t2 w =>
  Bd P 23 [(0, t0), (1, (str [49]))] w fun t8 w =>
  Al P 23 w fun t4 w =>
  Sto P 23 t4 t8 w fun w =>
  Jn0 (fun k1 =>
  Lp1 (.int .i64 0) w (fun t5 w k2 =>
  Bt P .len #[9] 3 #[t0] w fun t11 w =>
  Bn P .lss 3 false t5 t11 w fun t12 w =>
  If t12
  (Ix P 9 t0 t5 w fun t17 w =>
  Bn P .eql 5 true t17 (.int .u8 47) w fun t18 w =>
  If t18
  (Dv P true (Instr.sliceAt 9 t0 none (some t5) none) w.drew fun t21 =>
  Dv P true (bn .add 3 true t5 (.int .i64 1)) w.drew fun t24 =>
  Dv P true (Instr.sliceAt 9 t0 (some t24) none none) w.drew fun t25 =>
  Dv P true (Instr.build 23 #[(0, t21), (1, t25)]) w.drew fun t26 =>
  Sto P 23 t4 t26 w.drew fun w =>
  k1 w)
  (Bn P .add 3 true t5 (.int .i64 1) w fun t14 w =>
  k2 t14 w))
  (k1 w)))
  (fun w =>
  Ld P 23 t4 w fun t27 w =>
  Cl P 40 #[t27] w (Pk R) fun t28 w =>
  Un P .not t28 w fun t30 w =>
  Gd t30 false (fun k => Ld P 23 t4 w k) w fun t32 w =>
  Gd t30 false (fun k => Cl P 16 #[t32] w (Pk R) k) w fun t33 w =>
  Gd t30 false (fun k => k t0 w) w fun t34 w =>
  Gd t30 false (fun k => Bn P .neq 9 false t33 t34 w k) w fun t35 w =>
  Pick t30 (.bool true) t35 w fun t36 w =>
  If t36
  (Bd P 23 [] w fun t37 w =>
  Sto P 23 t2 t37 w fun w =>
  Rc P 23 t2 w fun r0 =>
  R (.returned (.tuple #[r0, (.int .i64 40)])) w)
  (Ld P 23 t4 w fun t38 w =>
  Sto P 23 t2 t38 w fun w =>
  Rc P 23 t2 w fun r0 =>
  R (.returned (.tuple #[r0, (.int .i64 0)])) w))
theorem e_ref04_Parse {t0 : Value} {w : World} {R : Ending → World → Prop} (h : s_ref04_Parse Tryz.prog t0 w R) : Calls Tryz.prog 19 #[t0] w R :=
  enter (h := (.sq .z (.sq .z (.jn [] [5, 9, 10, 11, 12, 13, 14, 15, 16, 17, 18, 19, 20, 21, 22, 23, 24, 25, 26] (.sq .z (.bk (.lp [5] [9, 10, 11, 12, 13, 14, 15, 16, 17, 18, 19, 20, 21, 22, 23, 24, 25, 26] (.sq (.sq .z (.cd .z .z)) (.sq (.bk (.sq .z (.cd (.sq (.dr (.pur true 0 (.pur true 1 (.pur true 2 (.pur true 3 (.pur true 4 (.pur true 5 (.pur true 6 (.pur true 7 (.eff 8 [] .done)))))))))) .z) .z))) .z))))) (.sq .z (.sq (.sq .z (.cd (.sq .z .z) .z)) (.sq .z .z))))))) (args := [t0]) Tryz.func19 (by kernel_rfl) (by kernel_rfl) (by kernel_rfl) (Eq.mp (by kernel_rfl) h)
theorem n_ref04_Parse : Enters Tryz.prog 19 := enters_of Tryz.func19 (by kernel_rfl) rfl
def s_ref03_FromInt (P : Program) (t0 : Value) (w : World) (R : Ending → World → Prop) : Prop :=
  Lp2 (.slice none 0 0) t0 w (fun t3 t4 w k1 =>
  Bn P .neq 3 true t4 (.int .i64 0) w fun t10 w =>
  If t10
  (Bn P .rem 3 true t4 (.int .i64 10) w fun t14 w =>
  Bn P .lss 3 true t14 (.int .i64 0) w fun t16 w =>
  If t16
  (Un P .neg t14 w fun t18 w =>
  Bs P 53 1 [(0, t18)] w fun t21 w =>
  Bt P .append #[53, 53] 53 #[t3, t21] w fun t22 w =>
  Bn P .quo 3 true t4 (.int .i64 10) w fun t12 w =>
  k1 t22 t12 w)
  (Bs P 53 1 [(0, t14)] w fun t21x1 w =>
  Bt P .append #[53, 53] 53 #[t3, t21x1] w fun t22x1 w =>
  Bn P .quo 3 true t4 (.int .i64 10) w fun t12x1 w =>
  k1 t22x1 t12x1 w))
  (Bn P .lss 3 true t0 (.int .i64 0) w fun t25 w =>
  Cl P 52 #[t25, t3] w (Pk R) fun t27 w =>
  Ex t27 0 w fun t28 w =>
  Ex t27 1 w fun t29 w =>
  R (.returned t28) w))
theorem e_ref03_FromInt {t0 : Value} {w : World} {R : Ending → World → Prop} (h : s_ref03_FromInt Tryz.prog t0 w R) : Calls Tryz.prog 20 #[t0] w R :=
  enter (h := (.sq .z (.sq .z (.sq (.sq .z (.bk (.lp [3, 4] [5, 9, 10, 11, 12, 13, 14, 15, 16, 17, 18, 19, 20, 21, 22] (.sq (.sq .z (.cd .z .z)) (.sq (.bk (.sq .z (.sq (.sq .z (.cd .z .z)) .z))) .z))))) (.sq .z (.sq .z .z)))))) (args := [t0]) Tryz.func20 (by kernel_rfl) (by kernel_rfl) (by kernel_rfl) (Eq.mp (by kernel_rfl) h)
theorem n_ref03_FromInt : Enters Tryz.prog 20 := enters_of Tryz.func20 (by kernel_rfl) rfl
def s_ref03_Mul (P : Program) (t0 t1 : Value) (w : World) (R : Ending → World → Prop) : Prop :=
  Cl P 53 #[t0] w (Pk R) fun t11 w =>
  Un P .not t11 w fun t12 w =>
  Gd t12 false (fun k => k t1 w) w fun t14 w =>
  Gd t12 false (fun k => Cl P 53 #[t14] w (Pk R) k) w fun t15 w =>
  Gd t12 false (fun k => Un P .not t15 w k) w fun t16 w =>
  Pick t12 (.bool true) t16 w fun t17 w =>
  If t17
  (R (.returned (.tuple #[(str []), (.int .i64 30)])) w)
  (Cl P 54 #[t0] w (Pk R) fun t20 w =>
  Ex t20 0 w fun t21 w =>
  Ex t20 1 w fun t22 w =>
  Cl P 54 #[t1] w (Pk R) fun t25 w =>
  Ex t25 0 w fun t26 w =>
  Ex t25 1 w fun t27 w =>
  Bn P .neq 4 false t21 t26 w fun t30 w =>
  Cl P 56 #[t22, t27] w (Pk R) fun t33 w =>
  Cl P 55 #[t30, t33] w (Pk R) fun t34 w =>
  Ex t34 0 w fun t35 w =>
  Ex t34 1 w fun t36 w =>
  R (.returned (.tuple #[t35, t36])) w)
theorem e_ref03_Mul {t0 t1 : Value} {w : World} {R : Ending → World → Prop} (h : s_ref03_Mul Tryz.prog t0 t1 w R) : Calls Tryz.prog 21 #[t0, t1] w R :=
  enter (h := (.sq .z (.sq (.sq .z (.cd (.sq .z .z) .z)) (.sq .z (.sq .z (.sq .z .z)))))) (args := [t0, t1]) Tryz.func21 (by kernel_rfl) (by kernel_rfl) (by kernel_rfl) (Eq.mp (by kernel_rfl) h)
theorem n_ref03_Mul : Enters Tryz.prog 21 := enters_of Tryz.func21 (by kernel_rfl) rfl
def s_rational_Make (P : Program) (t0 t1 : Value) (w : World) (R : Ending → World → Prop) : Prop :=
  Al P 23 w fun t4 w =>
  Cl P 49 #[t0] w (Pk R) fun t8 w =>
  Un P .not t8 w fun t9 w =>
  Gd t9 false (fun k => k t1 w) w fun t11 w =>
  Gd t9 false (fun k => Cl P 49 #[t11] w (Pk R) k) w fun t12 w =>
  Gd t9 false (fun k => Un P .not t12 w k) w fun t13 w =>
  Pick t9 (.bool true) t13 w fun t14 w =>
  Bd P 78 [(0, t14)] w fun t15 w =>
  Bx P 78 t15 w fun t16 w =>
  Cl P 57 #[t16, t0, t1] w (Pk R) fun t20 w =>
  Ex t20 0 w fun t21 w =>
  Ex t20 1 w fun t22 w =>
  Sto P 23 t4 t21 w fun w =>
  Rc P 23 t4 w fun r0 =>
  R (.returned (.tuple #[r0, t22])) w
theorem e_rational_Make {t0 t1 : Value} {w : World} {R : Ending → World → Prop} (h : s_rational_Make Tryz.prog t0 t1 w R) : Calls Tryz.prog 22 #[t0, t1] w R :=
  enter (h := (.sq .z (.sq .z (.sq .z .z)))) (args := [t0, t1]) Tryz.func22 (by kernel_rfl) (by kernel_rfl) (by kernel_rfl) (Eq.mp (by kernel_rfl) h)
theorem n_rational_Make : Enters Tryz.prog 22 := enters_of Tryz.func22 (by kernel_rfl) rfl
def s_rational_Compare (P : Program) (t0 t1 : Value) (w : World) (R : Ending → World → Prop) : Prop :=
  Bx P 23 t0 w fun t2 w =>
  Bx P 23 t1 w fun t3 w =>
  Ld P 23 t2 w fun t13 w =>
  Cl P 17 #[t13] w (Pk R) fun t14 w =>
  Un P .not t14 w fun t15 w =>
  Gd t15 false (fun k => Ld P 23 t3 w k) w fun t17 w =>
  Gd t15 false (fun k => Cl P 17 #[t17] w (Pk R) k) w fun t18 w =>
  Gd t15 false (fun k => Un P .not t18 w k) w fun t19 w =>
  Pick t15 (.bool true) t19 w fun t20 w =>
  If t20
  (R (.returned (.int .i64 0)) w)
  (Lp1 (.int .i64 1) w (fun t5 w k1 =>
  Fa P 23 t2 0 w fun t22 w =>
  Ld P 9 t22 w fun t23 w =>
  Fa P 23 t2 1 w fun t24 w =>
  Ld P 9 t24 w fun t25 w =>
  Cl P 58 #[t23, t25] w (Pk R) fun t26 w =>
  Ex t26 0 w fun t27 w =>
  Ex t26 1 w fun t28 w =>
  Ex t26 2 w fun t29 w =>
  Fa P 23 t3 0 w fun t31 w =>
  Ld P 9 t31 w fun t32 w =>
  Fa P 23 t3 1 w fun t33 w =>
  Ld P 9 t33 w fun t34 w =>
  Cl P 58 #[t32, t34] w (Pk R) fun t35 w =>
  Ex t35 0 w fun t36 w =>
  Ex t35 1 w fun t37 w =>
  Ex t35 2 w fun t38 w =>
  Cl P 50 #[t27, t36] w (Pk R) fun t41 w =>
  Bn P .neq 3 true t41 (.int .i64 0) w fun t44 w =>
  If t44
  (Bn P .mul 3 false t5 t41 w fun t47 w =>
  R (.returned t47) w)
  (Bn P .eql 9 true t28 (str [48]) w fun t50 w =>
  Gd t50 true (fun k => k t37 w) w fun t52 w =>
  Gd t50 true (fun k => Bn P .eql 9 true t52 (str [48]) w k) w fun t53 w =>
  Pick t50 t53 (.bool false) w fun t54 w =>
  If t54
  (R (.returned (.int .i64 0)) w)
  (Bn P .eql 9 true t28 (str [48]) w fun t57 w =>
  If t57
  (Un P .neg t5 w fun t59 w =>
  R (.returned t59) w)
  (Bn P .eql 9 true t37 (str [48]) w fun t62 w =>
  If t62
  (R (.returned t5) w)
  (Dv P true (Instr.fieldAt 23 t2 1) w.drew fun t64 =>
  Dv P false (Instr.loadAt 9 t64) w.drew fun t65 =>
  Dv P true (Instr.build 23 #[(0, t65), (1, t28)]) w.drew fun t67 =>
  Dv P true (Instr.fieldAt 23 t3 1) w.drew fun t68 =>
  Dv P false (Instr.loadAt 9 t68) w.drew fun t69 =>
  Dv P true (Instr.build 23 #[(0, t69), (1, t37)]) w.drew fun t71 =>
  Dv P true (Op.unary .neg t5) w.drew fun t73 =>
  Sto P 23 t2 t67 w.drew fun w =>
  Ke P (Instr.loadAt 9 t68) t69 w <|
  Sto P 23 t3 t71 w fun w =>
  k1 t73 w))))))
theorem e_rational_Compare {t0 t1 : Value} {w : World} {R : Ending → World → Prop} (h : s_rational_Compare Tryz.prog t0 t1 w R) : Calls Tryz.prog 23 #[t0, t1] w R :=
  enter (h := (.sq .z (.sc [5] [4, 6, 7, 8, 9, 10, 11, 12, 21, 22, 23, 24, 25, 26, 27, 28, 29, 30, 31, 32, 33, 34, 35, 36, 37, 38, 39, 40, 41, 42, 43, 44, 45, 46, 47, 48, 49, 50, 51, 52, 53, 54, 55, 56, 57, 58, 59, 60, 61, 62, 63, 64, 65, 66, 67, 68, 69, 70, 71, 72, 73] (.sq .z (.cd (.sq .z .z) .z)) .z (.sq .z (.sq .z (.sq (.sq .z (.bk (.sq .z (.cd (.sq .z .z) (.sq .z (.cd (.sq .z .z) (.sq .z (.cd (.sq .z .z) (.sq .z (.cd (.sq .z .z) .z)))))))))) (.sq (.dr (.pur true 0 (.pur false 1 (.pur true 2 (.pur true 3 (.pur true 4 (.pur false 5 (.pur true 6 (.pur true 7 (.pur true 8 (.pur true 9 (.eff 10 [5] (.eff 11 [] (.pur true 12 .done)))))))))))))) .z))))))) (args := [t0, t1]) Tryz.func23 (by kernel_rfl) (by kernel_rfl) (by kernel_rfl) (Eq.mp (by kernel_rfl) h)
theorem n_rational_Compare : Enters Tryz.prog 23 := enters_of Tryz.func23 (by kernel_rfl) rfl
def s_law04_is (P : Program) (t0 t1 : Value) (w : World) (R : Ending → World → Prop) : Prop :=
  Al P 23 w fun t4 w =>
  Bd P 23 [(0, t0), (1, t1)] w fun t7 w =>
  Sto P 23 t4 t7 w fun w =>
  Rc P 23 t4 w fun r0 =>
  R (.returned r0) w
theorem e_law04_is {t0 t1 : Value} {w : World} {R : Ending → World → Prop} (h : s_law04_is Tryz.prog t0 t1 w R) : Calls Tryz.prog 24 #[t0, t1] w R :=
  enter (h := (.sq .z (.sq .z .z))) (args := [t0, t1]) Tryz.func24 (by kernel_rfl) (by kernel_rfl) (by kernel_rfl) (Eq.mp (by kernel_rfl) h)
theorem n_law04_is : Enters Tryz.prog 24 := enters_of Tryz.func24 (by kernel_rfl) rfl
def s_rational_Mul (P : Program) (t0 t1 : Value) (w : World) (R : Ending → World → Prop) : Prop :=
  Bx P 23 t0 w fun t2 w =>
  Bx P 23 t1 w fun t3 w =>
  Al P 23 w fun t4 w =>
  Bd P 78 [] w fun t8 w =>
  Bx P 78 t8 w fun t9 w =>
  Ld P 23 t2 w fun t11 w =>
  Ld P 23 t3 w fun t12 w =>
  Bs P 28 2 [(0, t11), (1, t12)] w fun t13 w =>
  Cl P 59 #[t9, t13] w (Pk R) fun t14 w =>
  Fa P 23 t2 0 w fun t16 w =>
  Ld P 9 t16 w fun t17 w =>
  Fa P 23 t3 0 w fun t18 w =>
  Ld P 9 t18 w fun t19 w =>
  Cl P 60 #[t9, t17, t19] w (Pk R) fun t20 w =>
  Fa P 23 t2 1 w fun t24 w =>
  Ld P 9 t24 w fun t25 w =>
  Fa P 23 t3 1 w fun t26 w =>
  Ld P 9 t26 w fun t27 w =>
  Cl P 60 #[t9, t25, t27] w (Pk R) fun t28 w =>
  Cl P 57 #[t9, t20, t28] w (Pk R) fun t29 w =>
  Ex t29 0 w fun t30 w =>
  Ex t29 1 w fun t31 w =>
  Sto P 23 t4 t30 w fun w =>
  Rc P 23 t4 w fun r0 =>
  R (.returned (.tuple #[r0, t31])) w
theorem e_rational_Mul {t0 t1 : Value} {w : World} {R : Ending → World → Prop} (h : s_rational_Mul Tryz.prog t0 t1 w R) : Calls Tryz.prog 25 #[t0, t1] w R :=
  enter (h := (.sq .z (.sq .z (.sq .z (.sq .z (.sq .z .z)))))) (args := [t0, t1]) Tryz.func25 (by kernel_rfl) (by kernel_rfl) (by kernel_rfl) (Eq.mp (by kernel_rfl) h)
theorem n_rational_Mul : Enters Tryz.prog 25 := enters_of Tryz.func25 (by kernel_rfl) rfl
def s_rational_Div (P : Program) (t0 t1 : Value) (w : World) (R : Ending → World → Prop) : Prop :=
  Bx P 23 t0 w fun t2 w =>
  Bx P 23 t1 w fun t3 w =>
  Al P 23 w fun t4 w =>
  Bd P 78 [] w fun t8 w =>
  Bx P 78 t8 w fun t9 w =>
  Ld P 23 t2 w fun t11 w =>
  Ld P 23 t3 w fun t12 w =>
  Bs P 28 2 [(0, t11), (1, t12)] w fun t13 w =>
  Cl P 59 #[t9, t13] w (Pk R) fun t14 w =>
  Fa P 23 t2 0 w fun t16 w =>
  Ld P 9 t16 w fun t17 w =>
  Fa P 23 t3 1 w fun t18 w =>
  Ld P 9 t18 w fun t19 w =>
  Cl P 60 #[t9, t17, t19] w (Pk R) fun t20 w =>
  Fa P 23 t2 1 w fun t24 w =>
  Ld P 9 t24 w fun t25 w =>
  Fa P 23 t3 0 w fun t26 w =>
  Ld P 9 t26 w fun t27 w =>
  Cl P 60 #[t9, t25, t27] w (Pk R) fun t28 w =>
  Cl P 57 #[t9, t20, t28] w (Pk R) fun t29 w =>
  Ex t29 0 w fun t30 w =>
  Ex t29 1 w fun t31 w =>
  Sto P 23 t4 t30 w fun w =>
  Rc P 23 t4 w fun r0 =>
  R (.returned (.tuple #[r0, t31])) w
theorem e_rational_Div {t0 t1 : Value} {w : World} {R : Ending → World → Prop} (h : s_rational_Div Tryz.prog t0 t1 w R) : Calls Tryz.prog 26 #[t0, t1] w R :=
  enter (h := (.sq .z (.sq .z (.sq .z (.sq .z (.sq .z .z)))))) (args := [t0, t1]) Tryz.func26 (by kernel_rfl) (by kernel_rfl) (by kernel_rfl) (Eq.mp (by kernel_rfl) h)
theorem n_rational_Div : Enters Tryz.prog 26 := enters_of Tryz.func26 (by kernel_rfl) rfl
def s_rational_Add (P : Program) (t0 t1 : Value) (w : World) (R : Ending → World → Prop) : Prop :=
  Bx P 23 t0 w fun t2 w =>
  Bx P 23 t1 w fun t3 w =>
  Al P 23 w fun t4 w =>
  Ld P 23 t2 w fun t6 w =>
  Ld P 23 t3 w fun t7 w =>
  Cl P 61 #[(.func (.func 62) #[] #[]), t6, t7] w (Pk R) fun t8 w =>
  Ex t8 0 w fun t9 w =>
  Ex t8 1 w fun t10 w =>
  Sto P 23 t4 t9 w fun w =>
  Rc P 23 t4 w fun r0 =>
  R (.returned (.tuple #[r0, t10])) w
theorem e_rational_Add {t0 t1 : Value} {w : World} {R : Ending → World → Prop} (h : s_rational_Add Tryz.prog t0 t1 w R) : Calls Tryz.prog 27 #[t0, t1] w R :=
  enter (h := (.sq .z (.sq .z .z))) (args := [t0, t1]) Tryz.func27 (by kernel_rfl) (by kernel_rfl) (by kernel_rfl) (Eq.mp (by kernel_rfl) h)
theorem n_rational_Add : Enters Tryz.prog 27 := enters_of Tryz.func27 (by kernel_rfl) rfl
def s_ref04_Small (P : Program) (t0 : Value) (w : World) (R : Ending → World → Prop) : Prop :=
  Bx P 47 t0 w fun t1 w =>
  Al P 23 w fun t2 w =>
  Dv P true (Instr.indexAt 47 t1 (.int .i64 0)) w.drew fun t6 =>
  Dv P false (Instr.loadAt 3 t6) w.drew fun t7 =>
  Dv P true (Instr.indexAt 47 t1 (.int .i64 1)) w.drew fun t10 =>
  Dv P false (Instr.loadAt 3 t10) w.drew fun t11 =>
  (Cl P 46 #[t7, (.int .i64 1999)] w.drew (Pk R) fun t8 w =>
  Ke P (Instr.loadAt 3 t10) t11 w <|
  Dv P true (bn .sub 3 true t8 (.int .i64 999)) w fun t9 =>
  (Cl P 46 #[t11, (.int .i64 60)] w (Pk R) fun t12 w =>
  Dv P true (bn .add 3 true (.int .i64 1) t12) w fun t13 =>
  (Cl P 42 #[t9, t13] w (Pk R) fun t14 w =>
  ExP t14 0 fun t15 =>
  ExP t14 1 fun t16 =>
  Al P 23 w fun t3 w =>
  Ke P (Instr.loadAt 3 t6) t7 w <|
  Ke P (Instr.loadAt 3 t10) t11 w <|
  Sto P 23 t3 t15 w fun w =>
  Ld P 23 t3 w fun t17 w =>
  Sto P 23 t2 t17 w fun w =>
  Rc P 23 t2 w fun r0 =>
  R (.returned r0) w) ∧
  (Al P 23 w fun t3x1 w =>
  Ke P (Instr.loadAt 3 t6) t7 w <|
  Ke P (Instr.loadAt 3 t10) t11 w <|
  Cl P 42 #[t9, t13] w (Pk R) fun t14x1 w =>
  ExP t14x1 0 fun t15x1 =>
  ExP t14x1 1 fun t16x1 =>
  Sto P 23 t3x1 t15x1 w fun w =>
  Ld P 23 t3x1 w fun t17x1 w =>
  Sto P 23 t2 t17x1 w fun w =>
  Rc P 23 t2 w fun r0 =>
  R (.returned r0) w)) ∧
  (Al P 23 w fun t3x2 w =>
  Ke P (Instr.loadAt 3 t6) t7 w <|
  Ke P (Instr.loadAt 3 t10) t11 w <|
  Cl P 46 #[t11, (.int .i64 60)] w (Pk R) fun t12x1 w =>
  Dv P true (bn .add 3 true (.int .i64 1) t12x1) w fun t13x1 =>
  Cl P 42 #[t9, t13x1] w (Pk R) fun t14x2 w =>
  ExP t14x2 0 fun t15x2 =>
  ExP t14x2 1 fun t16x2 =>
  Sto P 23 t3x2 t15x2 w fun w =>
  Ld P 23 t3x2 w fun t17x2 w =>
  Sto P 23 t2 t17x2 w fun w =>
  Rc P 23 t2 w fun r0 =>
  R (.returned r0) w)) ∧
  (Al P 23 w.drew fun t3x3 w =>
  Ke P (Instr.loadAt 3 t6) t7 w <|
  Ke P (Instr.loadAt 3 t10) t11 w <|
  Cl P 46 #[t7, (.int .i64 1999)] w (Pk R) fun t8x1 w =>
  Ke P (Instr.loadAt 3 t10) t11 w <|
  Dv P true (bn .sub 3 true t8x1 (.int .i64 999)) w fun t9x1 =>
  Cl P 46 #[t11, (.int .i64 60)] w (Pk R) fun t12x2 w =>
  Dv P true (bn .add 3 true (.int .i64 1) t12x2) w fun t13x2 =>
  Cl P 42 #[t9x1, t13x2] w (Pk R) fun t14x3 w =>
  ExP t14x3 0 fun t15x3 =>
  ExP t14x3 1 fun t16x3 =>
  Sto P 23 t3x3 t15x3 w fun w =>
  Ld P 23 t3x3 w fun t17x3 w =>
  Sto P 23 t2 t17x3 w fun w =>
  Rc P 23 t2 w fun r0 =>
  R (.returned r0) w)
theorem e_ref04_Small {t0 : Value} {w : World} {R : Ending → World → Prop} (h : s_ref04_Small Tryz.prog t0 w R) : Calls Tryz.prog 28 #[t0] w R :=
  enter (h := (.sq .z (.sq (.dr (.pur true 0 (.pur false 1 (.pur true 4 (.pur false 5 (.alt (.eff 2 [5] (.pur true 3 (.alt (.eff 6 [] (.pur true 7 (.alt (.eff 8 [] (.pur true 9 (.pur true 10 (.pur true 11 (.eff 12 [1, 5] (.eff 13 [] (.pur true 14 .done))))))) (.eff 12 [1, 5] (.eff 8 [] (.pur true 9 (.pur true 10 (.pur true 11 (.eff 13 [] (.pur true 14 .done)))))))))) (.eff 12 [1, 5] (.eff 6 [] (.pur true 7 (.eff 8 [] (.pur true 9 (.pur true 10 (.pur true 11 (.eff 13 [] (.pur true 14 .done)))))))))))) (.eff 12 [1, 5] (.eff 2 [5] (.pur true 3 (.eff 6 [] (.pur true 7 (.eff 8 [] (.pur true 9 (.pur true 10 (.pur true 11 (.eff 13 [] (.pur true 14 .done))))))))))))))))) (.sq .z .z)))) (args := [t0]) Tryz.func28 (by kernel_rfl) (by kernel_rfl) (by kernel_rfl) (Eq.mp (by kernel_rfl) h)
theorem n_ref04_Small : Enters Tryz.prog 28 := enters_of Tryz.func28 (by kernel_rfl) rfl
def s_law04_four (P : Program) (t0 t1 : Value) (w : World) (R : Ending → World → Prop) : Prop :=
  Bx P 23 t0 w fun t2 w =>
  Bx P 23 t1 w fun t3 w =>
  Al P 49 w fun t4 w =>
  Al P 50 w fun t5 w =>
  Al P 49 w fun t6 w =>
  Al P 50 w fun t7 w =>
  Ld P 23 t2 w fun t9 w =>
  Ld P 23 t3 w fun t10 w =>
  Cl P 27 #[t9, t10] w (Pk R) fun t11 w =>
  Ex t11 0 w fun t12 w =>
  Ex t11 1 w fun t13 w =>
  Ia P 49 t6 (.int .i64 0) w fun t14 w =>
  Sto P 23 t14 t12 w fun w =>
  Ia P 50 t7 (.int .i64 0) w fun t15 w =>
  Sto P 30 t15 t13 w fun w =>
  Ld P 23 t2 w fun t17 w =>
  Ld P 23 t3 w fun t18 w =>
  Cl P 44 #[t17, t18] w (Pk R) fun t19 w =>
  Ex t19 0 w fun t20 w =>
  Ex t19 1 w fun t21 w =>
  Ia P 49 t6 (.int .i64 1) w fun t22 w =>
  Sto P 23 t22 t20 w fun w =>
  Ia P 50 t7 (.int .i64 1) w fun t23 w =>
  Sto P 30 t23 t21 w fun w =>
  Ld P 23 t2 w fun t25 w =>
  Ld P 23 t3 w fun t26 w =>
  Cl P 25 #[t25, t26] w (Pk R) fun t27 w =>
  Ex t27 0 w fun t28 w =>
  Ex t27 1 w fun t29 w =>
  Ia P 49 t6 (.int .i64 2) w fun t30 w =>
  Sto P 23 t30 t28 w fun w =>
  Ia P 50 t7 (.int .i64 2) w fun t31 w =>
  Sto P 30 t31 t29 w fun w =>
  Ld P 23 t2 w fun t33 w =>
  Ld P 23 t3 w fun t34 w =>
  Cl P 26 #[t33, t34] w (Pk R) fun t35 w =>
  Ex t35 0 w fun t36 w =>
  Ex t35 1 w fun t37 w =>
  Ia P 49 t6 (.int .i64 3) w fun t38 w =>
  Sto P 23 t38 t36 w fun w =>
  Ia P 50 t7 (.int .i64 3) w fun t39 w =>
  Sto P 30 t39 t37 w fun w =>
  Dv P false (Instr.loadAt 49 t6) w.drew fun t40 =>
  Dv P false (Instr.loadAt 50 t7) w.drew fun t41 =>
  Sto P 49 t4 t40 w.drew fun w =>
  Ke P (Instr.loadAt 50 t7) t41 w <|
  Sto P 50 t5 t41 w fun w =>
  Rc P 49 t4 w fun r0 =>
  Rc P 50 t5 w fun r1 =>
  R (.returned (.tuple #[r0, r1])) w
theorem e_law04_four {t0 t1 : Value} {w : World} {R : Ending → World → Prop} (h : s_law04_four Tryz.prog t0 t1 w R) : Calls Tryz.prog 29 #[t0, t1] w R :=
  enter (h := (.sq .z (.sq .z (.sq .z (.sq .z (.sq .z (.sq .z (.sq .z (.sq (.dr (.pur false 0 (.pur false 1 (.eff 2 [1] (.eff 3 [] .done))))) .z))))))))) (args := [t0, t1]) Tryz.func29 (by kernel_rfl) (by kernel_rfl) (by kernel_rfl) (Eq.mp (by kernel_rfl) h)
theorem n_law04_four : Enters Tryz.prog 29 := enters_of Tryz.func29 (by kernel_rfl) rfl
def s_ref04_Add (P : Program) (t0 t1 : Value) (w : World) (R : Ending → World → Prop) : Prop :=
  Bx P 23 t0 w fun t2 w =>
  Bx P 23 t1 w fun t3 w =>
  Al P 23 w fun t4 w =>
  Ld P 23 t2 w fun t13 w =>
  Ld P 23 t3 w fun t14 w =>
  Cl P 63 #[t13, t14] w (Pk R) fun t15 w =>
  Ex t15 0 w fun t16 w =>
  Ex t15 1 w fun t17 w =>
  Ex t15 2 w fun t18 w =>
  Ex t15 3 w fun t19 w =>
  Un P .not t19 w fun t21 w =>
  If t21
  (Bd P 23 [] w fun t22 w =>
  Sto P 23 t4 t22 w fun w =>
  Rc P 23 t4 w fun r0 =>
  R (.returned (.tuple #[r0, (.int .i64 40)])) w)
  (Cl P 64 #[t16, t17] w (Pk R) fun t26 w =>
  Ex t26 0 w fun t27 w =>
  Ex t26 1 w fun t28 w =>
  Bn P .neq 30 true t28 (.int .i64 0) w fun t30 w =>
  If t30
  (Bd P 23 [] w fun t31 w =>
  Sto P 23 t4 t31 w fun w =>
  Rc P 23 t4 w fun r0 =>
  R (.returned (.tuple #[r0, (.int .i64 40)])) w)
  (Cl P 39 #[t27, t18] w (Pk R) fun t34 w =>
  Ex t34 0 w fun t35 w =>
  Ex t34 1 w fun t36 w =>
  Sto P 23 t4 t35 w fun w =>
  Rc P 23 t4 w fun r0 =>
  R (.returned (.tuple #[r0, t36])) w))
theorem e_ref04_Add {t0 t1 : Value} {w : World} {R : Ending → World → Prop} (h : s_ref04_Add Tryz.prog t0 t1 w R) : Calls Tryz.prog 30 #[t0, t1] w R :=
  enter (h := (.sq .z (.sq .z (.sq (.sq .z (.cd (.sq .z .z) .z)) (.sq .z (.sq (.sq .z (.cd (.sq .z .z) .z)) (.sq .z .z))))))) (args := [t0, t1]) Tryz.func30 (by kernel_rfl) (by kernel_rfl) (by kernel_rfl) (Eq.mp (by kernel_rfl) h)
theorem n_ref04_Add : Enters Tryz.prog 30 := enters_of Tryz.func30 (by kernel_rfl) rfl
def s_ref04_Sub (P : Program) (t0 t1 : Value) (w : World) (R : Ending → World → Prop) : Prop :=
  Bx P 23 t0 w fun t2 w =>
  Bx P 23 t1 w fun t3 w =>
  Al P 23 w fun t4 w =>
  Ld P 23 t2 w fun t13 w =>
  Ld P 23 t3 w fun t14 w =>
  Cl P 63 #[t13, t14] w (Pk R) fun t15 w =>
  Ex t15 0 w fun t16 w =>
  Ex t15 1 w fun t17 w =>
  Ex t15 2 w fun t18 w =>
  Ex t15 3 w fun t19 w =>
  Un P .not t19 w fun t21 w =>
  If t21
  (Bd P 23 [] w fun t22 w =>
  Sto P 23 t4 t22 w fun w =>
  Rc P 23 t4 w fun r0 =>
  R (.returned (.tuple #[r0, (.int .i64 40)])) w)
  (Cl P 65 #[t16, t17] w (Pk R) fun t26 w =>
  Ex t26 0 w fun t27 w =>
  Ex t26 1 w fun t28 w =>
  Bn P .neq 30 true t28 (.int .i64 0) w fun t30 w =>
  If t30
  (Bd P 23 [] w fun t31 w =>
  Sto P 23 t4 t31 w fun w =>
  Rc P 23 t4 w fun r0 =>
  R (.returned (.tuple #[r0, (.int .i64 40)])) w)
  (Cl P 39 #[t27, t18] w (Pk R) fun t34 w =>
  Ex t34 0 w fun t35 w =>
  Ex t34 1 w fun t36 w =>
  Sto P 23 t4 t35 w fun w =>
  Rc P 23 t4 w fun r0 =>
  R (.returned (.tuple #[r0, t36])) w))
theorem e_ref04_Sub {t0 t1 : Value} {w : World} {R : Ending → World → Prop} (h : s_ref04_Sub Tryz.prog t0 t1 w R) : Calls Tryz.prog 31 #[t0, t1] w R :=
  enter (h := (.sq .z (.sq .z (.sq (.sq .z (.cd (.sq .z .z) .z)) (.sq .z (.sq (.sq .z (.cd (.sq .z .z) .z)) (.sq .z .z))))))) (args := [t0, t1]) Tryz.func31 (by kernel_rfl) (by kernel_rfl) (by kernel_rfl) (Eq.mp (by kernel_rfl) h)
theorem n_ref04_Sub : Enters Tryz.prog 31 := enters_of Tryz.func31 (by kernel_rfl) rfl
def s_ref04_Mul (P : Program) (t0 t1 : Value) (w : World) (R : Ending → World → Prop) : Prop :=
  Bx P 23 t0 w fun t2 w =>
  Bx P 23 t1 w fun t3 w =>
  Al P 23 w fun t4 w =>
  Ld P 23 t2 w fun t12 w =>
  Cl P 40 #[t12] w (Pk R) fun t13 w =>
  Ld P 23 t3 w fun t14 w =>
  Cl P 40 #[t14] w (Pk R) fun t15 w =>
  Un P .not t13 w fun t17 w =>
  Gd t17 false (fun k => k t15 w) w fun t19 w =>
  Gd t17 false (fun k => Un P .not t19 w k) w fun t20 w =>
  Pick t17 (.bool true) t20 w fun t21 w =>
  If t21
  (Bd P 23 [] w fun t22 w =>
  Sto P 23 t4 t22 w fun w =>
  Rc P 23 t4 w fun r0 =>
  R (.returned (.tuple #[r0, (.int .i64 40)])) w)
  (Fa P 23 t2 0 w fun t24 w =>
  Ld P 9 t24 w fun t25 w =>
  Fa P 23 t3 0 w fun t26 w =>
  Ld P 9 t26 w fun t27 w =>
  Cl P 21 #[t25, t27] w (Pk R) fun t28 w =>
  Ex t28 0 w fun t29 w =>
  Ex t28 1 w fun t30 w =>
  Fa P 23 t2 1 w fun t32 w =>
  Ld P 9 t32 w fun t33 w =>
  Fa P 23 t3 1 w fun t34 w =>
  Ld P 9 t34 w fun t35 w =>
  Cl P 21 #[t33, t35] w (Pk R) fun t36 w =>
  Ex t36 0 w fun t37 w =>
  Ex t36 1 w fun t38 w =>
  Bn P .neq 30 true t30 (.int .i64 0) w fun t40 w =>
  Gd t40 false (fun k => k t38 w) w fun t42 w =>
  Gd t40 false (fun k => Bn P .neq 30 true t42 (.int .i64 0) w k) w fun t43 w =>
  Pick t40 (.bool true) t43 w fun t44 w =>
  If t44
  (Bd P 23 [] w fun t45 w =>
  Sto P 23 t4 t45 w fun w =>
  Rc P 23 t4 w fun r0 =>
  R (.returned (.tuple #[r0, (.int .i64 40)])) w)
  (Cl P 39 #[t29, t37] w (Pk R) fun t48 w =>
  Ex t48 0 w fun t49 w =>
  Ex t48 1 w fun t50 w =>
  Sto P 23 t4 t49 w fun w =>
  Rc P 23 t4 w fun r0 =>
  R (.returned (.tuple #[r0, t50])) w))
theorem e_ref04_Mul {t0 t1 : Value} {w : World} {R : Ending → World → Prop} (h : s_ref04_Mul Tryz.prog t0 t1 w R) : Calls Tryz.prog 32 #[t0, t1] w R :=
  enter (h := (.sq .z (.sq .z (.sq .z (.sq (.sq .z (.cd (.sq .z .z) .z)) (.sq .z (.sq .z (.sq (.sq .z (.cd (.sq .z .z) .z)) (.sq .z .z))))))))) (args := [t0, t1]) Tryz.func32 (by kernel_rfl) (by kernel_rfl) (by kernel_rfl) (Eq.mp (by kernel_rfl) h)
theorem n_ref04_Mul : Enters Tryz.prog 32 := enters_of Tryz.func32 (by kernel_rfl) rfl
def s_ref04_Div (P : Program) (t0 t1 : Value) (w : World) (R : Ending → World → Prop) : Prop :=
  Bx P 23 t0 w fun t2 w =>
  Bx P 23 t1 w fun t3 w =>
  Al P 23 w fun t4 w =>
  Ld P 23 t2 w fun t12 w =>
  Cl P 40 #[t12] w (Pk R) fun t13 w =>
  Ld P 23 t3 w fun t14 w =>
  Cl P 40 #[t14] w (Pk R) fun t15 w =>
  Un P .not t13 w fun t17 w =>
  Gd t17 false (fun k => k t15 w) w fun t19 w =>
  Gd t17 false (fun k => Un P .not t19 w k) w fun t20 w =>
  Pick t17 (.bool true) t20 w fun t21 w =>
  If t21
  (Bd P 23 [] w fun t22 w =>
  Sto P 23 t4 t22 w fun w =>
  Rc P 23 t4 w fun r0 =>
  R (.returned (.tuple #[r0, (.int .i64 40)])) w)
  (Fa P 23 t2 0 w fun t24 w =>
  Ld P 9 t24 w fun t25 w =>
  Fa P 23 t3 1 w fun t26 w =>
  Ld P 9 t26 w fun t27 w =>
  Cl P 21 #[t25, t27] w (Pk R) fun t28 w =>
  Ex t28 0 w fun t29 w =>
  Ex t28 1 w fun t30 w =>
  Fa P 23 t2 1 w fun t32 w =>
  Ld P 9 t32 w fun t33 w =>
  Fa P 23 t3 0 w fun t34 w =>
  Ld P 9 t34 w fun t35 w =>
  Cl P 21 #[t33, t35] w (Pk R) fun t36 w =>
  Ex t36 0 w fun t37 w =>
  Ex t36 1 w fun t38 w =>
  Bn P .neq 30 true t30 (.int .i64 0) w fun t40 w =>
  Gd t40 false (fun k => k t38 w) w fun t42 w =>
  Gd t40 false (fun k => Bn P .neq 30 true t42 (.int .i64 0) w k) w fun t43 w =>
  Pick t40 (.bool true) t43 w fun t44 w =>
  If t44
  (Bd P 23 [] w fun t45 w =>
  Sto P 23 t4 t45 w fun w =>
  Rc P 23 t4 w fun r0 =>
  R (.returned (.tuple #[r0, (.int .i64 40)])) w)
  (Cl P 39 #[t29, t37] w (Pk R) fun t48 w =>
  Ex t48 0 w fun t49 w =>
  Ex t48 1 w fun t50 w =>
  Sto P 23 t4 t49 w fun w =>
  Rc P 23 t4 w fun r0 =>
  R (.returned (.tuple #[r0, t50])) w))
theorem e_ref04_Div {t0 t1 : Value} {w : World} {R : Ending → World → Prop} (h : s_ref04_Div Tryz.prog t0 t1 w R) : Calls Tryz.prog 33 #[t0, t1] w R :=
  enter (h := (.sq .z (.sq .z (.sq .z (.sq (.sq .z (.cd (.sq .z .z) .z)) (.sq .z (.sq .z (.sq (.sq .z (.cd (.sq .z .z) .z)) (.sq .z .z))))))))) (args := [t0, t1]) Tryz.func33 (by kernel_rfl) (by kernel_rfl) (by kernel_rfl) (Eq.mp (by kernel_rfl) h)
theorem n_ref04_Div : Enters Tryz.prog 33 := enters_of Tryz.func33 (by kernel_rfl) rfl
def s_ref04_Compare (P : Program) (t0 t1 : Value) (w : World) (R : Ending → World → Prop) : Prop :=
  Bx P 23 t0 w fun t2 w =>
  Bx P 23 t1 w fun t3 w =>
  Ld P 23 t2 w fun t19 w =>
  Cl P 40 #[t19] w (Pk R) fun t20 w =>
  Ld P 23 t3 w fun t21 w =>
  Cl P 40 #[t21] w (Pk R) fun t22 w =>
  Un P .not t20 w fun t24 w =>
  Gd t24 false (fun k => k t22 w) w fun t26 w =>
  Gd t24 false (fun k => Un P .not t26 w k) w fun t27 w =>
  Pick t24 (.bool true) t27 w fun t28 w =>
  If t28
  (R (.returned (.int .i64 0)) w)
  (Fa P 23 t2 0 w fun t29 w =>
  Ld P 9 t29 w fun t30 w =>
  Fa P 23 t2 1 w fun t31 w =>
  Ld P 9 t31 w fun t32 w =>
  Fa P 23 t3 0 w fun t33 w =>
  Ld P 9 t33 w fun t34 w =>
  Fa P 23 t3 1 w fun t35 w =>
  Ld P 9 t35 w fun t36 w =>
  Lp5 (.int .i64 1) t30 t32 t34 t36 w (fun t7 t8 t9 t10 t11 w k1 =>
  Cl P 66 #[t8, t9] w (Pk R) fun t40 w =>
  Ex t40 0 w fun t41 w =>
  Ex t40 1 w fun t42 w =>
  Ex t40 2 w fun t43 w =>
  Cl P 66 #[t10, t11] w (Pk R) fun t47 w =>
  Ex t47 0 w fun t48 w =>
  Ex t47 1 w fun t49 w =>
  Ex t47 2 w fun t50 w =>
  Cl P 67 #[t41, t48] w (Pk R) fun t53 w =>
  Bn P .neq 3 true t53 (.int .i64 0) w fun t55 w =>
  If t55
  (Bn P .mul 3 false t7 t53 w fun t58 w =>
  R (.returned t58) w)
  (Bn P .eql 9 true t42 (str [48]) w fun t60 w =>
  Gd t60 false (fun k => k t49 w) w fun t62 w =>
  Gd t60 false (fun k => Bn P .eql 9 true t62 (str [48]) w k) w fun t63 w =>
  Pick t60 (.bool true) t63 w fun t64 w =>
  If t64
  (Cl P 68 #[t42] w (Pk R) fun t67 w =>
  Cl P 68 #[t49] w (Pk R) fun t69 w =>
  Cl P 67 #[t67, t69] w (Pk R) fun t70 w =>
  Bn P .mul 3 false t7 t70 w fun t71 w =>
  R (.returned t71) w)
  (Un P .neg t7 w fun t77 w =>
  k1 t77 t9 t42 t11 t49 w))))
theorem e_ref04_Compare {t0 t1 : Value} {w : World} {R : Ending → World → Prop} (h : s_ref04_Compare Tryz.prog t0 t1 w R) : Calls Tryz.prog 34 #[t0, t1] w R :=
  enter (h := (.sq .z (.sq .z (.sq .z (.sq (.sq .z (.cd (.sq .z .z) .z)) (.sq .z (.sq .z (.sq .z (.sq .z (.sq .z (.bk (.lp [7, 8, 9, 10, 11] [4, 12, 13, 14, 15, 16, 17, 18, 37, 38, 39, 40, 41, 42, 43, 44, 45, 46, 47, 48, 49, 50, 51, 52, 53, 54, 55, 56, 57, 58, 59, 60, 61, 62, 63, 64, 65, 66, 67, 68, 69, 70, 71, 72, 73, 74, 75, 76, 77] (.bk (.sq .z (.sq .z (.sq .z (.sq (.sq .z (.cd (.sq .z .z) .z)) (.sq (.sq .z (.cd (.sq .z .z) .z)) (.sq .z (.sq .z .z)))))))))))))))))))) (args := [t0, t1]) Tryz.func34 (by kernel_rfl) (by kernel_rfl) (by kernel_rfl) (Eq.mp (by kernel_rfl) h)
theorem n_ref04_Compare : Enters Tryz.prog 34 := enters_of Tryz.func34 (by kernel_rfl) rfl
def s_rational_Down (P : Program) (t0 t1 : Value) (w : World) (R : Ending → World → Prop) : Prop :=
  Bx P 23 t0 w fun t2 w =>
  Al P 23 w fun t4 w =>
  Ld P 23 t2 w fun t6 w =>
  Cl P 69 #[t6, t1, (.bool false)] w (Pk R) fun t8 w =>
  Ex t8 0 w fun t9 w =>
  Ex t8 1 w fun t10 w =>
  Sto P 23 t4 t9 w fun w =>
  Rc P 23 t4 w fun r0 =>
  R (.returned (.tuple #[r0, t10])) w
theorem e_rational_Down {t0 t1 : Value} {w : World} {R : Ending → World → Prop} (h : s_rational_Down Tryz.prog t0 t1 w R) : Calls Tryz.prog 35 #[t0, t1] w R :=
  enter (h := (.sq .z (.sq .z .z))) (args := [t0, t1]) Tryz.func35 (by kernel_rfl) (by kernel_rfl) (by kernel_rfl) (Eq.mp (by kernel_rfl) h)
theorem n_rational_Down : Enters Tryz.prog 35 := enters_of Tryz.func35 (by kernel_rfl) rfl
def s_ref04_Down (P : Program) (t0 t1 : Value) (w : World) (R : Ending → World → Prop) : Prop :=
  Bx P 23 t0 w fun t2 w =>
  Al P 23 w fun t4 w =>
  Ld P 23 t2 w fun t11 w =>
  Cl P 70 #[t11, t1] w (Pk R) fun t13 w =>
  Ex t13 0 w fun t14 w =>
  Ex t13 1 w fun t15 w =>
  Ex t13 2 w fun t16 w =>
  Ex t13 3 w fun t17 w =>
  Un P .not t17 w fun t19 w =>
  If t19
  (Bd P 23 [] w fun t20 w =>
  Sto P 23 t4 t20 w fun w =>
  Rc P 23 t4 w fun r0 =>
  R (.returned (.tuple #[r0, (.int .i64 40)])) w)
  (Cl P 39 #[t14, t16] w (Pk R) fun t23 w =>
  Ex t23 0 w fun t24 w =>
  Ex t23 1 w fun t25 w =>
  Sto P 23 t4 t24 w fun w =>
  Rc P 23 t4 w fun r0 =>
  R (.returned (.tuple #[r0, t25])) w)
theorem e_ref04_Down {t0 t1 : Value} {w : World} {R : Ending → World → Prop} (h : s_ref04_Down Tryz.prog t0 t1 w R) : Calls Tryz.prog 36 #[t0, t1] w R :=
  enter (h := (.sq .z (.sq .z (.sq (.sq .z (.cd (.sq .z .z) .z)) (.sq .z .z))))) (args := [t0, t1]) Tryz.func36 (by kernel_rfl) (by kernel_rfl) (by kernel_rfl) (Eq.mp (by kernel_rfl) h)
theorem n_ref04_Down : Enters Tryz.prog 36 := enters_of Tryz.func36 (by kernel_rfl) rfl
def s_rational_Up (P : Program) (t0 t1 : Value) (w : World) (R : Ending → World → Prop) : Prop :=
  Bx P 23 t0 w fun t2 w =>
  Al P 23 w fun t4 w =>
  Ld P 23 t2 w fun t6 w =>
  Cl P 69 #[t6, t1, (.bool true)] w (Pk R) fun t8 w =>
  Ex t8 0 w fun t9 w =>
  Ex t8 1 w fun t10 w =>
  Sto P 23 t4 t9 w fun w =>
  Rc P 23 t4 w fun r0 =>
  R (.returned (.tuple #[r0, t10])) w
theorem e_rational_Up {t0 t1 : Value} {w : World} {R : Ending → World → Prop} (h : s_rational_Up Tryz.prog t0 t1 w R) : Calls Tryz.prog 37 #[t0, t1] w R :=
  enter (h := (.sq .z (.sq .z .z))) (args := [t0, t1]) Tryz.func37 (by kernel_rfl) (by kernel_rfl) (by kernel_rfl) (Eq.mp (by kernel_rfl) h)
theorem n_rational_Up : Enters Tryz.prog 37 := enters_of Tryz.func37 (by kernel_rfl) rfl
def s_ref04_Up (P : Program) (t0 t1 : Value) (w : World) (R : Ending → World → Prop) : Prop :=
  Bx P 23 t0 w fun t2 w =>
  Al P 23 w fun t4 w =>
  Ld P 23 t2 w fun t13 w =>
  Cl P 70 #[t13, t1] w (Pk R) fun t15 w =>
  Ex t15 0 w fun t16 w =>
  Ex t15 1 w fun t17 w =>
  Ex t15 2 w fun t18 w =>
  Ex t15 3 w fun t19 w =>
  Un P .not t19 w fun t21 w =>
  If t21
  (Bd P 23 [] w fun t22 w =>
  Sto P 23 t4 t22 w fun w =>
  Rc P 23 t4 w fun r0 =>
  R (.returned (.tuple #[r0, (.int .i64 40)])) w)
  (Jn1 (fun k1 =>
  Bn P .neq 9 true t17 (str [48]) w fun t24 w =>
  If t24
  (Cl P 64 #[t16, (str [49])] w (Pk R) fun t27 w =>
  Ex t27 0 w fun t28 w =>
  Ex t27 1 w fun t29 w =>
  Bn P .neq 30 true t29 (.int .i64 0) w fun t31 w =>
  If t31
  (Bd P 23 [] w fun t32 w =>
  Sto P 23 t4 t32 w fun w =>
  Rc P 23 t4 w fun r0 =>
  R (.returned (.tuple #[r0, (.int .i64 40)])) w)
  (k1 t28 w))
  (k1 t16 w))
  (fun t6 w =>
  Cl P 39 #[t6, t18] w (Pk R) fun t36 w =>
  Ex t36 0 w fun t37 w =>
  Ex t36 1 w fun t38 w =>
  Sto P 23 t4 t37 w fun w =>
  Rc P 23 t4 w fun r0 =>
  R (.returned (.tuple #[r0, t38])) w))
theorem e_ref04_Up {t0 t1 : Value} {w : World} {R : Ending → World → Prop} (h : s_ref04_Up Tryz.prog t0 t1 w R) : Calls Tryz.prog 38 #[t0, t1] w R :=
  enter (h := (.sq .z (.sq .z (.sq (.sq .z (.cd (.sq .z .z) .z)) (.jn [6] [5, 10, 11, 23, 24, 25, 26, 27, 28, 29, 30, 31, 32, 33] (.sq .z (.cd (.sq .z (.sq (.sq .z (.cd (.sq .z .z) .z)) .z)) .z)) (.sq .z .z)))))) (args := [t0, t1]) Tryz.func38 (by kernel_rfl) (by kernel_rfl) (by kernel_rfl) (Eq.mp (by kernel_rfl) h)
theorem n_ref04_Up : Enters Tryz.prog 38 := enters_of Tryz.func38 (by kernel_rfl) rfl
def s_ref04_Make (P : Program) (t0 t1 : Value) (w : World) (R : Ending → World → Prop) : Prop :=
  Al P 23 w fun t4 w =>
  Cl P 53 #[t0] w (Pk R) fun t17 w =>
  Cl P 53 #[t1] w (Pk R) fun t19 w =>
  Un P .not t17 w fun t21 w =>
  Gd t21 false (fun k => k t19 w) w fun t23 w =>
  Gd t21 false (fun k => Un P .not t23 w k) w fun t24 w =>
  Pick t21 (.bool true) t24 w fun t25 w =>
  Gd t25 false (fun k => k t1 w) w fun t27 w =>
  Gd t25 false (fun k => Bn P .eql 9 true t27 (str [48]) w k) w fun t28 w =>
  Pick t25 (.bool true) t28 w fun t29 w =>
  If t29
  (Bd P 23 [] w fun t30 w =>
  Sto P 23 t4 t30 w fun w =>
  Rc P 23 t4 w fun r0 =>
  R (.returned (.tuple #[r0, (.int .i64 40)])) w)
  (Jn2 (fun k1 =>
  Cl P 67 #[t1, (str [48])] w (Pk R) fun t32 w =>
  Bn P .lss 3 true t32 (.int .i64 0) w fun t33 w =>
  If t33
  (Cl P 65 #[(str [48]), t0] w (Pk R) fun t36 w =>
  Ex t36 0 w fun t37 w =>
  Ex t36 1 w fun t38 w =>
  Cl P 65 #[(str [48]), t1] w (Pk R) fun t41 w =>
  Ex t41 0 w fun t42 w =>
  Ex t41 1 w fun t43 w =>
  k1 t37 t42 w)
  (k1 t0 t1 w))
  (fun t0x1 t1x1 w =>
  Cl P 71 #[t0x1, t1x1] w (Pk R) fun t47 w =>
  Ex t47 0 w fun t48 w =>
  Ex t47 1 w fun t49 w =>
  Cl P 66 #[t0x1, t48] w (Pk R) fun t53 w =>
  Ex t53 0 w fun t54 w =>
  Ex t53 1 w fun t55 w =>
  Ex t53 2 w fun t56 w =>
  Cl P 66 #[t1x1, t48] w (Pk R) fun t60 w =>
  Ex t60 0 w fun t61 w =>
  Ex t60 1 w fun t62 w =>
  Ex t60 2 w fun t63 w =>
  Bn P .neq 30 true t56 (.int .i64 0) w fun t65 w =>
  Gd t65 false (fun k => k t63 w) w fun t67 w =>
  Gd t65 false (fun k => Bn P .neq 30 true t67 (.int .i64 0) w k) w fun t68 w =>
  Pick t65 (.bool true) t68 w fun t69 w =>
  If t69
  (Bd P 23 [] w fun t70 w =>
  Sto P 23 t4 t70 w fun w =>
  Rc P 23 t4 w fun r0 =>
  R (.returned (.tuple #[r0, (.int .i64 40)])) w)
  (Bd P 23 [(0, t54), (1, t61)] w fun t73 w =>
  Sto P 23 t4 t73 w fun w =>
  Rc P 23 t4 w fun r0 =>
  R (.returned (.tuple #[r0, (.int .i64 0)])) w)))
theorem e_ref04_Make {t0 t1 : Value} {w : World} {R : Ending → World → Prop} (h : s_ref04_Make Tryz.prog t0 t1 w R) : Calls Tryz.prog 39 #[t0, t1] w R :=
  enter (h := (.sq .z (.sq .z (.sq .z (.sq (.sq .z (.cd (.sq .z .z) .z)) (.jn [0, 1] [31, 32, 33, 34, 35, 36, 37, 38, 39, 40, 41, 42, 43] (.sq .z (.cd (.sq .z .z) .z)) (.sq .z (.sq .z (.sq .z (.sq (.sq .z (.cd (.sq .z .z) .z)) (.sq .z .z))))))))))) (args := [t0, t1]) Tryz.func39 (by kernel_rfl) (by kernel_rfl) (by kernel_rfl) (Eq.mp (by kernel_rfl) h)
theorem n_ref04_Make : Enters Tryz.prog 39 := enters_of Tryz.func39 (by kernel_rfl) rfl
def s_ref04_Valid (P : Program) (t0 : Value) (w : World) (R : Ending → World → Prop) : Prop :=
  Bx P 23 t0 w fun t1 w =>
  Fa P 23 t1 0 w fun t7 w =>
  Ld P 9 t7 w fun t8 w =>
  Cl P 53 #[t8] w (Pk R) fun t9 w =>
  Fa P 23 t1 1 w fun t10 w =>
  Ld P 9 t10 w fun t11 w =>
  Cl P 53 #[t11] w (Pk R) fun t12 w =>
  Un P .not t9 w fun t14 w =>
  Gd t14 false (fun k => k t12 w) w fun t16 w =>
  Gd t14 false (fun k => Un P .not t16 w k) w fun t17 w =>
  Pick t14 (.bool true) t17 w fun t18 w =>
  Gd t18 false (fun k => Fa P 23 t1 1 w k) w fun t20 w =>
  Gd t18 false (fun k => Ld P 9 t20 w k) w fun t21 w =>
  Gd t18 false (fun k => Cl P 67 #[t21, (str [48])] w (Pk R) k) w fun t22 w =>
  Gd t18 false (fun k => Bn P .leq 3 true t22 (.int .i64 0) w k) w fun t23 w =>
  Pick t18 (.bool true) t23 w fun t24 w =>
  If t24
  (R (.returned (.bool false)) w)
  (Fa P 23 t1 0 w fun t26 w =>
  Ld P 9 t26 w fun t27 w =>
  Fa P 23 t1 1 w fun t28 w =>
  Ld P 9 t28 w fun t29 w =>
  Cl P 71 #[t27, t29] w (Pk R) fun t30 w =>
  Ex t30 0 w fun t31 w =>
  Ex t30 1 w fun t32 w =>
  Bn P .eql 30 true t32 (.int .i64 0) w fun t34 w =>
  Gd t34 true (fun k => k t31 w) w fun t36 w =>
  Gd t34 true (fun k => Bn P .eql 9 true t36 (str [49]) w k) w fun t37 w =>
  Pick t34 t37 (.bool false) w fun t38 w =>
  R (.returned t38) w)
theorem e_ref04_Valid {t0 : Value} {w : World} {R : Ending → World → Prop} (h : s_ref04_Valid Tryz.prog t0 w R) : Calls Tryz.prog 40 #[t0] w R :=
  enter (h := (.sq .z (.sq .z (.sq .z (.sq (.sq .z (.cd (.sq .z .z) .z)) (.sq .z (.sq .z .z))))))) (args := [t0]) Tryz.func40 (by kernel_rfl) (by kernel_rfl) (by kernel_rfl) (Eq.mp (by kernel_rfl) h)
theorem n_ref04_Valid : Enters Tryz.prog 40 := enters_of Tryz.func40 (by kernel_rfl) rfl
def s_rational_Of (P : Program) (t0 t1 : Value) (w : World) (R : Ending → World → Prop) : Prop :=
  Al P 23 w fun t4 w =>
  Cl P 72 #[t0] w (Pk R) fun t7 w =>
  Cl P 72 #[t1] w (Pk R) fun t9 w =>
  Cl P 22 #[t7, t9] w (Pk R) fun t10 w =>
  Ex t10 0 w fun t11 w =>
  Ex t10 1 w fun t12 w =>
  Sto P 23 t4 t11 w fun w =>
  Rc P 23 t4 w fun r0 =>
  R (.returned (.tuple #[r0, t12])) w
theorem e_rational_Of {t0 t1 : Value} {w : World} {R : Ending → World → Prop} (h : s_rational_Of Tryz.prog t0 t1 w R) : Calls Tryz.prog 41 #[t0, t1] w R :=
  enter (h := (.sq .z (.sq .z .z))) (args := [t0, t1]) Tryz.func41 (by kernel_rfl) (by kernel_rfl) (by kernel_rfl) (Eq.mp (by kernel_rfl) h)
theorem n_rational_Of : Enters Tryz.prog 41 := enters_of Tryz.func41 (by kernel_rfl) rfl
def s_ref04_Of (P : Program) (t0 t1 : Value) (w : World) (R : Ending → World → Prop) : Prop :=
  Al P 23 w fun t4 w =>
  Cl P 20 #[t0] w (Pk R) fun t7 w =>
  Cl P 20 #[t1] w (Pk R) fun t9 w =>
  Cl P 39 #[t7, t9] w (Pk R) fun t10 w =>
  Ex t10 0 w fun t11 w =>
  Ex t10 1 w fun t12 w =>
  Sto P 23 t4 t11 w fun w =>
  Rc P 23 t4 w fun r0 =>
  R (.returned (.tuple #[r0, t12])) w
theorem e_ref04_Of {t0 t1 : Value} {w : World} {R : Ending → World → Prop} (h : s_ref04_Of Tryz.prog t0 t1 w R) : Calls Tryz.prog 42 #[t0, t1] w R :=
  enter (h := (.sq .z (.sq .z .z))) (args := [t0, t1]) Tryz.func42 (by kernel_rfl) (by kernel_rfl) (by kernel_rfl) (Eq.mp (by kernel_rfl) h)
theorem n_ref04_Of : Enters Tryz.prog 42 := enters_of Tryz.func42 (by kernel_rfl) rfl
def s_ref03_ToInt (P : Program) (t0 : Value) (w : World) (R : Ending → World → Prop) : Prop :=
  Cl P 53 #[t0] w (Pk R) fun t8 w =>
  Un P .not t8 w fun t9 w =>
  Gd t9 false (fun k => k t0 w) w fun t11 w =>
  Gd t9 false (fun k => Cl P 67 #[t11, (str [45, 57, 50, 50, 51, 51, 55, 50, 48, 51, 54, 56, 53, 52, 55, 55, 53, 56, 48, 56])] w (Pk R) k) w fun t12 w =>
  Gd t9 false (fun k => Bn P .lss 3 true t12 (.int .i64 0) w k) w fun t13 w =>
  Pick t9 (.bool true) t13 w fun t14 w =>
  Gd t14 false (fun k => k t0 w) w fun t16 w =>
  Gd t14 false (fun k => Cl P 67 #[t16, (str [57, 50, 50, 51, 51, 55, 50, 48, 51, 54, 56, 53, 52, 55, 55, 53, 56, 48, 55])] w (Pk R) k) w fun t17 w =>
  Gd t14 false (fun k => Bn P .gtr 3 true t17 (.int .i64 0) w k) w fun t18 w =>
  Pick t14 (.bool true) t18 w fun t19 w =>
  If t19
  (R (.returned (.tuple #[(.int .i64 0), (.int .i64 30)])) w)
  (Lp2 (.int .i64 0) (.int .i64 0) w (fun t4 t5 w k1 =>
  Bt P .len #[9] 3 #[t0] w fun t22 w =>
  Bn P .lss 3 false t5 t22 w fun t23 w =>
  If t23
  (Ix P 9 t0 t5 w fun t28 w =>
  Bn P .eql 5 true t28 (.int .u8 45) w fun t29 w =>
  If t29
  (Bn P .add 3 true t5 (.int .i64 1) w fun t25 w =>
  k1 t4 t25 w)
  (Ix P 9 t0 t5 w fun t32 w =>
  Bn P .sub 5 true t32 (.int .u8 48) w fun t33 w =>
  Cv P 5 3 t33 w fun t34 w =>
  Ix P 9 t0 (.int .i64 0) w fun t36 w =>
  Bn P .eql 5 true t36 (.int .u8 45) w fun t37 w =>
  If t37
  (Un P .neg t34 w fun t39 w =>
  Bn P .mul 3 true (.int .i64 10) t4 w fun t41 w =>
  Bn P .add 3 false t41 t39 w fun t43 w =>
  Bn P .add 3 true t5 (.int .i64 1) w fun t25x1 w =>
  k1 t43 t25x1 w)
  (Bn P .mul 3 true (.int .i64 10) t4 w fun t41x1 w =>
  Bn P .add 3 false t41x1 t34 w fun t43x1 w =>
  Bn P .add 3 true t5 (.int .i64 1) w fun t25x2 w =>
  k1 t43x1 t25x2 w)))
  (R (.returned (.tuple #[t4, (.int .i64 0)])) w)))
theorem e_ref03_ToInt {t0 : Value} {w : World} {R : Ending → World → Prop} (h : s_ref03_ToInt Tryz.prog t0 w R) : Calls Tryz.prog 43 #[t0] w R :=
  enter (h := (.sq .z (.sq (.sq .z (.cd (.sq .z .z) .z)) (.sq .z (.sq (.sq .z (.bk (.lp [4, 5] [6, 20, 21, 22, 23, 24, 25, 26, 27, 28, 29, 30, 31, 32, 33, 34, 35, 36, 37, 38, 39, 40, 41, 42, 43] (.sq (.sq .z (.cd .z .z)) (.sq (.bk (.sq (.sq .z (.cd .z .z)) (.sq .z (.sq (.sq .z (.cd .z .z)) .z)))) .z))))) (.sq .z .z)))))) (args := [t0]) Tryz.func43 (by kernel_rfl) (by kernel_rfl) (by kernel_rfl) (Eq.mp (by kernel_rfl) h)
theorem n_ref03_ToInt : Enters Tryz.prog 43 := enters_of Tryz.func43 (by kernel_rfl) rfl
def s_rational_Sub (P : Program) (t0 t1 : Value) (w : World) (R : Ending → World → Prop) : Prop :=
  Bx P 23 t0 w fun t2 w =>
  Bx P 23 t1 w fun t3 w =>
  Al P 23 w fun t4 w =>
  Ld P 23 t2 w fun t6 w =>
  Ld P 23 t3 w fun t7 w =>
  Cl P 61 #[(.func (.func 73) #[] #[]), t6, t7] w (Pk R) fun t8 w =>
  Ex t8 0 w fun t9 w =>
  Ex t8 1 w fun t10 w =>
  Sto P 23 t4 t9 w fun w =>
  Rc P 23 t4 w fun r0 =>
  R (.returned (.tuple #[r0, t10])) w
theorem e_rational_Sub {t0 t1 : Value} {w : World} {R : Ending → World → Prop} (h : s_rational_Sub Tryz.prog t0 t1 w R) : Calls Tryz.prog 44 #[t0, t1] w R :=
  enter (h := (.sq .z (.sq .z .z))) (args := [t0, t1]) Tryz.func44 (by kernel_rfl) (by kernel_rfl) (by kernel_rfl) (Eq.mp (by kernel_rfl) h)
theorem n_rational_Sub : Enters Tryz.prog 44 := enters_of Tryz.func44 (by kernel_rfl) rfl
def s_law04_minus (P : Program) (t0 : Value) (w : World) (R : Ending → World → Prop) : Prop :=
  Bx P 23 t0 w fun t1 w =>
  Al P 23 w fun t2 w =>
  Dv P false (Instr.loadAt 23 t1) w.drew fun t7 =>
  (Cl P 24 #[(str [48]), (str [49])] w.drew (Pk R) fun t6 w =>
  Ke P (Instr.loadAt 23 t1) t7 w <|
  (Cl P 44 #[t6, t7] w (Pk R) fun t8 w =>
  ExP t8 0 fun t9 =>
  ExP t8 1 fun t10 =>
  Al P 23 w fun t3 w =>
  Ke P (Instr.loadAt 23 t1) t7 w <|
  Sto P 23 t3 t9 w fun w =>
  Ld P 23 t3 w fun t11 w =>
  Sto P 23 t2 t11 w fun w =>
  Rc P 23 t2 w fun r0 =>
  R (.returned r0) w) ∧
  (Al P 23 w fun t3x1 w =>
  Ke P (Instr.loadAt 23 t1) t7 w <|
  Cl P 44 #[t6, t7] w (Pk R) fun t8x1 w =>
  ExP t8x1 0 fun t9x1 =>
  ExP t8x1 1 fun t10x1 =>
  Sto P 23 t3x1 t9x1 w fun w =>
  Ld P 23 t3x1 w fun t11x1 w =>
  Sto P 23 t2 t11x1 w fun w =>
  Rc P 23 t2 w fun r0 =>
  R (.returned r0) w)) ∧
  (Al P 23 w.drew fun t3x2 w =>
  Ke P (Instr.loadAt 23 t1) t7 w <|
  Cl P 24 #[(str [48]), (str [49])] w (Pk R) fun t6x1 w =>
  Ke P (Instr.loadAt 23 t1) t7 w <|
  Cl P 44 #[t6x1, t7] w (Pk R) fun t8x2 w =>
  ExP t8x2 0 fun t9x2 =>
  ExP t8x2 1 fun t10x2 =>
  Sto P 23 t3x2 t9x2 w fun w =>
  Ld P 23 t3x2 w fun t11x2 w =>
  Sto P 23 t2 t11x2 w fun w =>
  Rc P 23 t2 w fun r0 =>
  R (.returned r0) w)
theorem e_law04_minus {t0 : Value} {w : World} {R : Ending → World → Prop} (h : s_law04_minus Tryz.prog t0 w R) : Calls Tryz.prog 45 #[t0] w R :=
  enter (h := (.sq .z (.sq (.dr (.pur false 1 (.alt (.eff 0 [1] (.alt (.eff 2 [] (.pur true 3 (.pur true 4 (.pur true 5 (.eff 6 [1] (.eff 7 [] (.pur true 8 .done))))))) (.eff 6 [1] (.eff 2 [] (.pur true 3 (.pur true 4 (.pur true 5 (.eff 7 [] (.pur true 8 .done))))))))) (.eff 6 [1] (.eff 0 [1] (.eff 2 [] (.pur true 3 (.pur true 4 (.pur true 5 (.eff 7 [] (.pur true 8 .done))))))))))) (.sq .z .z)))) (args := [t0]) Tryz.func45 (by kernel_rfl) (by kernel_rfl) (by kernel_rfl) (Eq.mp (by kernel_rfl) h)
theorem n_law04_minus : Enters Tryz.prog 45 := enters_of Tryz.func45 (by kernel_rfl) rfl
def s_ref04_pick (P : Program) (t0 t1 : Value) (w : World) (R : Ending → World → Prop) : Prop :=
  Bn P .lss 3 true t0 (.int .i64 0) w fun t6 w =>
  If t6
  (Bn P .add 3 true t0 (.int .i64 1) w fun t8 w =>
  Un P .neg t8 w fun t9 w =>
  Bn P .rem 3 false t9 t1 w fun t12 w =>
  R (.returned t12) w)
  (Bn P .rem 3 false t0 t1 w fun t12x1 w =>
  R (.returned t12x1) w)
theorem e_ref04_pick {t0 t1 : Value} {w : World} {R : Ending → World → Prop} (h : s_ref04_pick Tryz.prog t0 t1 w R) : Calls Tryz.prog 46 #[t0, t1] w R :=
  enter (h := (.sq .z (.sq (.sq .z (.cd .z .z)) (.sq .z .z)))) (args := [t0, t1]) Tryz.func46 (by kernel_rfl) (by kernel_rfl) (by kernel_rfl) (Eq.mp (by kernel_rfl) h)
theorem n_ref04_pick : Enters Tryz.prog 46 := enters_of Tryz.func46 (by kernel_rfl) rfl
def s_strings_Join (P : Program) (t0 t1 : Value) (w : World) (R : Ending → World → Prop) : Prop :=
  Bt P .len #[36] 3 #[t0] w fun t12 w =>
  Bn P .eql 3 true t12 (.int .i64 0) w fun t14 w =>
  If t14
  (R (.returned (str [])) w)
  (Bn P .eql 3 true t12 (.int .i64 1) w fun t16 w =>
  If t16
  (Ia P 36 t0 (.int .i64 0) w fun t18 w =>
  Ld P 9 t18 w fun t19 w =>
  R (.returned t19) w)
  (Jn1 (fun k1 =>
  Bt P .len #[9] 3 #[t1] w fun t21 w =>
  Bn P .gtr 3 true t21 (.int .i64 0) w fun t22 w =>
  If t22
  (Jn0 (fun k2 =>
  Bt P .len #[9] 3 #[t1] w fun t24 w =>
  Bt P .len #[36] 3 #[t0] w fun t26 w =>
  Bn P .sub 3 true t26 (.int .i64 1) w fun t27 w =>
  Bn P .quo 3 true (.int .i64 9223372036854775807) t27 w fun t28 w =>
  Bn P .geq 3 false t24 t28 w fun t29 w =>
  If t29
  (Mi P 9 (str [115, 116, 114, 105, 110, 103, 115, 58, 32, 74, 111, 105, 110, 32, 111, 117, 116, 112, 117, 116, 32, 108, 101, 110, 103, 116, 104, 32, 111, 118, 101, 114, 102, 108, 111, 119]) w fun t30 w =>
  Pn P t30 w (Pk R) fun _ w =>
  k2 w)
  (k2 w))
  (fun w =>
  Bt P .len #[9] 3 #[t1] w fun t33 w =>
  Bt P .len #[36] 3 #[t0] w fun t35 w =>
  Bn P .sub 3 true t35 (.int .i64 1) w fun t36 w =>
  Bn P .mul 3 false t33 t36 w fun t37 w =>
  Bn P .add 3 false (.int .i64 0) t37 w fun t38 w =>
  k1 t38 w))
  (k1 (.int .i64 0) w))
  (fun t5 w =>
  Bt P .len #[36] 3 #[t0] w fun t40 w =>
  Lp2 t5 (.int .i64 0) w (fun t5x1 t41 w k3 =>
  Bn P .lss 3 false t41 t40 w fun t42 w =>
  If t42
  (Ia P 36 t0 t41 w fun t43 w =>
  Ld P 9 t43 w fun t44 w =>
  Bt P .len #[9] 3 #[t44] w fun t46 w =>
  Bn P .sub 3 true (.int .i64 9223372036854775807) t5x1 w fun t48 w =>
  Bn P .gtr 3 false t46 t48 w fun t49 w =>
  If t49
  (Mi P 9 (str [115, 116, 114, 105, 110, 103, 115, 58, 32, 74, 111, 105, 110, 32, 111, 117, 116, 112, 117, 116, 32, 108, 101, 110, 103, 116, 104, 32, 111, 118, 101, 114, 102, 108, 111, 119]) w fun t50 w =>
  Pn P t50 w (Pk R) fun _ w =>
  Bt P .len #[9] 3 #[t44] w fun t53 w =>
  Bn P .add 3 false t5x1 t53 w fun t54 w =>
  Bn P .add 3 true t41 (.int .i64 1) w fun t55 w =>
  k3 t54 t55 w)
  (Bt P .len #[9] 3 #[t44] w fun t53x1 w =>
  Bn P .add 3 false t5x1 t53x1 w fun t54x1 w =>
  Bn P .add 3 true t41 (.int .i64 1) w fun t55x1 w =>
  k3 t54x1 t55x1 w))
  (Al P 91 w fun t8 w =>
  Cl P 74 #[t8, t5x1] w (Pk R) fun t57 w =>
  Ia P 36 t0 (.int .i64 0) w fun t59 w =>
  Ld P 9 t59 w fun t60 w =>
  Cl P 75 #[t8, t60] w (Pk R) fun t61 w =>
  Sc P 36 t0 (some (.int .i64 1)) none none w fun t63 w =>
  Bt P .len #[36] 3 #[t63] w fun t64 w =>
  Lp1 (.int .i64 0) w (fun t65 w k4 =>
  Bn P .lss 3 false t65 t64 w fun t66 w =>
  If t66
  (Ia P 36 t63 t65 w fun t67 w =>
  Ld P 9 t67 w fun t68 w =>
  Cl P 75 #[t8, t1] w (Pk R) fun t70 w =>
  Cl P 75 #[t8, t68] w (Pk R) fun t72 w =>
  Bn P .add 3 true t65 (.int .i64 1) w fun t73 w =>
  k4 t73 w)
  (Cl P 76 #[t8] w (Pk R) fun t74 w =>
  R (.returned t74) w)))))))
theorem e_strings_Join {t0 t1 : Value} {w : World} {R : Ending → World → Prop} (h : s_strings_Join Tryz.prog t0 t1 w R) : Calls Tryz.prog 47 #[t0, t1] w R :=
  enter (h := (.sq .z (.sq (.sq .z (.bk (.sq .z (.cd (.sq .z .z) (.sq .z (.cd (.sq .z .z) .z)))))) (.sq .z (.jn [5] [20, 21, 22, 23, 24, 25, 26, 27, 28, 29, 30, 31, 32, 33, 34, 35, 36, 37, 38] (.sq .z (.cd (.jn [] [23, 24, 25, 26, 27, 28, 29, 30] (.sq .z (.cd .z .z)) .z) .z)) (.sq (.sq .z (.bk (.lp [5, 41] [7, 42, 43, 44, 45, 46, 47, 48, 49, 50, 51, 52, 53, 54, 55] (.sq .z (.sq (.cd .z .z) (.sq (.bk (.sq .z (.sq (.sq .z (.cd .z .z)) .z))) .z)))))) (.sq .z (.sq .z (.sq .z (.sq (.sq .z (.bk (.lp [65] [10, 66, 67, 68, 69, 70, 71, 72, 73] (.sq .z (.sq (.cd .z .z) (.sq (.bk (.sq .z (.sq .z .z))) .z)))))) (.sq .z .z))))))))))) (args := [t0, t1]) Tryz.func47 (by kernel_rfl) (by kernel_rfl) (by kernel_rfl) (Eq.mp (by kernel_rfl) h)
theorem n_strings_Join : Enters Tryz.prog 47 := enters_of Tryz.func47 (by kernel_rfl) rfl
def s_strings_Cut (P : Program) (t0 t1 : Value) (w : World) (R : Ending → World → Prop) : Prop :=
  Cl P 77 #[t0, t1] w (Pk R) fun t9 w =>
  Ex t9 0 w fun t10 w =>
  Ex t9 1 w fun t11 w =>
  Ex t9 2 w fun t12 w =>
  R (.returned (.tuple #[t10, t11, t12])) w
theorem e_strings_Cut {t0 t1 : Value} {w : World} {R : Ending → World → Prop} (h : s_strings_Cut Tryz.prog t0 t1 w R) : Calls Tryz.prog 48 #[t0, t1] w R :=
  enter (h := (.sq .z (.sq .z .z))) (args := [t0, t1]) Tryz.func48 (by kernel_rfl) (by kernel_rfl) (by kernel_rfl) (Eq.mp (by kernel_rfl) h)
theorem n_strings_Cut : Enters Tryz.prog 48 := enters_of Tryz.func48 (by kernel_rfl) rfl
def s_integer_Valid (P : Program) (t0 : Value) (w : World) (R : Ending → World → Prop) : Prop :=
  Cl P 78 #[t0] w (Pk R) fun t4 w =>
  R (.returned t4) w
theorem e_integer_Valid {t0 : Value} {w : World} {R : Ending → World → Prop} (h : s_integer_Valid Tryz.prog t0 w R) : Calls Tryz.prog 49 #[t0] w R :=
  enter (h := (.sq .z (.sq .z .z))) (args := [t0]) Tryz.func49 (by kernel_rfl) (by kernel_rfl) (by kernel_rfl) (Eq.mp (by kernel_rfl) h)
theorem n_integer_Valid : Enters Tryz.prog 49 := enters_of Tryz.func49 (by kernel_rfl) rfl
def s_integer_Compare (P : Program) (t0 t1 : Value) (w : World) (R : Ending → World → Prop) : Prop :=
  Cl P 79 #[t0, t1] w (Pk R) fun t11 w =>
  Ex t11 0 w fun t12 w =>
  Ex t11 1 w fun t13 w =>
  Ex t11 2 w fun t14 w =>
  Al P 100 w fun t5 w =>
  Al P 100 w fun t6 w =>
  Sto P 100 t5 t12 w fun w =>
  Sto P 100 t6 t13 w fun w =>
  Un P .not t14 w fun t17 w =>
  If t17
  (R (.returned (.int .i64 0)) w)
  (Fa P 100 t5 0 w fun t19 w =>
  Ld P 4 t19 w fun t20 w =>
  Gd t20 true (fun k => Fa P 100 t6 0 w k) w fun t22 w =>
  Gd t20 true (fun k => Ld P 4 t22 w k) w fun t23 w =>
  Pick t20 t23 (.bool false) w fun t24 w =>
  If t24
  (Fa P 100 t6 1 w fun t25 w =>
  Ld P 98 t25 w fun t26 w =>
  Fa P 100 t5 1 w fun t27 w =>
  Ld P 98 t27 w fun t28 w =>
  Cl P 80 #[t26, t28] w (Pk R) fun t29 w =>
  R (.returned t29) w)
  (Fa P 100 t5 0 w fun t31 w =>
  Ld P 4 t31 w fun t32 w =>
  If t32
  (R (.returned (.int .i64 (-1))) w)
  (Fa P 100 t6 0 w fun t34 w =>
  Ld P 4 t34 w fun t35 w =>
  If t35
  (R (.returned (.int .i64 1)) w)
  (Fa P 100 t5 1 w fun t36 w =>
  Ld P 98 t36 w fun t37 w =>
  Fa P 100 t6 1 w fun t38 w =>
  Ld P 98 t38 w fun t39 w =>
  Cl P 80 #[t37, t39] w (Pk R) fun t40 w =>
  R (.returned t40) w))))
theorem e_integer_Compare {t0 t1 : Value} {w : World} {R : Ending → World → Prop} (h : s_integer_Compare Tryz.prog t0 t1 w R) : Calls Tryz.prog 50 #[t0, t1] w R :=
  enter (h := (.sq .z (.sq .z (.sq (.bk (.sq .z (.cd (.sq .z .z) (.sq .z (.cd (.sq .z .z) (.sq .z (.cd (.sq .z .z) (.sq .z (.cd (.sq .z .z) .z))))))))) (.sq .z .z))))) (args := [t0, t1]) Tryz.func50 (by kernel_rfl) (by kernel_rfl) (by kernel_rfl) (Eq.mp (by kernel_rfl) h)
theorem n_integer_Compare : Enters Tryz.prog 50 := enters_of Tryz.func50 (by kernel_rfl) rfl
def s_integer_Gcd (P : Program) (t0 t1 : Value) (w : World) (R : Ending → World → Prop) : Prop :=
  Cl P 79 #[t0, t1] w (Pk R) fun t16 w =>
  Ex t16 0 w fun t17 w =>
  Ex t16 1 w fun t18 w =>
  Ex t16 2 w fun t19 w =>
  Al P 100 w fun t6 w =>
  Al P 100 w fun t7 w =>
  Sto P 100 t6 t17 w fun w =>
  Sto P 100 t7 t18 w fun w =>
  Un P .not t19 w fun t21 w =>
  If t21
  (R (.returned (.tuple #[(str []), (.int .i64 30)])) w)
  (Dv P true (Instr.fieldAt 100 t6 1) w.drew fun t22 =>
  Dv P false (Instr.loadAt 98 t22) w.drew fun t23 =>
  Dv P true (Instr.fieldAt 100 t7 1) w.drew fun t24 =>
  Dv P false (Instr.loadAt 98 t24) w.drew fun t25 =>
  Lp2 t23 t25 w.drew (fun t9 t10 w k1 =>
  Bt P .len #[98] 3 #[t10] w fun t27 w =>
  Bn P .gtr 3 true t27 (.int .i64 0) w fun t28 w =>
  If t28
  (Cl P 81 #[t9, t10] w (Pk R) fun t32 w =>
  Ex t32 0 w fun t33 w =>
  Ex t32 1 w fun t34 w =>
  k1 t10 t34 w)
  (Bd P 100 [(1, t9)] w fun t38 w =>
  Cl P 82 #[t38] w (Pk R) fun t39 w =>
  Ex t39 0 w fun t40 w =>
  Ex t39 1 w fun t41 w =>
  R (.returned (.tuple #[t40, t41])) w)))
theorem e_integer_Gcd {t0 t1 : Value} {w : World} {R : Ending → World → Prop} (h : s_integer_Gcd Tryz.prog t0 t1 w R) : Calls Tryz.prog 51 #[t0, t1] w R :=
  enter (h := (.sq .z (.sq .z (.sq (.sq .z (.cd (.sq .z .z) .z)) (.sq (.dr (.pur true 0 (.pur false 1 (.pur true 2 (.pur false 3 (.pur true 4 (.pur true 5 .done))))))) (.sq (.bk (.lp [9, 10] [11, 12, 26, 27, 28, 29, 30, 31, 32, 33, 34, 35, 36] (.sq (.sq .z (.cd .z .z)) (.bk (.sq .z .z))))) (.sq .z .z))))))) (args := [t0, t1]) Tryz.func51 (by kernel_rfl) (by kernel_rfl) (by kernel_rfl) (Eq.mp (by kernel_rfl) h)
theorem n_integer_Gcd : Enters Tryz.prog 51 := enters_of Tryz.func51 (by kernel_rfl) rfl
def s_ref03_text (P : Program) (t0 t1 : Value) (w : World) (R : Ending → World → Prop) : Prop :=
  Bt P .len #[53] 3 #[t1] w fun t9 w =>
  Bn P .eql 3 true t9 (.int .i64 0) w fun t10 w =>
  If t10
  (R (.returned (.tuple #[(str [48]), (.bool true)])) w)
  (Jn1 (fun k1 =>
  If t0
  (Bs P 35 1 [(0, (.int .u8 45))] w fun t13 w =>
  Bt P .append #[35, 35] 35 #[(.slice none 0 0), t13] w fun t14 w =>
  k1 t14 w)
  (k1 (.slice none 0 0) w))
  (fun t6 w =>
  Bt P .len #[53] 3 #[t1] w fun t16 w =>
  Bn P .sub 3 true t16 (.int .i64 1) w fun t17 w =>
  Lp2 t6 t17 w (fun t6x1 t7 w k2 =>
  Bn P .geq 3 true t7 (.int .i64 0) w fun t19 w =>
  If t19
  (Ia P 53 t1 t7 w fun t25 w =>
  Ld P 3 t25 w fun t26 w =>
  Bn P .add 3 true (.int .i64 48) t26 w fun t27 w =>
  Cv P 3 5 t27 w fun t28 w =>
  Bs P 35 1 [(0, t28)] w fun t29 w =>
  Bt P .append #[35, 35] 35 #[t6x1, t29] w fun t30 w =>
  Bn P .sub 3 true t7 (.int .i64 1) w fun t21 w =>
  k2 t30 t21 w)
  (Cv P 35 9 t6x1 w fun t32 w =>
  Bt P .len #[53] 3 #[t1] w fun t34 w =>
  Bn P .leq 3 true t34 (.int .i64 200) w fun t35 w =>
  R (.returned (.tuple #[t32, t35])) w))))
theorem e_ref03_text {t0 t1 : Value} {w : World} {R : Ending → World → Prop} (h : s_ref03_text Tryz.prog t0 t1 w R) : Calls Tryz.prog 52 #[t0, t1] w R :=
  enter (h := (.sq .z (.sq (.sq .z (.cd (.sq .z .z) .z)) (.sq .z (.jn [6] [11, 12, 13, 14] (.sq .z (.cd .z .z)) (.sq (.sq .z (.bk (.lp [6, 7] [18, 19, 20, 21, 22, 23, 24, 25, 26, 27, 28, 29, 30] (.sq (.sq .z (.cd .z .z)) (.sq (.bk .z) .z))))) (.sq .z .z))))))) (args := [t0, t1]) Tryz.func52 (by kernel_rfl) (by kernel_rfl) (by kernel_rfl) (Eq.mp (by kernel_rfl) h)
theorem n_ref03_text : Enters Tryz.prog 52 := enters_of Tryz.func52 (by kernel_rfl) rfl
def s_ref03_Valid (P : Program) (t0 : Value) (w : World) (R : Ending → World → Prop) : Prop :=
  Jn1 (fun k1 =>
  Bt P .len #[9] 3 #[t0] w fun t5 w =>
  Bn P .gtr 3 true t5 (.int .i64 0) w fun t6 w =>
  Gd t6 true (fun k => k t0 w) w fun t8 w =>
  Gd t6 true (fun k => Ix P 9 t8 (.int .i64 0) w k) w fun t9 w =>
  Gd t6 true (fun k => Bn P .eql 5 true t9 (.int .u8 45) w k) w fun t10 w =>
  Pick t6 t10 (.bool false) w fun t11 w =>
  If t11
  (Sc P 9 t0 (some (.int .i64 1)) none none w fun t13 w =>
  Bn P .eql 9 true t13 (str [48]) w fun t15 w =>
  If t15
  (R (.returned (.bool false)) w)
  (k1 t13 w))
  (k1 t0 w))
  (fun t0x1 w =>
  Lp1 (.int .i64 0) w (fun t3 w k2 =>
  Bt P .len #[9] 3 #[t0x1] w fun t18 w =>
  Bn P .lss 3 false t3 t18 w fun t19 w =>
  If t19
  (Ix P 9 t0x1 t3 w fun t24 w =>
  Bn P .lss 5 true t24 (.int .u8 48) w fun t25 w =>
  Gd t25 false (fun k => k t0x1 w) w fun t27 w =>
  Gd t25 false (fun k => k t3 w) w fun t28 w =>
  Gd t25 false (fun k => Ix P 9 t27 t28 w k) w fun t29 w =>
  Gd t25 false (fun k => Bn P .gtr 5 true t29 (.int .u8 57) w k) w fun t30 w =>
  Pick t25 (.bool true) t30 w fun t31 w =>
  If t31
  (R (.returned (.bool false)) w)
  (Bn P .add 3 true t3 (.int .i64 1) w fun t21 w =>
  k2 t21 w))
  (Bt P .len #[9] 3 #[t0x1] w fun t33 w =>
  Bn P .gtr 3 true t33 (.int .i64 0) w fun t34 w =>
  Gd t34 true (fun k => k t0x1 w) w fun t36 w =>
  Gd t34 true (fun k => Bt P .len #[9] 3 #[t36] w k) w fun t37 w =>
  Gd t34 true (fun k => Bn P .leq 3 true t37 (.int .i64 200) w k) w fun t38 w =>
  Pick t34 t38 (.bool false) w fun t39 w =>
  Gd t39 true (fun k => k t0x1 w) w fun t41 w =>
  Gd t39 true (fun k => Bn P .eql 9 true t41 (str [48]) w k) w fun t42 w =>
  Gd t39 true (fun k => k t42 w) w fun t43 w =>
  Gd t43 false (fun k => k t0x1 w) w fun t44 w =>
  Gd t43 false (fun k => Ix P 9 t44 (.int .i64 0) w k) w fun t45 w =>
  Gd t43 false (fun k => Bn P .neq 5 true t45 (.int .u8 48) w k) w fun t46 w =>
  Gd t39 true (fun k => Pick t43 (.bool true) t46 w k) w fun t47 w =>
  Pick t39 t47 (.bool false) w fun t48 w =>
  R (.returned t48) w)))
theorem e_ref03_Valid {t0 : Value} {w : World} {R : Ending → World → Prop} (h : s_ref03_Valid Tryz.prog t0 w R) : Calls Tryz.prog 53 #[t0] w R :=
  enter (h := (.sq .z (.jn [0] [2, 4, 5, 6, 7, 8, 9, 10, 11, 12, 13, 14, 15] (.sq .z (.cd (.sq .z (.sq .z (.cd (.sq .z .z) .z))) .z)) (.sq (.sq .z (.bk (.lp [3] [2, 16, 17, 18, 19, 20, 21, 22, 23, 24, 25, 26, 27, 28, 29, 30, 31] (.sq (.sq .z (.cd .z .z)) (.sq (.bk (.sq .z (.cd (.sq .z .z) .z))) .z))))) (.sq .z .z))))) (args := [t0]) Tryz.func53 (by kernel_rfl) (by kernel_rfl) (by kernel_rfl) (Eq.mp (by kernel_rfl) h)
theorem n_ref03_Valid : Enters Tryz.prog 53 := enters_of Tryz.func53 (by kernel_rfl) rfl
def s_ref03_digits (P : Program) (t0 : Value) (w : World) (R : Ending → World → Prop) : Prop :=
  Ix P 9 t0 (.int .i64 0) w fun t8 w =>
  Bn P .eql 5 true t8 (.int .u8 45) w fun t9 w =>
  Jn1 (fun k1 =>
  If t9
  (Sc P 9 t0 (some (.int .i64 1)) none none w fun t12 w =>
  k1 t12 w)
  (k1 t0 w))
  (fun t0x1 w =>
  Bt P .len #[9] 3 #[t0x1] w fun t14 w =>
  Bn P .sub 3 true t14 (.int .i64 1) w fun t15 w =>
  Lp2 (.slice none 0 0) t15 w (fun t5 t6 w k2 =>
  Bn P .geq 3 true t6 (.int .i64 0) w fun t17 w =>
  Gd t17 true (fun k => k t0x1 w) w fun t19 w =>
  Gd t17 true (fun k => Bn P .neq 9 true t19 (str [48]) w k) w fun t20 w =>
  Pick t17 t20 (.bool false) w fun t21 w =>
  If t21
  (Ix P 9 t0x1 t6 w fun t27 w =>
  Bn P .sub 5 true t27 (.int .u8 48) w fun t28 w =>
  Cv P 5 3 t28 w fun t29 w =>
  Bs P 53 1 [(0, t29)] w fun t30 w =>
  Bt P .append #[53, 53] 53 #[t5, t30] w fun t31 w =>
  Bn P .sub 3 true t6 (.int .i64 1) w fun t23 w =>
  k2 t31 t23 w)
  (R (.returned (.tuple #[t9, t5])) w)))
theorem e_ref03_digits {t0 : Value} {w : World} {R : Ending → World → Prop} (h : s_ref03_digits Tryz.prog t0 w R) : Calls Tryz.prog 54 #[t0] w R :=
  enter (h := (.sq .z (.sq .z (.jn [0] [10, 11, 12] (.sq .z (.cd .z .z)) (.sq .z (.sq (.sq .z (.bk (.lp [5, 6] [16, 17, 18, 19, 20, 21, 22, 23, 24, 25, 26, 27, 28, 29, 30, 31] (.sq (.sq .z (.cd .z .z)) (.sq (.bk .z) .z))))) (.sq .z .z))))))) (args := [t0]) Tryz.func54 (by kernel_rfl) (by kernel_rfl) (by kernel_rfl) (Eq.mp (by kernel_rfl) h)
theorem n_ref03_digits : Enters Tryz.prog 54 := enters_of Tryz.func54 (by kernel_rfl) rfl
def s_ref03_checked (P : Program) (t0 t1 : Value) (w : World) (R : Ending → World → Prop) : Prop :=
  Cl P 52 #[t0, t1] w (Pk R) fun t11 w =>
  Ex t11 0 w fun t12 w =>
  Ex t11 1 w fun t13 w =>
  Un P .not t13 w fun t15 w =>
  If t15
  (R (.returned (.tuple #[(str []), (.int .i64 30)])) w)
  (R (.returned (.tuple #[t12, (.int .i64 0)])) w)
theorem e_ref03_checked {t0 t1 : Value} {w : World} {R : Ending → World → Prop} (h : s_ref03_checked Tryz.prog t0 t1 w R) : Calls Tryz.prog 55 #[t0, t1] w R :=
  enter (h := (.sq .z (.sq .z (.sq (.sq .z (.cd (.sq .z .z) .z)) (.sq .z .z))))) (args := [t0, t1]) Tryz.func55 (by kernel_rfl) (by kernel_rfl) (by kernel_rfl) (Eq.mp (by kernel_rfl) h)
theorem n_ref03_checked : Enters Tryz.prog 55 := enters_of Tryz.func55 (by kernel_rfl) rfl
def s_ref03_times (P : Program) (t0 t1 : Value) (w : World) (R : Ending → World → Prop) : Prop :=
  Bt P .len #[53] 3 #[t0] w fun t11 w =>
  Bt P .len #[53] 3 #[t1] w fun t13 w =>
  Bn P .add 3 false t11 t13 w fun t14 w =>
  Ms P 53 t14 t14 w fun t15 w =>
  Lp1 (.int .i64 0) w (fun t6 w k1 =>
  Bt P .len #[53] 3 #[t0] w fun t18 w =>
  Bn P .lss 3 false t6 t18 w fun t19 w =>
  If t19
  (Lp2 (.int .i64 0) (.int .i64 0) w (fun t7 t8 w k2 =>
  Bt P .len #[53] 3 #[t1] w fun t24 w =>
  Bn P .lss 3 false t8 t24 w fun t25 w =>
  Gd t25 false (fun k => k t7 w) w fun t27 w =>
  Gd t25 false (fun k => Bn P .gtr 3 true t27 (.int .i64 0) w k) w fun t28 w =>
  Pick t25 (.bool true) t28 w fun t29 w =>
  If t29
  (Bn P .add 3 false t6 t8 w fun t35 w =>
  Ia P 53 t15 t35 w fun t36 w =>
  Ld P 3 t36 w fun t37 w =>
  Bn P .add 3 false t37 t7 w fun t39 w =>
  Jn1 (fun k3 =>
  Bt P .len #[53] 3 #[t1] w fun t42 w =>
  Bn P .lss 3 false t8 t42 w fun t43 w =>
  If t43
  (Dv P true (Instr.indexAt 53 t0 t6) w.drew fun t47 =>
  Dv P false (Instr.loadAt 3 t47) w.drew fun t48 =>
  Dv P true (Instr.indexAt 53 t1 t8) w.drew fun t51 =>
  Dv P false (Instr.loadAt 3 t51) w.drew fun t52 =>
  Dv P true (bn .mul 3 false t48 t52) w.drew fun t53 =>
  Dv P true (bn .add 3 false t39 t53) w.drew fun t54 =>
  k3 t54 w.drew)
  (k3 t39 w))
  (fun t9 w =>
  Bn P .add 3 false t6 t8 w fun t58 w =>
  Bn P .rem 3 true t9 (.int .i64 10) w fun t60 w =>
  Ia P 53 t15 t58 w fun t61 w =>
  Sto P 3 t61 t60 w fun w =>
  Bn P .quo 3 true t9 (.int .i64 10) w fun t63 w =>
  Bn P .add 3 true t8 (.int .i64 1) w fun t31 w =>
  k2 t63 t31 w))
  (Bn P .add 3 true t6 (.int .i64 1) w fun t21 w =>
  k1 t21 w)))
  (Cl P 83 #[t15] w (Pk R) fun t65 w =>
  R (.returned t65) w))
theorem e_ref03_times {t0 t1 : Value} {w : World} {R : Ending → World → Prop} (h : s_ref03_times Tryz.prog t0 t1 w R) : Calls Tryz.prog 56 #[t0, t1] w R :=
  enter (h := (.sq .z (.sq .z (.sq (.sq .z (.bk (.lp [6] [7, 8, 9, 16, 17, 18, 19, 20, 21, 22, 23, 24, 25, 26, 27, 28, 29, 30, 31, 32, 33, 34, 35, 36, 37, 38, 39, 40, 41, 42, 43, 44, 45, 46, 47, 48, 49, 50, 51, 52, 53, 54, 55, 56, 57, 58, 59, 60, 61, 62, 63] (.sq (.sq .z (.cd .z .z)) (.sq (.bk (.sq .z (.sq .z (.bk (.lp [7, 8] [9, 22, 23, 24, 25, 26, 27, 28, 29, 30, 31, 32, 33, 34, 35, 36, 37, 38, 39, 40, 41, 42, 43, 44, 45, 46, 47, 48, 49, 50, 51, 52, 53, 54, 55, 56, 57, 58, 59, 60, 61, 62, 63] (.sq (.sq .z (.cd .z .z)) (.sq (.bk (.sq .z (.jn [9] [40, 41, 42, 43, 44, 45, 46, 47, 48, 49, 50, 51, 52, 53, 54] (.sq .z (.cd (.dr (.pur true 0 (.pur true 1 (.pur true 2 (.pur true 3 (.pur false 4 (.pur true 5 (.pur true 6 (.pur true 7 (.pur false 8 (.pur true 9 (.pur true 10 (.pur true 11 .done))))))))))))) .z)) (.sq .z .z)))) .z))))))) .z))))) (.sq .z .z))))) (args := [t0, t1]) Tryz.func56 (by kernel_rfl) (by kernel_rfl) (by kernel_rfl) (Eq.mp (by kernel_rfl) h)
theorem n_ref03_times : Enters Tryz.prog 56 := enters_of Tryz.func56 (by kernel_rfl) rfl
def s_rational_work_reduced (P : Program) (t0 t1 t2 : Value) (w : World) (R : Ending → World → Prop) : Prop :=
  Al P 23 w fun t6 w =>
  Nc t0 w fun t11 w =>
  Fa P 78 t11 0 w fun t12 w =>
  Ld P 4 t12 w fun t13 w =>
  Gd t13 false (fun k => k t2 w) w fun t15 w =>
  Gd t13 false (fun k => Bn P .eql 9 true t15 (str [48]) w k) w fun t16 w =>
  Pick t13 (.bool true) t16 w fun t17 w =>
  If t17
  (Bd P 23 [] w fun t18 w =>
  Sto P 23 t6 t18 w fun w =>
  Rc P 23 t6 w fun r0 =>
  R (.returned (.tuple #[r0, (.int .i64 40)])) w)
  (Jn2 (fun k1 =>
  Cl P 50 #[t2, (str [48])] w (Pk R) fun t20 w =>
  Bn P .lss 3 true t20 (.int .i64 0) w fun t21 w =>
  If t21
  (Cl P 84 #[t0, (.func (.func 73) #[] #[]), (str [48]), t1] w (Pk R) fun t24 w =>
  Cl P 84 #[t0, (.func (.func 73) #[] #[]), (str [48]), t2] w (Pk R) fun t27 w =>
  k1 t24 t27 w)
  (k1 t1 t2 w))
  (fun t1x1 t2x1 w =>
  Cl P 84 #[t0, (.func (.func 51) #[] #[]), t1x1, t2x1] w (Pk R) fun t31 w =>
  Cl P 85 #[t0, t1x1, t31] w (Pk R) fun t35 w =>
  Cl P 85 #[t0, t2x1, t31] w (Pk R) fun t39 w =>
  Bd P 23 [(0, t35), (1, t39)] w fun t40 w =>
  Al P 23 w fun t9 w =>
  Sto P 23 t9 t40 w fun w =>
  Nc t0 w fun t42 w =>
  Fa P 78 t42 0 w fun t43 w =>
  Ld P 4 t43 w fun t44 w =>
  If t44
  (Bd P 23 [] w fun t45 w =>
  Sto P 23 t6 t45 w fun w =>
  Rc P 23 t6 w fun r0 =>
  R (.returned (.tuple #[r0, (.int .i64 40)])) w)
  (Ld P 23 t9 w fun t46 w =>
  Sto P 23 t6 t46 w fun w =>
  Rc P 23 t6 w fun r0 =>
  R (.returned (.tuple #[r0, (.int .i64 0)])) w)))
theorem e_rational_work_reduced {t0 t1 t2 : Value} {w : World} {R : Ending → World → Prop} (h : s_rational_work_reduced Tryz.prog t0 t1 t2 w R) : Calls Tryz.prog 57 #[t0, t1, t2] w R :=
  enter (h := (.sq .z (.sq (.sq .z (.cd (.sq .z .z) .z)) (.jn [1, 2] [19, 20, 21, 22, 23, 24, 25, 26, 27] (.sq .z (.cd .z .z)) (.sq .z (.sq .z (.sq (.sq .z (.cd (.sq .z .z) .z)) (.sq .z .z)))))))) (args := [t0, t1, t2]) Tryz.func57 (by kernel_rfl) (by kernel_rfl) (by kernel_rfl) (Eq.mp (by kernel_rfl) h)
theorem n_rational_work_reduced : Enters Tryz.prog 57 := enters_of Tryz.func57 (by kernel_rfl) rfl
def s_integer_Div (P : Program) (t0 t1 : Value) (w : World) (R : Ending → World → Prop) : Prop :=
  Cl P 79 #[t0, t1] w (Pk R) fun t19 w =>
  Ex t19 0 w fun t20 w =>
  Ex t19 1 w fun t21 w =>
  Ex t19 2 w fun t22 w =>
  Al P 100 w fun t7 w =>
  Al P 100 w fun t8 w =>
  Sto P 100 t7 t20 w fun w =>
  Sto P 100 t8 t21 w fun w =>
  Un P .not t22 w fun t24 w =>
  Gd t24 false (fun k => Fa P 100 t8 1 w k) w fun t26 w =>
  Gd t24 false (fun k => Ld P 98 t26 w k) w fun t27 w =>
  Gd t24 false (fun k => Bt P .len #[98] 3 #[t27] w k) w fun t28 w =>
  Gd t24 false (fun k => Bn P .eql 3 true t28 (.int .i64 0) w k) w fun t29 w =>
  Pick t24 (.bool true) t29 w fun t30 w =>
  If t30
  (R (.returned (.tuple #[(str []), (str []), (.int .i64 30)])) w)
  (Fa P 100 t7 1 w fun t32 w =>
  Ld P 98 t32 w fun t33 w =>
  Fa P 100 t8 1 w fun t34 w =>
  Ld P 98 t34 w fun t35 w =>
  Cl P 81 #[t33, t35] w (Pk R) fun t36 w =>
  Ex t36 0 w fun t37 w =>
  Ex t36 1 w fun t38 w =>
  Jn2 (fun k1 =>
  Fa P 100 t7 0 w fun t39 w =>
  Ld P 4 t39 w fun t40 w =>
  Gd t40 true (fun k => k t38 w) w fun t42 w =>
  Gd t40 true (fun k => Bt P .len #[98] 3 #[t42] w k) w fun t43 w =>
  Gd t40 true (fun k => Bn P .gtr 3 true t43 (.int .i64 0) w k) w fun t44 w =>
  Pick t40 t44 (.bool false) w fun t45 w =>
  If t45
  (Dv P true (Instr.fieldAt 100 t8 1) w.drew fun t49 =>
  Dv P false (Instr.loadAt 98 t49) w.drew fun t50 =>
  Cl P 87 #[] w.drew (Pk R) fun t47 w =>
  Ke P (Instr.loadAt 98 t49) t50 w <|
  Cl P 86 #[t37, t47] w (Pk R) fun t48 w =>
  Ke P (Instr.loadAt 98 t49) t50 w <|
  Cl P 88 #[t50, t38] w (Pk R) fun t52 w =>
  k1 t48 t52 w)
  (k1 t37 t38 w))
  (fun t10 t11 w =>
  Fa P 100 t7 0 w fun t54 w =>
  Ld P 4 t54 w fun t55 w =>
  Fa P 100 t8 0 w fun t56 w =>
  Ld P 4 t56 w fun t57 w =>
  Bn P .neq 4 false t55 t57 w fun t58 w =>
  Bd P 100 [(0, t58), (1, t10)] w fun t60 w =>
  Cl P 82 #[t60] w (Pk R) fun t61 w =>
  Ex t61 0 w fun t62 w =>
  Ex t61 1 w fun t63 w =>
  Bn P .neq 30 true t63 (.int .i64 0) w fun t65 w =>
  If t65
  (R (.returned (.tuple #[(str []), (str []), t63])) w)
  (Bd P 100 [(1, t11)] w fun t69 w =>
  Cl P 82 #[t69] w (Pk R) fun t70 w =>
  Ex t70 0 w fun t71 w =>
  Ex t70 1 w fun t72 w =>
  R (.returned (.tuple #[t62, t71, (.int .i64 0)])) w)))
theorem e_integer_Div {t0 t1 : Value} {w : World} {R : Ending → World → Prop} (h : s_integer_Div Tryz.prog t0 t1 w R) : Calls Tryz.prog 58 #[t0, t1] w R :=
  enter (h := (.sq .z (.sq .z (.sq (.sq .z (.cd (.sq .z .z) .z)) (.sq .z (.jn [10, 11] [39, 40, 41, 42, 43, 44, 45, 46, 47, 48, 49, 50, 51, 52] (.sq .z (.cd (.dr (.pur true 0 (.pur true 3 (.pur false 4 (.pur true 5 (.eff 1 [4] (.eff 2 [4] (.eff 6 [] (.pur true 7 (.pur true 8 .done)))))))))) .z)) (.sq .z (.sq (.sq .z (.cd (.sq .z .z) .z)) (.sq .z (.sq .z .z)))))))))) (args := [t0, t1]) Tryz.func58 (by kernel_rfl) (by kernel_rfl) (by kernel_rfl) (Eq.mp (by kernel_rfl) h)
theorem n_integer_Div : Enters Tryz.prog 58 := enters_of Tryz.func58 (by kernel_rfl) rfl
def s_rational_work_check (P : Program) (t0 t1 : Value) (w : World) (R : Ending → World → Prop) : Prop :=
  Bt P .len #[28] 3 #[t1] w fun t7 w =>
  Lp1 (.int .i64 0) w (fun t8 w k1 =>
  Bn P .lss 3 false t8 t7 w fun t9 w =>
  If t9
  (Ia P 28 t1 t8 w fun t10 w =>
  Ld P 23 t10 w fun t11 w =>
  Al P 23 w fun t5 w =>
  Sto P 23 t5 t11 w fun w =>
  Nc t0 w fun t14 w =>
  Fa P 78 t14 0 w fun t15 w =>
  Ld P 4 t15 w fun t16 w =>
  Gd t16 false (fun k => Ld P 23 t5 w k) w fun t18 w =>
  Gd t16 false (fun k => Cl P 17 #[t18] w (Pk R) k) w fun t19 w =>
  Gd t16 false (fun k => Un P .not t19 w k) w fun t20 w =>
  Pick t16 (.bool true) t20 w fun t21 w =>
  Nc t0 w fun t22 w =>
  Fa P 78 t22 0 w fun t23 w =>
  Sto P 4 t23 t21 w fun w =>
  Bn P .add 3 true t8 (.int .i64 1) w fun t24 w =>
  k1 t24 w)
  (R (.returned (.tuple #[])) w))
theorem e_rational_work_check {t0 t1 : Value} {w : World} {R : Ending → World → Prop} (h : s_rational_work_check Tryz.prog t0 t1 w R) : Calls Tryz.prog 59 #[t0, t1] w R :=
  enter (h := (.sq .z (.bk (.lp [8] [5, 9, 10, 11, 12, 13, 14, 15, 16, 17, 18, 19, 20, 21, 22, 23, 24] (.sq .z (.sq (.cd .z .z) (.sq (.bk (.sq .z .z)) .z))))))) (args := [t0, t1]) Tryz.func59 (by kernel_rfl) (by kernel_rfl) (by kernel_rfl) (Eq.mp (by kernel_rfl) h)
theorem n_rational_work_check : Enters Tryz.prog 59 := enters_of Tryz.func59 (by kernel_rfl) rfl
def s_rational_work_mul (P : Program) (t0 t1 t2 : Value) (w : World) (R : Ending → World → Prop) : Prop :=
  Cl P 84 #[t0, (.func (.func 89) #[] #[]), t1, t2] w (Pk R) fun t10 w =>
  R (.returned t10) w
theorem e_rational_work_mul {t0 t1 t2 : Value} {w : World} {R : Ending → World → Prop} (h : s_rational_work_mul Tryz.prog t0 t1 t2 w R) : Calls Tryz.prog 60 #[t0, t1, t2] w R :=
  enter (h := (.sq .z (.sq .z .z))) (args := [t0, t1, t2]) Tryz.func60 (by kernel_rfl) (by kernel_rfl) (by kernel_rfl) (Eq.mp (by kernel_rfl) h)
theorem n_rational_work_mul : Enters Tryz.prog 60 := enters_of Tryz.func60 (by kernel_rfl) rfl
def s_rational_sum (P : Program) (t0 t1 t2 : Value) (w : World) (R : Ending → World → Prop) : Prop :=
  Bx P 23 t1 w fun t4 w =>
  Bx P 23 t2 w fun t5 w =>
  Al P 23 w fun t6 w =>
  Bd P 78 [] w fun t10 w =>
  Bx P 78 t10 w fun t11 w =>
  Ld P 23 t4 w fun t13 w =>
  Ld P 23 t5 w fun t14 w =>
  Bs P 28 2 [(0, t13), (1, t14)] w fun t15 w =>
  Cl P 59 #[t11, t15] w (Pk R) fun t16 w =>
  Dv P true (Instr.fieldAt 23 t4 0) w.drew fun t20 =>
  Dv P false (Instr.loadAt 9 t20) w.drew fun t21 =>
  Dv P true (Instr.fieldAt 23 t5 1) w.drew fun t22 =>
  Dv P false (Instr.loadAt 9 t22) w.drew fun t23 =>
  Dv P true (Instr.fieldAt 23 t5 0) w.drew fun t26 =>
  Dv P false (Instr.loadAt 9 t26) w.drew fun t27 =>
  Dv P true (Instr.fieldAt 23 t4 1) w.drew fun t28 =>
  Dv P false (Instr.loadAt 9 t28) w.drew fun t29 =>
  Cl P 60 #[t11, t21, t23] w.drew (Pk R) fun t24 w =>
  Ke P (Instr.loadAt 9 t26) t27 w <|
  Ke P (Instr.loadAt 9 t28) t29 w <|
  Cl P 60 #[t11, t27, t29] w (Pk R) fun t30 w =>
  Cl P 84 #[t11, t0, t24, t30] w (Pk R) fun t31 w =>
  Fa P 23 t4 1 w fun t35 w =>
  Ld P 9 t35 w fun t36 w =>
  Fa P 23 t5 1 w fun t37 w =>
  Ld P 9 t37 w fun t38 w =>
  Cl P 60 #[t11, t36, t38] w (Pk R) fun t39 w =>
  Cl P 57 #[t11, t31, t39] w (Pk R) fun t40 w =>
  Ex t40 0 w fun t41 w =>
  Ex t40 1 w fun t42 w =>
  Sto P 23 t6 t41 w fun w =>
  Rc P 23 t6 w fun r0 =>
  R (.returned (.tuple #[r0, t42])) w
theorem e_rational_sum {t0 t1 t2 : Value} {w : World} {R : Ending → World → Prop} (h : s_rational_sum Tryz.prog t0 t1 t2 w R) : Calls Tryz.prog 61 #[t0, t1, t2] w R :=
  enter (h := (.sq .z (.sq .z (.sq .z (.sq (.dr (.pur true 0 (.pur true 1 (.pur true 2 (.pur true 3 (.pur false 4 (.pur true 5 (.pur false 6 (.pur true 8 (.pur true 9 (.pur false 10 (.pur true 11 (.pur false 12 (.eff 7 [10, 12] (.eff 13 [] (.eff 14 [] (.pur true 15 .done))))))))))))))))) (.sq .z .z)))))) (args := [t0, t1, t2]) Tryz.func61 (by kernel_rfl) (by kernel_rfl) (by kernel_rfl) (Eq.mp (by kernel_rfl) h)
theorem n_rational_sum : Enters Tryz.prog 61 := enters_of Tryz.func61 (by kernel_rfl) rfl
def s_integer_Add (P : Program) (t0 t1 : Value) (w : World) (R : Ending → World → Prop) : Prop :=
  Cl P 79 #[t0, t1] w (Pk R) fun t12 w =>
  Ex t12 0 w fun t13 w =>
  Ex t12 1 w fun t14 w =>
  Ex t12 2 w fun t15 w =>
  Al P 100 w fun t6 w =>
  Al P 100 w fun t7 w =>
  Sto P 100 t6 t13 w fun w =>
  Sto P 100 t7 t14 w fun w =>
  Un P .not t15 w fun t17 w =>
  If t17
  (R (.returned (.tuple #[(str []), (.int .i64 30)])) w)
  (Ld P 100 t6 w fun t18 w =>
  Ld P 100 t7 w fun t19 w =>
  Cl P 90 #[t18, t19] w (Pk R) fun t20 w =>
  Cl P 82 #[t20] w (Pk R) fun t21 w =>
  Ex t21 0 w fun t22 w =>
  Ex t21 1 w fun t23 w =>
  R (.returned (.tuple #[t22, t23])) w)
theorem e_integer_Add {t0 t1 : Value} {w : World} {R : Ending → World → Prop} (h : s_integer_Add Tryz.prog t0 t1 w R) : Calls Tryz.prog 62 #[t0, t1] w R :=
  enter (h := (.sq .z (.sq .z (.sq (.sq .z (.cd (.sq .z .z) .z)) (.sq .z .z))))) (args := [t0, t1]) Tryz.func62 (by kernel_rfl) (by kernel_rfl) (by kernel_rfl) (Eq.mp (by kernel_rfl) h)
theorem n_integer_Add : Enters Tryz.prog 62 := enters_of Tryz.func62 (by kernel_rfl) rfl
def s_ref04_cross (P : Program) (t0 t1 : Value) (w : World) (R : Ending → World → Prop) : Prop :=
  Bx P 23 t0 w fun t2 w =>
  Bx P 23 t1 w fun t3 w =>
  Ld P 23 t2 w fun t16 w =>
  Cl P 40 #[t16] w (Pk R) fun t17 w =>
  Ld P 23 t3 w fun t18 w =>
  Cl P 40 #[t18] w (Pk R) fun t19 w =>
  Un P .not t17 w fun t21 w =>
  Gd t21 false (fun k => k t19 w) w fun t23 w =>
  Gd t21 false (fun k => Un P .not t23 w k) w fun t24 w =>
  Pick t21 (.bool true) t24 w fun t25 w =>
  If t25
  (R (.returned (.tuple #[(str []), (str []), (str []), (.bool false)])) w)
  (Fa P 23 t2 0 w fun t27 w =>
  Ld P 9 t27 w fun t28 w =>
  Fa P 23 t3 1 w fun t29 w =>
  Ld P 9 t29 w fun t30 w =>
  Cl P 21 #[t28, t30] w (Pk R) fun t31 w =>
  Ex t31 0 w fun t32 w =>
  Ex t31 1 w fun t33 w =>
  Fa P 23 t3 0 w fun t35 w =>
  Ld P 9 t35 w fun t36 w =>
  Fa P 23 t2 1 w fun t37 w =>
  Ld P 9 t37 w fun t38 w =>
  Cl P 21 #[t36, t38] w (Pk R) fun t39 w =>
  Ex t39 0 w fun t40 w =>
  Ex t39 1 w fun t41 w =>
  Fa P 23 t2 1 w fun t43 w =>
  Ld P 9 t43 w fun t44 w =>
  Fa P 23 t3 1 w fun t45 w =>
  Ld P 9 t45 w fun t46 w =>
  Cl P 21 #[t44, t46] w (Pk R) fun t47 w =>
  Ex t47 0 w fun t48 w =>
  Ex t47 1 w fun t49 w =>
  Bn P .eql 30 true t33 (.int .i64 0) w fun t54 w =>
  Gd t54 true (fun k => k t41 w) w fun t56 w =>
  Gd t54 true (fun k => Bn P .eql 30 true t56 (.int .i64 0) w k) w fun t57 w =>
  Pick t54 t57 (.bool false) w fun t58 w =>
  Gd t58 true (fun k => k t49 w) w fun t60 w =>
  Gd t58 true (fun k => Bn P .eql 30 true t60 (.int .i64 0) w k) w fun t61 w =>
  Pick t58 t61 (.bool false) w fun t62 w =>
  R (.returned (.tuple #[t32, t40, t48, t62])) w)
theorem e_ref04_cross {t0 t1 : Value} {w : World} {R : Ending → World → Prop} (h : s_ref04_cross Tryz.prog t0 t1 w R) : Calls Tryz.prog 63 #[t0, t1] w R :=
  enter (h := (.sq .z (.sq .z (.sq .z (.sq (.sq .z (.cd (.sq .z .z) .z)) (.sq .z (.sq .z (.sq .z (.sq .z .z))))))))) (args := [t0, t1]) Tryz.func63 (by kernel_rfl) (by kernel_rfl) (by kernel_rfl) (Eq.mp (by kernel_rfl) h)
theorem n_ref04_cross : Enters Tryz.prog 63 := enters_of Tryz.func63 (by kernel_rfl) rfl
def s_ref03_Add (P : Program) (t0 t1 : Value) (w : World) (R : Ending → World → Prop) : Prop :=
  Cl P 53 #[t0] w (Pk R) fun t11 w =>
  Un P .not t11 w fun t12 w =>
  Gd t12 false (fun k => k t1 w) w fun t14 w =>
  Gd t12 false (fun k => Cl P 53 #[t14] w (Pk R) k) w fun t15 w =>
  Gd t12 false (fun k => Un P .not t15 w k) w fun t16 w =>
  Pick t12 (.bool true) t16 w fun t17 w =>
  If t17
  (R (.returned (.tuple #[(str []), (.int .i64 30)])) w)
  (Cl P 54 #[t0] w (Pk R) fun t20 w =>
  Ex t20 0 w fun t21 w =>
  Ex t20 1 w fun t22 w =>
  Cl P 54 #[t1] w (Pk R) fun t25 w =>
  Ex t25 0 w fun t26 w =>
  Ex t25 1 w fun t27 w =>
  Cl P 91 #[t21, t22, t26, t27] w (Pk R) fun t32 w =>
  Ex t32 0 w fun t33 w =>
  Ex t32 1 w fun t34 w =>
  R (.returned (.tuple #[t33, t34])) w)
theorem e_ref03_Add {t0 t1 : Value} {w : World} {R : Ending → World → Prop} (h : s_ref03_Add Tryz.prog t0 t1 w R) : Calls Tryz.prog 64 #[t0, t1] w R :=
  enter (h := (.sq .z (.sq (.sq .z (.cd (.sq .z .z) .z)) (.sq .z (.sq .z (.sq .z .z)))))) (args := [t0, t1]) Tryz.func64 (by kernel_rfl) (by kernel_rfl) (by kernel_rfl) (Eq.mp (by kernel_rfl) h)
theorem n_ref03_Add : Enters Tryz.prog 64 := enters_of Tryz.func64 (by kernel_rfl) rfl
def s_ref03_Sub (P : Program) (t0 t1 : Value) (w : World) (R : Ending → World → Prop) : Prop :=
  Cl P 53 #[t0] w (Pk R) fun t11 w =>
  Un P .not t11 w fun t12 w =>
  Gd t12 false (fun k => k t1 w) w fun t14 w =>
  Gd t12 false (fun k => Cl P 53 #[t14] w (Pk R) k) w fun t15 w =>
  Gd t12 false (fun k => Un P .not t15 w k) w fun t16 w =>
  Pick t12 (.bool true) t16 w fun t17 w =>
  If t17
  (R (.returned (.tuple #[(str []), (.int .i64 30)])) w)
  (Cl P 54 #[t0] w (Pk R) fun t20 w =>
  Ex t20 0 w fun t21 w =>
  Ex t20 1 w fun t22 w =>
  Cl P 54 #[t1] w (Pk R) fun t25 w =>
  Ex t25 0 w fun t26 w =>
  Ex t25 1 w fun t27 w =>
  Un P .not t26 w fun t31 w =>
  Cl P 91 #[t21, t22, t31, t27] w (Pk R) fun t33 w =>
  Ex t33 0 w fun t34 w =>
  Ex t33 1 w fun t35 w =>
  R (.returned (.tuple #[t34, t35])) w)
theorem e_ref03_Sub {t0 t1 : Value} {w : World} {R : Ending → World → Prop} (h : s_ref03_Sub Tryz.prog t0 t1 w R) : Calls Tryz.prog 65 #[t0, t1] w R :=
  enter (h := (.sq .z (.sq (.sq .z (.cd (.sq .z .z) .z)) (.sq .z (.sq .z (.sq .z .z)))))) (args := [t0, t1]) Tryz.func65 (by kernel_rfl) (by kernel_rfl) (by kernel_rfl) (Eq.mp (by kernel_rfl) h)
theorem n_ref03_Sub : Enters Tryz.prog 65 := enters_of Tryz.func65 (by kernel_rfl) rfl
def s_ref03_Div (P : Program) (t0 t1 : Value) (w : World) (R : Ending → World → Prop) : Prop :=
  Cl P 53 #[t0] w (Pk R) fun t18 w =>
  Un P .not t18 w fun t19 w =>
  Gd t19 false (fun k => k t1 w) w fun t21 w =>
  Gd t19 false (fun k => Cl P 53 #[t21] w (Pk R) k) w fun t22 w =>
  Gd t19 false (fun k => Un P .not t22 w k) w fun t23 w =>
  Pick t19 (.bool true) t23 w fun t24 w =>
  Gd t24 false (fun k => k t1 w) w fun t26 w =>
  Gd t24 false (fun k => Bn P .eql 9 true t26 (str [48]) w k) w fun t27 w =>
  Pick t24 (.bool true) t27 w fun t28 w =>
  If t28
  (R (.returned (.tuple #[(str []), (str []), (.int .i64 30)])) w)
  (Cl P 54 #[t0] w (Pk R) fun t31 w =>
  Ex t31 0 w fun t32 w =>
  Ex t31 1 w fun t33 w =>
  Cl P 54 #[t1] w (Pk R) fun t36 w =>
  Ex t36 0 w fun t37 w =>
  Ex t36 1 w fun t38 w =>
  Cl P 92 #[t33, t38] w (Pk R) fun t42 w =>
  Ex t42 0 w fun t43 w =>
  Ex t42 1 w fun t44 w =>
  Jn2 (fun k1 =>
  Gd t32 true (fun k => k t44 w) w fun t47 w =>
  Gd t32 true (fun k => Bt P .len #[53] 3 #[t47] w k) w fun t48 w =>
  Gd t32 true (fun k => Bn P .gtr 3 true t48 (.int .i64 0) w k) w fun t49 w =>
  Pick t32 t49 (.bool false) w fun t50 w =>
  If t50
  (Bs P 53 1 [(0, (.int .i64 1))] w fun t52 w =>
  Cl P 93 #[t43, t52] w (Pk R) fun t53 w =>
  Cl P 94 #[t38, t44] w (Pk R) fun t56 w =>
  k1 t53 t56 w)
  (k1 t43 t44 w))
  (fun t11 t12 w =>
  Bn P .neq 4 false t32 t37 w fun t60 w =>
  Cl P 55 #[t60, t11] w (Pk R) fun t62 w =>
  Ex t62 0 w fun t63 w =>
  Ex t62 1 w fun t64 w =>
  Cl P 52 #[(.bool false), t12] w (Pk R) fun t67 w =>
  Ex t67 0 w fun t68 w =>
  Ex t67 1 w fun t69 w =>
  Bn P .neq 30 true t64 (.int .i64 0) w fun t71 w =>
  If t71
  (R (.returned (.tuple #[(str []), (str []), t64])) w)
  (R (.returned (.tuple #[t63, t68, (.int .i64 0)])) w)))
theorem e_ref03_Div {t0 t1 : Value} {w : World} {R : Ending → World → Prop} (h : s_ref03_Div Tryz.prog t0 t1 w R) : Calls Tryz.prog 66 #[t0, t1] w R :=
  enter (h := (.sq .z (.sq (.sq .z (.cd (.sq .z .z) .z)) (.sq .z (.sq .z (.sq .z (.jn [11, 12] [45, 46, 47, 48, 49, 50, 51, 52, 53, 54, 55, 56] (.sq .z (.cd (.sq .z .z) .z)) (.sq .z (.sq .z (.sq (.sq .z (.cd (.sq .z .z) .z)) (.sq .z .z))))))))))) (args := [t0, t1]) Tryz.func66 (by kernel_rfl) (by kernel_rfl) (by kernel_rfl) (Eq.mp (by kernel_rfl) h)
theorem n_ref03_Div : Enters Tryz.prog 66 := enters_of Tryz.func66 (by kernel_rfl) rfl
def s_ref03_Compare (P : Program) (t0 t1 : Value) (w : World) (R : Ending → World → Prop) : Prop :=
  Cl P 53 #[t0] w (Pk R) fun t10 w =>
  Un P .not t10 w fun t11 w =>
  Gd t11 false (fun k => k t1 w) w fun t13 w =>
  Gd t11 false (fun k => Cl P 53 #[t13] w (Pk R) k) w fun t14 w =>
  Gd t11 false (fun k => Un P .not t14 w k) w fun t15 w =>
  Pick t11 (.bool true) t15 w fun t16 w =>
  If t16
  (R (.returned (.int .i64 0)) w)
  (Cl P 54 #[t0] w (Pk R) fun t19 w =>
  Ex t19 0 w fun t20 w =>
  Ex t19 1 w fun t21 w =>
  Cl P 54 #[t1] w (Pk R) fun t24 w =>
  Ex t24 0 w fun t25 w =>
  Ex t24 1 w fun t26 w =>
  Bn P .neq 4 false t20 t25 w fun t29 w =>
  If t29
  (If t20
  (R (.returned (.int .i64 (-1))) w)
  (R (.returned (.int .i64 1)) w))
  (If t20
  (Cl P 95 #[t26, t21] w (Pk R) fun t34 w =>
  R (.returned t34) w)
  (Cl P 95 #[t21, t26] w (Pk R) fun t37 w =>
  R (.returned t37) w)))
theorem e_ref03_Compare {t0 t1 : Value} {w : World} {R : Ending → World → Prop} (h : s_ref03_Compare Tryz.prog t0 t1 w R) : Calls Tryz.prog 67 #[t0, t1] w R :=
  enter (h := (.sq .z (.sq (.sq .z (.cd (.sq .z .z) .z)) (.sq .z (.sq .z (.sq (.sq .z (.cd (.sq (.sq .z (.cd (.sq .z .z) .z)) (.sq .z .z)) .z)) (.sq (.sq .z (.cd (.sq .z .z) .z)) (.sq .z .z)))))))) (args := [t0, t1]) Tryz.func67 (by kernel_rfl) (by kernel_rfl) (by kernel_rfl) (Eq.mp (by kernel_rfl) h)
theorem n_ref03_Compare : Enters Tryz.prog 67 := enters_of Tryz.func67 (by kernel_rfl) rfl
def s_ref04_zeroOr (P : Program) (t0 : Value) (w : World) (R : Ending → World → Prop) : Prop :=
  Bn P .eql 9 true t0 (str [48]) w fun t4 w =>
  If t4
  (R (.returned t0) w)
  (R (.returned (str [49])) w)
theorem e_ref04_zeroOr {t0 : Value} {w : World} {R : Ending → World → Prop} (h : s_ref04_zeroOr Tryz.prog t0 w R) : Calls Tryz.prog 68 #[t0] w R :=
  enter (h := (.sq .z (.sq (.sq .z (.cd (.sq .z .z) .z)) (.sq .z .z)))) (args := [t0]) Tryz.func68 (by kernel_rfl) (by kernel_rfl) (by kernel_rfl) (Eq.mp (by kernel_rfl) h)
theorem n_ref04_zeroOr : Enters Tryz.prog 68 := enters_of Tryz.func68 (by kernel_rfl) rfl
def s_rational_round (P : Program) (t0 t1 t2 : Value) (w : World) (R : Ending → World → Prop) : Prop :=
  Bx P 23 t0 w fun t3 w =>
  Al P 23 w fun t6 w =>
  Bn P .lss 3 true t1 (.int .i64 0) w fun t15 w =>
  Gd t15 false (fun k => k t1 w) w fun t17 w =>
  Gd t15 false (fun k => Bn P .gtr 3 true t17 (.int .i64 30) w k) w fun t18 w =>
  Pick t15 (.bool true) t18 w fun t19 w =>
  Bd P 78 [(0, t19)] w fun t20 w =>
  Bx P 78 t20 w fun t21 w =>
  Ld P 23 t3 w fun t23 w =>
  Bs P 28 1 [(0, t23)] w fun t24 w =>
  Cl P 59 #[t21, t24] w (Pk R) fun t25 w =>
  Nc t21 w fun t27 w =>
  Fa P 78 t27 0 w fun t28 w =>
  Ld P 4 t28 w fun t29 w =>
  If t29
  (Bd P 23 [] w fun t30 w =>
  Sto P 23 t6 t30 w fun w =>
  Rc P 23 t6 w fun r0 =>
  R (.returned (.tuple #[r0, (.int .i64 40)])) w)
  (Cl P 96 #[(str [48]), t1] w (Pk R) fun t32 w =>
  Bn P .add 9 true (str [49]) t32 w fun t33 w =>
  Fa P 23 t3 0 w fun t35 w =>
  Ld P 9 t35 w fun t36 w =>
  Cl P 60 #[t21, t36, t33] w (Pk R) fun t38 w =>
  Nc t21 w fun t40 w =>
  Fa P 78 t40 0 w fun t41 w =>
  Ld P 4 t41 w fun t42 w =>
  If t42
  (Bd P 23 [] w fun t43 w =>
  Sto P 23 t6 t43 w fun w =>
  Rc P 23 t6 w fun r0 =>
  R (.returned (.tuple #[r0, (.int .i64 40)])) w)
  (Fa P 23 t3 1 w fun t46 w =>
  Ld P 9 t46 w fun t47 w =>
  Cl P 58 #[t38, t47] w (Pk R) fun t48 w =>
  Ex t48 0 w fun t49 w =>
  Ex t48 1 w fun t50 w =>
  Ex t48 2 w fun t51 w =>
  Jn1 (fun k1 =>
  Bn P .neq 30 true t51 (.int .i64 0) w fun t54 w =>
  Nc t21 w fun t55 w =>
  Fa P 78 t55 0 w fun t56 w =>
  Sto P 4 t56 t54 w fun w =>
  Gd t2 true (fun k => k t50 w) w fun t59 w =>
  Gd t2 true (fun k => Bn P .neq 9 true t59 (str [48]) w k) w fun t60 w =>
  Pick t2 t60 (.bool false) w fun t61 w =>
  If t61
  (Cl P 84 #[t21, (.func (.func 62) #[] #[]), t49, (str [49])] w (Pk R) fun t64 w =>
  k1 t64 w)
  (k1 t49 w))
  (fun t11 w =>
  Cl P 57 #[t21, t11, t33] w (Pk R) fun t68 w =>
  Ex t68 0 w fun t69 w =>
  Ex t68 1 w fun t70 w =>
  Sto P 23 t6 t69 w fun w =>
  Rc P 23 t6 w fun r0 =>
  R (.returned (.tuple #[r0, t70])) w)))
theorem e_rational_round {t0 t1 t2 : Value} {w : World} {R : Ending → World → Prop} (h : s_rational_round Tryz.prog t0 t1 t2 w R) : Calls Tryz.prog 69 #[t0, t1, t2] w R :=
  enter (h := (.sq .z (.sq .z (.sq .z (.sq (.sq .z (.cd (.sq .z .z) .z)) (.sq .z (.sq .z (.sq (.sq .z (.cd (.sq .z .z) .z)) (.sq .z (.jn [11] [52, 53, 54, 55, 56, 57, 58, 59, 60, 61, 62, 63, 64] (.sq .z (.sq .z (.cd .z .z))) (.sq .z .z))))))))))) (args := [t0, t1, t2]) Tryz.func69 (by kernel_rfl) (by kernel_rfl) (by kernel_rfl) (Eq.mp (by kernel_rfl) h)
theorem n_rational_round : Enters Tryz.prog 69 := enters_of Tryz.func69 (by kernel_rfl) rfl
def s_ref04_grid (P : Program) (t0 t1 : Value) (w : World) (R : Ending → World → Prop) : Prop :=
  Bx P 23 t0 w fun t2 w =>
  Ld P 23 t2 w fun t15 w =>
  Cl P 40 #[t15] w (Pk R) fun t16 w =>
  Un P .not t16 w fun t18 w =>
  Gd t18 false (fun k => k t1 w) w fun t20 w =>
  Gd t18 false (fun k => Bn P .lss 3 true t20 (.int .i64 0) w k) w fun t21 w =>
  Pick t18 (.bool true) t21 w fun t22 w =>
  Gd t22 false (fun k => k t1 w) w fun t24 w =>
  Gd t22 false (fun k => Bn P .gtr 3 true t24 (.int .i64 30) w k) w fun t25 w =>
  Pick t22 (.bool true) t25 w fun t26 w =>
  If t26
  (R (.returned (.tuple #[(str []), (str []), (str []), (.bool false)])) w)
  (Cl P 97 #[t1] w (Pk R) fun t28 w =>
  Fa P 23 t2 0 w fun t30 w =>
  Ld P 9 t30 w fun t31 w =>
  Cl P 21 #[t31, t28] w (Pk R) fun t33 w =>
  Ex t33 0 w fun t34 w =>
  Ex t33 1 w fun t35 w =>
  Bn P .neq 30 true t35 (.int .i64 0) w fun t37 w =>
  If t37
  (R (.returned (.tuple #[(str []), (str []), (str []), (.bool false)])) w)
  (Fa P 23 t2 1 w fun t40 w =>
  Ld P 9 t40 w fun t41 w =>
  Cl P 66 #[t34, t41] w (Pk R) fun t42 w =>
  Ex t42 0 w fun t43 w =>
  Ex t42 1 w fun t44 w =>
  Ex t42 2 w fun t45 w =>
  Bn P .eql 30 true t45 (.int .i64 0) w fun t50 w =>
  R (.returned (.tuple #[t43, t44, t28, t50])) w))
theorem e_ref04_grid {t0 t1 : Value} {w : World} {R : Ending → World → Prop} (h : s_ref04_grid Tryz.prog t0 t1 w R) : Calls Tryz.prog 70 #[t0, t1] w R :=
  enter (h := (.sq .z (.sq .z (.sq (.sq .z (.cd (.sq .z .z) .z)) (.sq .z (.sq .z (.sq (.sq .z (.cd (.sq .z .z) .z)) (.sq .z (.sq .z .z))))))))) (args := [t0, t1]) Tryz.func70 (by kernel_rfl) (by kernel_rfl) (by kernel_rfl) (Eq.mp (by kernel_rfl) h)
theorem n_ref04_grid : Enters Tryz.prog 70 := enters_of Tryz.func70 (by kernel_rfl) rfl
def s_ref03_Gcd (P : Program) (t0 t1 : Value) (w : World) (R : Ending → World → Prop) : Prop :=
  Cl P 53 #[t0] w (Pk R) fun t13 w =>
  Un P .not t13 w fun t14 w =>
  Gd t14 false (fun k => k t1 w) w fun t16 w =>
  Gd t14 false (fun k => Cl P 53 #[t16] w (Pk R) k) w fun t17 w =>
  Gd t14 false (fun k => Un P .not t17 w k) w fun t18 w =>
  Pick t14 (.bool true) t18 w fun t19 w =>
  If t19
  (R (.returned (.tuple #[(str []), (.int .i64 30)])) w)
  (Cl P 54 #[t0] w (Pk R) fun t22 w =>
  Ex t22 0 w fun t23 w =>
  Ex t22 1 w fun t24 w =>
  Cl P 54 #[t1] w (Pk R) fun t27 w =>
  Ex t27 0 w fun t28 w =>
  Ex t27 1 w fun t29 w =>
  Lp2 t24 t29 w (fun t7 t9 w k1 =>
  Bt P .len #[53] 3 #[t9] w fun t31 w =>
  Bn P .gtr 3 true t31 (.int .i64 0) w fun t32 w =>
  If t32
  (Cl P 92 #[t7, t9] w (Pk R) fun t36 w =>
  Ex t36 0 w fun t37 w =>
  Ex t36 1 w fun t38 w =>
  k1 t9 t38 w)
  (Cl P 55 #[(.bool false), t7] w (Pk R) fun t42 w =>
  Ex t42 0 w fun t43 w =>
  Ex t42 1 w fun t44 w =>
  R (.returned (.tuple #[t43, t44])) w)))
theorem e_ref03_Gcd {t0 t1 : Value} {w : World} {R : Ending → World → Prop} (h : s_ref03_Gcd Tryz.prog t0 t1 w R) : Calls Tryz.prog 71 #[t0, t1] w R :=
  enter (h := (.sq .z (.sq (.sq .z (.cd (.sq .z .z) .z)) (.sq .z (.sq .z (.sq (.bk (.lp [7, 9] [10, 11, 30, 31, 32, 33, 34, 35, 36, 37, 38, 39, 40] (.sq (.sq .z (.cd .z .z)) (.bk (.sq .z (.sq .z .z)))))) (.sq .z .z))))))) (args := [t0, t1]) Tryz.func71 (by kernel_rfl) (by kernel_rfl) (by kernel_rfl) (Eq.mp (by kernel_rfl) h)
theorem n_ref03_Gcd : Enters Tryz.prog 71 := enters_of Tryz.func71 (by kernel_rfl) rfl
def s_integer_FromInt (P : Program) (t0 : Value) (w : World) (R : Ending → World → Prop) : Prop :=
  Cl P 98 #[t0] w (Pk R) fun t4 w =>
  R (.returned t4) w
theorem e_integer_FromInt {t0 : Value} {w : World} {R : Ending → World → Prop} (h : s_integer_FromInt Tryz.prog t0 w R) : Calls Tryz.prog 72 #[t0] w R :=
  enter (h := (.sq .z (.sq .z .z))) (args := [t0]) Tryz.func72 (by kernel_rfl) (by kernel_rfl) (by kernel_rfl) (Eq.mp (by kernel_rfl) h)
theorem n_integer_FromInt : Enters Tryz.prog 72 := enters_of Tryz.func72 (by kernel_rfl) rfl
def s_integer_Sub (P : Program) (t0 t1 : Value) (w : World) (R : Ending → World → Prop) : Prop :=
  Cl P 79 #[t0, t1] w (Pk R) fun t12 w =>
  Ex t12 0 w fun t13 w =>
  Ex t12 1 w fun t14 w =>
  Ex t12 2 w fun t15 w =>
  Al P 100 w fun t6 w =>
  Al P 100 w fun t7 w =>
  Sto P 100 t6 t13 w fun w =>
  Sto P 100 t7 t14 w fun w =>
  Un P .not t15 w fun t17 w =>
  If t17
  (R (.returned (.tuple #[(str []), (.int .i64 30)])) w)
  (Fa P 100 t7 0 w fun t18 w =>
  Ld P 4 t18 w fun t19 w =>
  Un P .not t19 w fun t20 w =>
  Fa P 100 t7 0 w fun t21 w =>
  Sto P 4 t21 t20 w fun w =>
  Ld P 100 t6 w fun t22 w =>
  Ld P 100 t7 w fun t23 w =>
  Cl P 90 #[t22, t23] w (Pk R) fun t24 w =>
  Cl P 82 #[t24] w (Pk R) fun t25 w =>
  Ex t25 0 w fun t26 w =>
  Ex t25 1 w fun t27 w =>
  R (.returned (.tuple #[t26, t27])) w)
theorem e_integer_Sub {t0 t1 : Value} {w : World} {R : Ending → World → Prop} (h : s_integer_Sub Tryz.prog t0 t1 w R) : Calls Tryz.prog 73 #[t0, t1] w R :=
  enter (h := (.sq .z (.sq .z (.sq (.sq .z (.cd (.sq .z .z) .z)) (.sq .z (.sq .z .z)))))) (args := [t0, t1]) Tryz.func73 (by kernel_rfl) (by kernel_rfl) (by kernel_rfl) (Eq.mp (by kernel_rfl) h)
theorem n_integer_Sub : Enters Tryz.prog 73 := enters_of Tryz.func73 (by kernel_rfl) rfl
def s_strings_Builder_WriteString (P : Program) (t0 t1 : Value) (w : World) (R : Ending → World → Prop) : Prop :=
  Cl P 99 #[t0] w (Pk R) fun t7 w =>
  Nc t0 w fun t10 w =>
  Fa P 91 t10 1 w fun t11 w =>
  Ld P 35 t11 w fun t12 w =>
  Bt P .append #[35, 9] 35 #[t12, t1] w fun t14 w =>
  Nc t0 w fun t15 w =>
  Fa P 91 t15 1 w fun t16 w =>
  Sto P 35 t16 t14 w fun w =>
  Bt P .len #[9] 3 #[t1] w fun t18 w =>
  R (.returned (.tuple #[t18, .nilIface])) w
theorem e_strings_Builder_WriteString {t0 t1 : Value} {w : World} {R : Ending → World → Prop} (h : s_strings_Builder_WriteString Tryz.prog t0 t1 w R) : Calls Tryz.prog 75 #[t0, t1] w R :=
  enter (h := (.sq .z (.sq .z (.sq .z (.sq .z .z))))) (args := [t0, t1]) Tryz.func75 (by kernel_rfl) (by kernel_rfl) (by kernel_rfl) (Eq.mp (by kernel_rfl) h)
theorem n_strings_Builder_WriteString : Enters Tryz.prog 75 := enters_of Tryz.func75 (by kernel_rfl) rfl
def s_strings_Builder_String (P : Program) (t0 : Value) (w : World) (R : Ending → World → Prop) : Prop :=
  NcP t0 fun t4 =>
  Dv P true (Instr.fieldAt 91 t4 1) w.drew fun t5 =>
  Dv P false (Instr.loadAt 35 t5) w.drew fun t6 =>
  NcP t0 fun t9 =>
  Dv P true (Instr.fieldAt 91 t9 1) w.drew fun t10 =>
  Dv P false (Instr.loadAt 35 t10) w.drew fun t11 =>
  Dv P true (bV .len #[35] 3 #[t11]) w.drew fun t12 =>
  Bt P .unsafeSliceData #[35] 117 #[t6] w.drew fun t7 w =>
  Ke P (Instr.loadAt 35 t10) t11 w <|
  Bt P .unsafeString #[117, 3] 9 #[t7, t12] w fun t13 w =>
  R (.returned t13) w
theorem e_strings_Builder_String {t0 : Value} {w : World} {R : Ending → World → Prop} (h : s_strings_Builder_String Tryz.prog t0 w R) : Calls Tryz.prog 76 #[t0] w R :=
  enter (h := (.sq .z (.sq (.dr (.pur true 0 (.pur true 1 (.pur true 2 (.pur false 3 (.pur true 5 (.pur true 6 (.pur true 7 (.pur false 8 (.pur true 9 (.eff 4 [8] (.eff 10 [] (.pur true 11 .done))))))))))))) .z))) (args := [t0]) Tryz.func76 (by kernel_rfl) (by kernel_rfl) (by kernel_rfl) (Eq.mp (by kernel_rfl) h)
theorem n_strings_Builder_String : Enters Tryz.prog 76 := enters_of Tryz.func76 (by kernel_rfl) rfl
def s_integer_isValid (P : Program) (t0 : Value) (w : World) (R : Ending → World → Prop) : Prop :=
  Cl P 102 #[t0, (str [45])] w (Pk R) fun t5 w =>
  Bn P .eql 9 true t5 (str []) w fun t7 w =>
  Gd t7 false (fun k => k t5 w) w fun t9 w =>
  Gd t7 false (fun k => Bt P .len #[9] 3 #[t9] w k) w fun t10 w =>
  Gd t7 false (fun k => Bn P .gtr 3 true t10 (.int .i64 200) w k) w fun t11 w =>
  Pick t7 (.bool true) t11 w fun t12 w =>
  Gd t12 false (fun k => k t5 w) w fun t14 w =>
  Gd t12 false (fun k => Cl P 103 #[t14, (str [48, 49, 50, 51, 52, 53, 54, 55, 56, 57])] w (Pk R) k) w fun t15 w =>
  Gd t12 false (fun k => Bn P .neq 9 true t15 (str []) w k) w fun t16 w =>
  Pick t12 (.bool true) t16 w fun t17 w =>
  If t17
  (R (.returned (.bool false)) w)
  (Bn P .eql 9 true t0 (str [48]) w fun t19 w =>
  Gd t19 false (fun k => k t5 w) w fun t21 w =>
  Gd t19 false (fun k => Ix P 9 t21 (.int .i64 0) w k) w fun t22 w =>
  Gd t19 false (fun k => Bn P .neq 5 true t22 (.int .u8 48) w k) w fun t23 w =>
  Pick t19 (.bool true) t23 w fun t24 w =>
  R (.returned t24) w)
theorem e_integer_isValid {t0 : Value} {w : World} {R : Ending → World → Prop} (h : s_integer_isValid Tryz.prog t0 w R) : Calls Tryz.prog 78 #[t0] w R :=
  enter (h := (.sq .z (.sq .z (.sq (.sq .z (.cd (.sq .z .z) .z)) (.sq .z .z))))) (args := [t0]) Tryz.func78 (by kernel_rfl) (by kernel_rfl) (by kernel_rfl) (Eq.mp (by kernel_rfl) h)
theorem n_integer_isValid : Enters Tryz.prog 78 := enters_of Tryz.func78 (by kernel_rfl) rfl
def s_integer_both (P : Program) (t0 t1 : Value) (w : World) (R : Ending → World → Prop) : Prop :=
  Al P 100 w fun t4 w =>
  Al P 100 w fun t5 w =>
  Cl P 78 #[t0] w (Pk R) fun t8 w =>
  Un P .not t8 w fun t9 w =>
  Gd t9 false (fun k => k t1 w) w fun t11 w =>
  Gd t9 false (fun k => Cl P 78 #[t11] w (Pk R) k) w fun t12 w =>
  Gd t9 false (fun k => Un P .not t12 w k) w fun t13 w =>
  Pick t9 (.bool true) t13 w fun t14 w =>
  If t14
  (Bd P 100 [] w fun t15 w =>
  Bd P 100 [] w fun t16 w =>
  Sto P 100 t4 t15 w fun w =>
  Sto P 100 t5 t16 w fun w =>
  Rc P 100 t4 w fun r0 =>
  Rc P 100 t5 w fun r1 =>
  R (.returned (.tuple #[r0, r1, (.bool false)])) w)
  (Cl P 104 #[t0] w (Pk R) fun t18 w =>
  Cl P 104 #[t1] w (Pk R) fun t20 w =>
  Sto P 100 t4 t18 w fun w =>
  Sto P 100 t5 t20 w fun w =>
  Rc P 100 t4 w fun r0 =>
  Rc P 100 t5 w fun r1 =>
  R (.returned (.tuple #[r0, r1, (.bool true)])) w)
theorem e_integer_both {t0 t1 : Value} {w : World} {R : Ending → World → Prop} (h : s_integer_both Tryz.prog t0 t1 w R) : Calls Tryz.prog 79 #[t0, t1] w R :=
  enter (h := (.sq .z (.sq (.sq .z (.cd (.sq .z .z) .z)) (.sq .z .z)))) (args := [t0, t1]) Tryz.func79 (by kernel_rfl) (by kernel_rfl) (by kernel_rfl) (Eq.mp (by kernel_rfl) h)
theorem n_integer_both : Enters Tryz.prog 79 := enters_of Tryz.func79 (by kernel_rfl) rfl
def s_integer_number_compare (P : Program) (t0 t1 : Value) (w : World) (R : Ending → World → Prop) : Prop :=
  Bx P 98 t1 w fun t3 w =>
  Al P 3 w fun t4 w =>
  Bt P .len #[98] 3 #[t0] w fun t8 w =>
  Ld P 98 t3 w fun t9 w =>
  Bt P .len #[98] 3 #[t9] w fun t10 w =>
  Bn P .neq 3 false t8 t10 w fun t11 w =>
  If t11
  (Bt P .len #[98] 3 #[t0] w fun t13 w =>
  Ld P 98 t3 w fun t14 w =>
  Bt P .len #[98] 3 #[t14] w fun t15 w =>
  Cl P 105 #[t13, t15] w (Pk R) fun t16 w =>
  Sto P 3 t4 t16 w fun w =>
  Rc P 3 t4 w fun r0 =>
  R (.returned r0) w)
  (Cl P 106 #[t0] w (Pk R) fun t18 w =>
  Rf2 P t18 w (fun t19 t20 w next lv =>
  Ld P 98 t3 w fun t22 w =>
  Ia P 98 t22 t19 w fun t24 w =>
  Ld P 3 t24 w fun t25 w =>
  Bn P .neq 3 false t20 t25 w fun t26 w =>
  If t26
  (Ld P 98 t3 w fun t28 w =>
  Ia P 98 t28 t19 w fun t30 w =>
  Ld P 3 t30 w fun t31 w =>
  Cl P 105 #[t20, t31] w (fun _ _ => False) fun t32 w =>
  Sto P 3 t4 t32 w fun w =>
  lv .ret w)
  (next w))
  (fun D1 w =>
  Sto P 3 t4 (.int .i64 0) w fun w =>
  Tk P D1 w fun w =>
  Rc P 3 t4 w fun r0 =>
  R (.returned r0) w)
  (fun D1 w =>
  Tk P D1 w fun w =>
  Rc P 3 t4 w fun r0 =>
  R (.returned r0) w) [])
theorem e_integer_number_compare {t0 t1 : Value} {w : World} {R : Ending → World → Prop} (h : s_integer_number_compare Tryz.prog t0 t1 w R) : Calls Tryz.prog 80 #[t0, t1] w R :=
  enter (h := (.sq .z (.sq (.sq .z (.cd (.sq .z .z) .z)) (.sq (.sq .z (.bk (.rf (.bk (.sq .z (.cd (.sq .z .z) .z))) []))) (.sq .z .z))))) (args := [t0, t1]) Tryz.func80 (by kernel_rfl) (by kernel_rfl) (by kernel_rfl) (Eq.mp (by kernel_rfl) h)
theorem n_integer_number_compare : Enters Tryz.prog 80 := enters_of Tryz.func80 (by kernel_rfl) rfl
def s_integer_number_over (P : Program) (t0 t1 : Value) (w : World) (R : Ending → World → Prop) : Prop :=
  Bx P 98 t1 w fun t3 w =>
  Al P 98 w fun t4 w =>
  Al P 98 w fun t5 w =>
  Bt P .len #[98] 3 #[t0] w fun t11 w =>
  Ms P 98 t11 t11 w fun t12 w =>
  Sto P 98 t4 t12 w fun w =>
  Cl P 106 #[t0] w (Pk R) fun t14 w =>
  Rf2 P t14 w (fun t15 t16 w next lv =>
  Bs P 98 1 [(0, t16)] w fun t18 w =>
  Ld P 98 t5 w fun t19 w =>
  Bt P .append #[98, 98] 98 #[t18, t19] w fun t20 w =>
  Cl P 107 #[t20] w (fun _ _ => False) fun t21 w =>
  Sto P 98 t5 t21 w fun w =>
  Ld P 98 t3 w fun t22 w =>
  Al P 122 w fun t8 w =>
  Sto P 122 t8 (.func (.func 108) #[t22] #[]) w fun w =>
  Dv P false (Instr.loadAt 98 t4) w.drew fun t25 =>
  Cl P 110 #[(.int .i64 9999), (.func (.func 109) #[] #[t8, t5])] w.drew (fun _ _ => False) fun t28 w =>
  Ke P (Instr.loadAt 98 t4) t25 w <|
  Dv P true (Instr.indexAt 98 t25 t15) w fun t29 =>
  Sto P 3 t29 t28 w fun w =>
  Dv P false (Instr.loadAt 98 t5) w.drew fun t30 =>
  Dv P false (Instr.loadAt 122 t8) w.drew fun t31 =>
  Dv P false (Instr.loadAt 98 t4) w.drew fun t32 =>
  Dv P true (Instr.indexAt 98 t32 t15) w.drew fun t34 =>
  Dv P false (Instr.loadAt 3 t34) w.drew fun t35 =>
  Cw P t31 #[t35] w.drew (fun _ _ => False) fun t36 w =>
  Ke P (Instr.loadAt 98 t5) t30 w <|
  Cl P 88 #[t30, t36] w (fun _ _ => False) fun t37 w =>
  Sto P 98 t5 t37 w fun w =>
  next w)
  (fun D1 w =>
  Dv P false (Instr.loadAt 98 t4) w.drew fun t38 =>
  Dv P false (Instr.loadAt 98 t5) w.drew fun t40 =>
  Cl P 107 #[t38] w.drew (fun c w => Tk P D1 w fun w => R (.panicked c) w) fun t39 w =>
  Ke P (Instr.loadAt 98 t5) t40 w <|
  Sto P 98 t4 t39 w fun w =>
  Ke P (Instr.loadAt 98 t5) t40 w <|
  Sto P 98 t5 t40 w fun w =>
  Tk P D1 w fun w =>
  Rc P 98 t4 w fun r0 =>
  Rc P 98 t5 w fun r1 =>
  R (.returned (.tuple #[r0, r1])) w)
  (fun D1 w =>
  Tk P D1 w fun w =>
  Rc P 98 t4 w fun r0 =>
  Rc P 98 t5 w fun r1 =>
  R (.returned (.tuple #[r0, r1])) w) []
theorem e_integer_number_over {t0 t1 : Value} {w : World} {R : Ending → World → Prop} (h : s_integer_number_over Tryz.prog t0 t1 w R) : Calls Tryz.prog 81 #[t0, t1] w R :=
  enter (h := (.sq .z (.sq .z (.sq (.sq .z (.bk (.rf (.bk (.sq .z (.sq .z (.sq .z (.sq (.dr (.pur false 0 (.pur true 1 (.pur true 2 (.eff 3 [0] (.pur true 4 (.eff 5 [] .done))))))) (.dr (.pur false 0 (.pur false 1 (.pur false 2 (.pur true 3 (.pur true 4 (.pur false 5 (.eff 6 [0] (.eff 7 [] (.eff 8 [] .done))))))))))))))) []))) (.sq (.dr (.pur false 0 (.pur false 2 (.eff 1 [2] (.eff 3 [2] (.eff 4 [] .done)))))) .z))))) (args := [t0, t1]) Tryz.func81 (by kernel_rfl) (by kernel_rfl) (by kernel_rfl) (Eq.mp (by kernel_rfl) h)
theorem n_integer_number_over : Enters Tryz.prog 81 := enters_of Tryz.func81 (by kernel_rfl) rfl
def s_integer_signed_text (P : Program) (t0 : Value) (w : World) (R : Ending → World → Prop) : Prop :=
  Bx P 100 t0 w fun t1 w =>
  Fa P 100 t1 1 w fun t9 w =>
  Ld P 98 t9 w fun t10 w =>
  Bt P .len #[98] 3 #[t10] w fun t11 w =>
  Bn P .eql 3 true t11 (.int .i64 0) w fun t12 w =>
  If t12
  (R (.returned (.tuple #[(str [48]), (.int .i64 0)])) w)
  (Al P 91 w fun t4 w =>
  Fa P 100 t1 1 w fun t13 w =>
  Ld P 98 t13 w fun t14 w =>
  Cl P 106 #[t14] w (Pk R) fun t15 w =>
  Rf2 P t15 w (fun t16 t17 w next lv =>
  Cl P 98 #[t17] w (fun _ _ => False) fun t19 w =>
  Fa P 100 t1 1 w fun t21 w =>
  Ld P 98 t21 w fun t22 w =>
  Bt P .len #[98] 3 #[t22] w fun t23 w =>
  Bn P .sub 3 true t23 (.int .i64 1) w fun t24 w =>
  Bn P .lss 3 false t16 t24 w fun t25 w =>
  If t25
  (Bt P .len #[9] 3 #[t19] w fun t27 w =>
  Bn P .sub 3 true (.int .i64 4) t27 w fun t28 w =>
  Cl P 96 #[(str [48]), t28] w (fun _ _ => False) fun t29 w =>
  Bn P .add 9 false t29 t19 w fun t31 w =>
  Cl P 75 #[t4, t31] w (fun _ _ => False) fun t33 w =>
  next w)
  (Cl P 75 #[t4, t19] w (fun _ _ => False) fun t33x1 w =>
  next w))
  (fun D1 w =>
  Cl P 76 #[t4] w (fun c w => Tk P D1 w fun w => R (.panicked c) w) fun t34 w =>
  Bt P .len #[9] 3 #[t34] w fun t36 w =>
  Bn P .gtr 3 true t36 (.int .i64 200) w fun t37 w =>
  If t37
  (Tk P D1 w fun w =>
  R (.returned (.tuple #[(str []), (.int .i64 30)])) w)
  (Fa P 100 t1 0 w fun t38 w =>
  Ld P 4 t38 w fun t39 w =>
  If t39
  (Bn P .add 9 true (str [45]) t34 w fun t41 w =>
  Tk P D1 w fun w =>
  R (.returned (.tuple #[t41, (.int .i64 0)])) w)
  (Tk P D1 w fun w =>
  R (.returned (.tuple #[t34, (.int .i64 0)])) w)))
  (fun D1 w =>
  Tk P D1 w fun w =>
  R (.returned (.tuple #[(str []), (.int .i64 0)])) w) [])
theorem e_integer_signed_text {t0 : Value} {w : World} {R : Ending → World → Prop} (h : s_integer_signed_text Tryz.prog t0 w R) : Calls Tryz.prog 82 #[t0] w R :=
  enter (h := (.sq .z (.sq (.sq .z (.cd (.sq .z .z) .z)) (.sq .z (.sq (.sq .z (.bk (.rf (.bk (.sq .z (.sq (.sq .z (.cd .z .z)) .z))) []))) (.sq .z (.sq (.sq .z (.cd (.sq .z .z) .z)) (.sq (.sq .z (.cd (.sq .z .z) .z)) (.sq .z .z))))))))) (args := [t0]) Tryz.func82 (by kernel_rfl) (by kernel_rfl) (by kernel_rfl) (Eq.mp (by kernel_rfl) h)
theorem n_integer_signed_text : Enters Tryz.prog 82 := enters_of Tryz.func82 (by kernel_rfl) rfl
def s_ref03_trim (P : Program) (t0 : Value) (w : World) (R : Ending → World → Prop) : Prop :=
  Lp1 t0 w (fun t0x1 w k1 =>
  Bt P .len #[53] 3 #[t0x1] w fun t4 w =>
  Bn P .gtr 3 true t4 (.int .i64 0) w fun t5 w =>
  Gd t5 true (fun k => k t0x1 w) w fun t7 w =>
  Gd t5 true (fun k => k t0x1 w) w fun t8 w =>
  Gd t5 true (fun k => Bt P .len #[53] 3 #[t8] w k) w fun t9 w =>
  Gd t5 true (fun k => Bn P .sub 3 true t9 (.int .i64 1) w k) w fun t10 w =>
  Gd t5 true (fun k => Ia P 53 t7 t10 w k) w fun t11 w =>
  Gd t5 true (fun k => Ld P 3 t11 w k) w fun t12 w =>
  Gd t5 true (fun k => Bn P .eql 3 true t12 (.int .i64 0) w k) w fun t13 w =>
  Pick t5 t13 (.bool false) w fun t14 w =>
  If t14
  (Bt P .len #[53] 3 #[t0x1] w fun t17 w =>
  Bn P .sub 3 true t17 (.int .i64 1) w fun t18 w =>
  Sc P 53 t0x1 none (some t18) none w fun t19 w =>
  k1 t19 w)
  (R (.returned t0x1) w))
theorem e_ref03_trim {t0 : Value} {w : World} {R : Ending → World → Prop} (h : s_ref03_trim Tryz.prog t0 w R) : Calls Tryz.prog 83 #[t0] w R :=
  enter (h := (.sq .z (.sq (.bk (.lp [0] [3, 4, 5, 6, 7, 8, 9, 10, 11, 12, 13, 14, 15, 16, 17, 18, 19] (.sq (.sq .z (.cd .z .z)) (.bk .z)))) (.sq .z .z)))) (args := [t0]) Tryz.func83 (by kernel_rfl) (by kernel_rfl) (by kernel_rfl) (Eq.mp (by kernel_rfl) h)
theorem n_ref03_trim : Enters Tryz.prog 83 := enters_of Tryz.func83 (by kernel_rfl) rfl
def s_rational_work_do (P : Program) (t0 t1 t2 t3 : Value) (w : World) (R : Ending → World → Prop) : Prop :=
  Nc t0 w fun t12 w =>
  Fa P 78 t12 0 w fun t13 w =>
  Ld P 4 t13 w fun t14 w =>
  If t14
  (R (.returned (str [])) w)
  (Cw P t1 #[t2, t3] w (Pk R) fun t19 w =>
  Ex t19 0 w fun t20 w =>
  Ex t19 1 w fun t21 w =>
  Bn P .neq 30 true t21 (.int .i64 0) w fun t24 w =>
  Nc t0 w fun t25 w =>
  Fa P 78 t25 0 w fun t26 w =>
  Sto P 4 t26 t24 w fun w =>
  R (.returned t20) w)
theorem e_rational_work_do {t0 t1 t2 t3 : Value} {w : World} {R : Ending → World → Prop} (h : s_rational_work_do Tryz.prog t0 t1 t2 t3 w R) : Calls Tryz.prog 84 #[t0, t1, t2, t3] w R :=
  enter (h := (.sq .z (.sq (.sq .z (.cd (.sq .z .z) .z)) (.sq .z (.sq .z (.sq .z .z)))))) (args := [t0, t1, t2, t3]) Tryz.func84 (by kernel_rfl) (by kernel_rfl) (by kernel_rfl) (Eq.mp (by kernel_rfl) h)
theorem n_rational_work_do : Enters Tryz.prog 84 := enters_of Tryz.func84 (by kernel_rfl) rfl
def s_rational_work_quotient (P : Program) (t0 t1 t2 : Value) (w : World) (R : Ending → World → Prop) : Prop :=
  Cl P 84 #[t0, (.func (.func 111) #[] #[]), t1, t2] w (Pk R) fun t10 w =>
  R (.returned t10) w
theorem e_rational_work_quotient {t0 t1 t2 : Value} {w : World} {R : Ending → World → Prop} (h : s_rational_work_quotient Tryz.prog t0 t1 t2 w R) : Calls Tryz.prog 85 #[t0, t1, t2] w R :=
  enter (h := (.sq .z (.sq .z .z))) (args := [t0, t1, t2]) Tryz.func85 (by kernel_rfl) (by kernel_rfl) (by kernel_rfl) (Eq.mp (by kernel_rfl) h)
theorem n_rational_work_quotient : Enters Tryz.prog 85 := enters_of Tryz.func85 (by kernel_rfl) rfl
def s_integer_number_plus (P : Program) (t0 t1 : Value) (w : World) (R : Ending → World → Prop) : Prop :=
  Bx P 98 t0 w fun t2 w =>
  Bx P 98 t1 w fun t3 w =>
  Ld P 98 t2 w fun t5 w =>
  Bt P .len #[98] 3 #[t5] w fun t6 w =>
  Ld P 98 t3 w fun t7 w =>
  Bt P .len #[98] 3 #[t7] w fun t8 w =>
  Bt P .max #[3, 3] 3 #[t6, t8] w fun t9 w =>
  Cl P 112 #[t9, (.int .i64 0), (.func (.func 113) #[] #[t2, t3])] w (Pk R) fun t11 w =>
  Cl P 107 #[t11] w (Pk R) fun t12 w =>
  R (.returned t12) w
theorem e_integer_number_plus {t0 t1 : Value} {w : World} {R : Ending → World → Prop} (h : s_integer_number_plus Tryz.prog t0 t1 w R) : Calls Tryz.prog 86 #[t0, t1] w R :=
  enter (h := (.sq .z (.sq .z .z))) (args := [t0, t1]) Tryz.func86 (by kernel_rfl) (by kernel_rfl) (by kernel_rfl) (Eq.mp (by kernel_rfl) h)
theorem n_integer_number_plus : Enters Tryz.prog 86 := enters_of Tryz.func86 (by kernel_rfl) rfl
def s_integer_one (P : Program) (w : World) (R : Ending → World → Prop) : Prop :=
  Bs P 98 1 [(0, (.int .i64 1))] w fun t1 w =>
  R (.returned t1) w
theorem e_integer_one {w : World} {R : Ending → World → Prop} (h : s_integer_one Tryz.prog  w R) : Calls Tryz.prog 87 #[] w R :=
  enter (h := (.sq .z (.sq .z .z))) (args := []) Tryz.func87 (by kernel_rfl) (by kernel_rfl) (by kernel_rfl) (Eq.mp (by kernel_rfl) h)
theorem n_integer_one : Enters Tryz.prog 87 := enters_of Tryz.func87 (by kernel_rfl) rfl
def s_integer_number_minus (P : Program) (t0 t1 : Value) (w : World) (R : Ending → World → Prop) : Prop :=
  Bx P 98 t0 w fun t2 w =>
  Bx P 98 t1 w fun t3 w =>
  Ld P 98 t2 w fun t5 w =>
  Bt P .len #[98] 3 #[t5] w fun t6 w =>
  Cl P 112 #[t6, (.int .i64 0), (.func (.func 115) #[] #[t2, t3])] w (Pk R) fun t8 w =>
  Cl P 107 #[t8] w (Pk R) fun t9 w =>
  R (.returned t9) w
theorem e_integer_number_minus {t0 t1 : Value} {w : World} {R : Ending → World → Prop} (h : s_integer_number_minus Tryz.prog t0 t1 w R) : Calls Tryz.prog 88 #[t0, t1] w R :=
  enter (h := (.sq .z (.sq .z .z))) (args := [t0, t1]) Tryz.func88 (by kernel_rfl) (by kernel_rfl) (by kernel_rfl) (Eq.mp (by kernel_rfl) h)
theorem n_integer_number_minus : Enters Tryz.prog 88 := enters_of Tryz.func88 (by kernel_rfl) rfl
def s_integer_Mul (P : Program) (t0 t1 : Value) (w : World) (R : Ending → World → Prop) : Prop :=
  Cl P 79 #[t0, t1] w (Pk R) fun t12 w =>
  Ex t12 0 w fun t13 w =>
  Ex t12 1 w fun t14 w =>
  Ex t12 2 w fun t15 w =>
  Al P 100 w fun t6 w =>
  Al P 100 w fun t7 w =>
  Sto P 100 t6 t13 w fun w =>
  Sto P 100 t7 t14 w fun w =>
  Un P .not t15 w fun t17 w =>
  If t17
  (R (.returned (.tuple #[(str []), (.int .i64 30)])) w)
  (Dv P true (Instr.fieldAt 100 t6 0) w.drew fun t18 =>
  Dv P false (Instr.loadAt 4 t18) w.drew fun t19 =>
  Dv P true (Instr.fieldAt 100 t7 0) w.drew fun t20 =>
  Dv P false (Instr.loadAt 4 t20) w.drew fun t21 =>
  Dv P true (bn .neq 4 false t19 t21) w.drew fun t22 =>
  Dv P true (Instr.fieldAt 100 t6 1) w.drew fun t23 =>
  Dv P false (Instr.loadAt 98 t23) w.drew fun t24 =>
  Dv P true (Instr.fieldAt 100 t7 1) w.drew fun t25 =>
  Dv P false (Instr.loadAt 98 t25) w.drew fun t26 =>
  Cl P 116 #[t24, t26] w.drew (Pk R) fun t27 w =>
  Ke P (Instr.loadAt 4 t18) t19 w <|
  Ke P (Instr.loadAt 4 t20) t21 w <|
  Dv P true (Instr.build 100 #[(0, t22), (1, t27)]) w fun t28 =>
  Cl P 82 #[t28] w (Pk R) fun t29 w =>
  ExP t29 0 fun t30 =>
  ExP t29 1 fun t31 =>
  R (.returned (.tuple #[t30, t31])) w)
theorem e_integer_Mul {t0 t1 : Value} {w : World} {R : Ending → World → Prop} (h : s_integer_Mul Tryz.prog t0 t1 w R) : Calls Tryz.prog 89 #[t0, t1] w R :=
  enter (h := (.sq .z (.sq .z (.sq (.sq .z (.cd (.sq .z .z) .z)) (.sq (.dr (.pur true 0 (.pur false 1 (.pur true 2 (.pur false 3 (.pur true 4 (.pur true 5 (.pur false 6 (.pur true 7 (.pur false 8 (.eff 9 [1, 3] (.pur true 10 (.eff 11 [] (.pur true 12 (.pur true 13 (.pur true 14 (.pur true 15 .done))))))))))))))))) .z))))) (args := [t0, t1]) Tryz.func89 (by kernel_rfl) (by kernel_rfl) (by kernel_rfl) (Eq.mp (by kernel_rfl) h)
theorem n_integer_Mul : Enters Tryz.prog 89 := enters_of Tryz.func89 (by kernel_rfl) rfl
def s_integer_signed_plus (P : Program) (t0 t1 : Value) (w : World) (R : Ending → World → Prop) : Prop :=
  Bx P 100 t0 w fun t2 w =>
  Bx P 100 t1 w fun t3 w =>
  Al P 100 w fun t4 w =>
  Fa P 100 t2 0 w fun t6 w =>
  Ld P 4 t6 w fun t7 w =>
  Fa P 100 t3 0 w fun t8 w =>
  Ld P 4 t8 w fun t9 w =>
  Bn P .eql 4 false t7 t9 w fun t10 w =>
  If t10
  (Dv P true (Instr.fieldAt 100 t2 0) w.drew fun t11 =>
  Dv P false (Instr.loadAt 4 t11) w.drew fun t12 =>
  Dv P true (Instr.fieldAt 100 t2 1) w.drew fun t13 =>
  Dv P false (Instr.loadAt 98 t13) w.drew fun t14 =>
  Dv P true (Instr.fieldAt 100 t3 1) w.drew fun t15 =>
  Dv P false (Instr.loadAt 98 t15) w.drew fun t16 =>
  Cl P 86 #[t14, t16] w.drew (Pk R) fun t17 w =>
  Ke P (Instr.loadAt 4 t11) t12 w <|
  Dv P true (Instr.build 100 #[(0, t12), (1, t17)]) w fun t18 =>
  Sto P 100 t4 t18 w fun w =>
  Rc P 100 t4 w fun r0 =>
  R (.returned r0) w)
  (Fa P 100 t2 1 w fun t20 w =>
  Ld P 98 t20 w fun t21 w =>
  Fa P 100 t3 1 w fun t22 w =>
  Ld P 98 t22 w fun t23 w =>
  Cl P 80 #[t21, t23] w (Pk R) fun t24 w =>
  Bn P .geq 3 true t24 (.int .i64 0) w fun t25 w =>
  If t25
  (Dv P true (Instr.fieldAt 100 t2 0) w.drew fun t26 =>
  Dv P false (Instr.loadAt 4 t26) w.drew fun t27 =>
  Dv P true (Instr.fieldAt 100 t2 1) w.drew fun t28 =>
  Dv P false (Instr.loadAt 98 t28) w.drew fun t29 =>
  Dv P true (Instr.fieldAt 100 t3 1) w.drew fun t30 =>
  Dv P false (Instr.loadAt 98 t30) w.drew fun t31 =>
  Cl P 88 #[t29, t31] w.drew (Pk R) fun t32 w =>
  Ke P (Instr.loadAt 4 t26) t27 w <|
  Dv P true (Instr.build 100 #[(0, t27), (1, t32)]) w fun t33 =>
  Sto P 100 t4 t33 w fun w =>
  Rc P 100 t4 w fun r0 =>
  R (.returned r0) w)
  (Dv P true (Instr.fieldAt 100 t3 0) w.drew fun t34 =>
  Dv P false (Instr.loadAt 4 t34) w.drew fun t35 =>
  Dv P true (Instr.fieldAt 100 t3 1) w.drew fun t36 =>
  Dv P false (Instr.loadAt 98 t36) w.drew fun t37 =>
  Dv P true (Instr.fieldAt 100 t2 1) w.drew fun t38 =>
  Dv P false (Instr.loadAt 98 t38) w.drew fun t39 =>
  Cl P 88 #[t37, t39] w.drew (Pk R) fun t40 w =>
  Ke P (Instr.loadAt 4 t34) t35 w <|
  Dv P true (Instr.build 100 #[(0, t35), (1, t40)]) w fun t41 =>
  Sto P 100 t4 t41 w fun w =>
  Rc P 100 t4 w fun r0 =>
  R (.returned r0) w))
theorem e_integer_signed_plus {t0 t1 : Value} {w : World} {R : Ending → World → Prop} (h : s_integer_signed_plus Tryz.prog t0 t1 w R) : Calls Tryz.prog 90 #[t0, t1] w R :=
  enter (h := (.sq .z (.sq (.bk (.sq .z (.cd (.sq (.dr (.pur true 0 (.pur false 1 (.pur true 2 (.pur false 3 (.pur true 4 (.pur false 5 (.eff 6 [1] (.pur true 7 (.eff 8 [] .done)))))))))) .z) (.sq .z (.cd (.sq (.dr (.pur true 0 (.pur false 1 (.pur true 2 (.pur false 3 (.pur true 4 (.pur false 5 (.eff 6 [1] (.pur true 7 (.eff 8 [] .done)))))))))) .z) .z))))) (.sq (.dr (.pur true 0 (.pur false 1 (.pur true 2 (.pur false 3 (.pur true 4 (.pur false 5 (.eff 6 [1] (.pur true 7 (.eff 8 [] .done)))))))))) .z)))) (args := [t0, t1]) Tryz.func90 (by kernel_rfl) (by kernel_rfl) (by kernel_rfl) (Eq.mp (by kernel_rfl) h)
theorem n_integer_signed_plus : Enters Tryz.prog 90 := enters_of Tryz.func90 (by kernel_rfl) rfl
def s_ref03_sum (P : Program) (t0 t1 t2 t3 : Value) (w : World) (R : Ending → World → Prop) : Prop :=
  Jn2 (fun k1 =>
  Bn P .eql 4 false t0 t2 w fun t15 w =>
  If t15
  (Cl P 93 #[t1, t3] w (Pk R) fun t18 w =>
  k1 t0 t18 w)
  (Cl P 95 #[t1, t3] w (Pk R) fun t21 w =>
  Bn P .geq 3 true t21 (.int .i64 0) w fun t22 w =>
  If t22
  (Cl P 94 #[t1, t3] w (Pk R) fun t25 w =>
  k1 t0 t25 w)
  (Cl P 94 #[t3, t1] w (Pk R) fun t29 w =>
  k1 t2 t29 w)))
  (fun t10 t11 w =>
  Cl P 55 #[t10, t11] w (Pk R) fun t32 w =>
  Ex t32 0 w fun t33 w =>
  Ex t32 1 w fun t34 w =>
  R (.returned (.tuple #[t33, t34])) w)
theorem e_ref03_sum {t0 t1 t2 t3 : Value} {w : World} {R : Ending → World → Prop} (h : s_ref03_sum Tryz.prog t0 t1 t2 t3 w R) : Calls Tryz.prog 91 #[t0, t1, t2, t3] w R :=
  enter (h := (.sq .z (.sq .z (.sq .z (.jn [10, 11] [13, 14, 15, 16, 17, 18, 19, 20, 21, 22, 23, 24, 25, 26, 27, 28, 29] (.sq .z (.cd .z (.sq .z (.cd .z (.sq .z .z))))) (.sq .z .z)))))) (args := [t0, t1, t2, t3]) Tryz.func91 (by kernel_rfl) (by kernel_rfl) (by kernel_rfl) (Eq.mp (by kernel_rfl) h)
theorem n_ref03_sum : Enters Tryz.prog 91 := enters_of Tryz.func91 (by kernel_rfl) rfl
def s_ref03_divided (P : Program) (t0 t1 : Value) (w : World) (R : Ending → World → Prop) : Prop :=
  Bt P .len #[53] 3 #[t0] w fun t10 w =>
  Ms P 53 t10 t10 w fun t11 w =>
  Bt P .len #[53] 3 #[t0] w fun t13 w =>
  Bn P .sub 3 true t13 (.int .i64 1) w fun t14 w =>
  Lp2 (.slice none 0 0) t14 w (fun t7 t8 w k1 =>
  Bn P .geq 3 true t8 (.int .i64 0) w fun t16 w =>
  If t16
  (Ia P 53 t0 t8 w fun t21 w =>
  Ld P 3 t21 w fun t22 w =>
  Bs P 53 1 [(0, t22)] w fun t23 w =>
  Bt P .append #[53, 53] 53 #[t23, t7] w fun t25 w =>
  Cl P 83 #[t25] w (Pk R) fun t26 w =>
  Lp1 t26 w (fun t7x1 w k2 =>
  Cl P 95 #[t7x1, t1] w (Pk R) fun t29 w =>
  Bn P .geq 3 true t29 (.int .i64 0) w fun t30 w =>
  If t30
  (Cl P 94 #[t7x1, t1] w (Pk R) fun t33 w =>
  Ia P 53 t11 t8 w fun t36 w =>
  Ld P 3 t36 w fun t37 w =>
  Bn P .add 3 true t37 (.int .i64 1) w fun t38 w =>
  Ia P 53 t11 t8 w fun t39 w =>
  Sto P 3 t39 t38 w fun w =>
  k2 t33 w)
  (Bn P .sub 3 true t8 (.int .i64 1) w fun t18 w =>
  k1 t7x1 t18 w)))
  (Cl P 83 #[t11] w (Pk R) fun t41 w =>
  R (.returned (.tuple #[t41, t7])) w))
theorem e_ref03_divided {t0 t1 : Value} {w : World} {R : Ending → World → Prop} (h : s_ref03_divided Tryz.prog t0 t1 w R) : Calls Tryz.prog 92 #[t0, t1] w R :=
  enter (h := (.sq .z (.sq .z (.sq .z (.sq (.sq .z (.bk (.lp [7, 8] [15, 16, 17, 18, 19, 20, 21, 22, 23, 24, 25, 26, 27, 28, 29, 30, 31, 32, 33, 34, 35, 36, 37, 38, 39] (.sq (.sq .z (.cd .z .z)) (.sq (.bk (.sq .z (.bk (.lp [7] [27, 28, 29, 30, 31, 32, 33, 34, 35, 36, 37, 38, 39] (.sq (.sq .z (.cd .z .z)) (.bk (.sq .z .z))))))) .z))))) (.sq .z .z)))))) (args := [t0, t1]) Tryz.func92 (by kernel_rfl) (by kernel_rfl) (by kernel_rfl) (Eq.mp (by kernel_rfl) h)
theorem n_ref03_divided : Enters Tryz.prog 92 := enters_of Tryz.func92 (by kernel_rfl) rfl
def s_ref03_plus (P : Program) (t0 t1 : Value) (w : World) (R : Ending → World → Prop) : Prop :=
  Lp3 (.slice none 0 0) (.int .i64 0) (.int .i64 0) w (fun t5 t6 t7 w k1 =>
  Bt P .len #[53] 3 #[t0] w fun t11 w =>
  Bn P .lss 3 false t7 t11 w fun t12 w =>
  Gd t12 false (fun k => k t7 w) w fun t14 w =>
  Gd t12 false (fun k => k t1 w) w fun t15 w =>
  Gd t12 false (fun k => Bt P .len #[53] 3 #[t15] w k) w fun t16 w =>
  Gd t12 false (fun k => Bn P .lss 3 false t14 t16 w k) w fun t17 w =>
  Pick t12 (.bool true) t17 w fun t18 w =>
  Gd t18 false (fun k => k t6 w) w fun t20 w =>
  Gd t18 false (fun k => Bn P .gtr 3 true t20 (.int .i64 0) w k) w fun t21 w =>
  Pick t18 (.bool true) t21 w fun t22 w =>
  If t22
  (Jn1 (fun k2 =>
  Bt P .len #[53] 3 #[t0] w fun t28 w =>
  Bn P .lss 3 false t7 t28 w fun t29 w =>
  If t29
  (Ia P 53 t0 t7 w fun t33 w =>
  Ld P 3 t33 w fun t34 w =>
  Bn P .add 3 false t6 t34 w fun t35 w =>
  k2 t35 w)
  (k2 t6 w))
  (fun t8 w =>
  Jn1 (fun k3 =>
  Bt P .len #[53] 3 #[t1] w fun t38 w =>
  Bn P .lss 3 false t7 t38 w fun t39 w =>
  If t39
  (Ia P 53 t1 t7 w fun t43 w =>
  Ld P 3 t43 w fun t44 w =>
  Bn P .add 3 false t8 t44 w fun t45 w =>
  k3 t45 w)
  (k3 t8 w))
  (fun t8x1 w =>
  Bn P .rem 3 true t8x1 (.int .i64 10) w fun t48 w =>
  Bs P 53 1 [(0, t48)] w fun t49 w =>
  Bt P .append #[53, 53] 53 #[t5, t49] w fun t50 w =>
  Bn P .quo 3 true t8x1 (.int .i64 10) w fun t52 w =>
  Bn P .add 3 true t7 (.int .i64 1) w fun t24 w =>
  k1 t50 t52 t24 w)))
  (R (.returned t5) w))
theorem e_ref03_plus {t0 t1 : Value} {w : World} {R : Ending → World → Prop} (h : s_ref03_plus Tryz.prog t0 t1 w R) : Calls Tryz.prog 93 #[t0, t1] w R :=
  enter (h := (.sq .z (.sq .z (.sq .z (.sq (.sq .z (.bk (.lp [5, 6, 7] [8, 9, 10, 11, 12, 13, 14, 15, 16, 17, 18, 19, 20, 21, 22, 23, 24, 25, 26, 27, 28, 29, 30, 31, 32, 33, 34, 35, 36, 37, 38, 39, 40, 41, 42, 43, 44, 45, 46, 47, 48, 49, 50, 51, 52] (.sq (.sq .z (.cd .z .z)) (.sq (.bk (.sq .z (.jn [8] [26, 27, 28, 29, 30, 31, 32, 33, 34, 35] (.sq .z (.cd .z .z)) (.jn [8] [36, 37, 38, 39, 40, 41, 42, 43, 44, 45] (.sq .z (.cd .z .z)) (.sq .z .z))))) .z))))) (.sq .z .z)))))) (args := [t0, t1]) Tryz.func93 (by kernel_rfl) (by kernel_rfl) (by kernel_rfl) (Eq.mp (by kernel_rfl) h)
theorem n_ref03_plus : Enters Tryz.prog 93 := enters_of Tryz.func93 (by kernel_rfl) rfl
def s_ref03_minus (P : Program) (t0 t1 : Value) (w : World) (R : Ending → World → Prop) : Prop :=
  Lp3 (.slice none 0 0) (.int .i64 0) (.int .i64 0) w (fun t5 t6 t7 w k1 =>
  Bt P .len #[53] 3 #[t0] w fun t11 w =>
  Bn P .lss 3 false t7 t11 w fun t12 w =>
  If t12
  (Ia P 53 t0 t7 w fun t17 w =>
  Ld P 3 t17 w fun t18 w =>
  Bn P .sub 3 false t18 t6 w fun t20 w =>
  Jn1 (fun k2 =>
  Bt P .len #[53] 3 #[t1] w fun t23 w =>
  Bn P .lss 3 false t7 t23 w fun t24 w =>
  If t24
  (Ia P 53 t1 t7 w fun t28 w =>
  Ld P 3 t28 w fun t29 w =>
  Bn P .sub 3 false t20 t29 w fun t30 w =>
  k2 t30 w)
  (k2 t20 w))
  (fun t8 w =>
  Bn P .lss 3 true t8 (.int .i64 0) w fun t32 w =>
  If t32
  (Bn P .add 3 true t8 (.int .i64 10) w fun t34 w =>
  Bs P 53 1 [(0, t34)] w fun t37 w =>
  Bt P .append #[53, 53] 53 #[t5, t37] w fun t38 w =>
  Bn P .add 3 true t7 (.int .i64 1) w fun t14 w =>
  k1 t38 (.int .i64 1) t14 w)
  (Bs P 53 1 [(0, t8)] w fun t37x1 w =>
  Bt P .append #[53, 53] 53 #[t5, t37x1] w fun t38x1 w =>
  Bn P .add 3 true t7 (.int .i64 1) w fun t14x1 w =>
  k1 t38x1 (.int .i64 0) t14x1 w)))
  (Cl P 83 #[t5] w (Pk R) fun t40 w =>
  R (.returned t40) w))
theorem e_ref03_minus {t0 t1 : Value} {w : World} {R : Ending → World → Prop} (h : s_ref03_minus Tryz.prog t0 t1 w R) : Calls Tryz.prog 94 #[t0, t1] w R :=
  enter (h := (.sq .z (.sq .z (.sq .z (.sq (.sq .z (.bk (.lp [5, 6, 7] [8, 9, 10, 11, 12, 13, 14, 15, 16, 17, 18, 19, 20, 21, 22, 23, 24, 25, 26, 27, 28, 29, 30, 31, 32, 33, 34, 35, 36, 37, 38] (.sq (.sq .z (.cd .z .z)) (.sq (.bk (.sq .z (.jn [8] [21, 22, 23, 24, 25, 26, 27, 28, 29, 30] (.sq .z (.cd .z .z)) (.sq .z (.sq (.sq .z (.cd (.sq .z .z) .z)) .z))))) .z))))) (.sq .z .z)))))) (args := [t0, t1]) Tryz.func94 (by kernel_rfl) (by kernel_rfl) (by kernel_rfl) (Eq.mp (by kernel_rfl) h)
theorem n_ref03_minus : Enters Tryz.prog 94 := enters_of Tryz.func94 (by kernel_rfl) rfl
def s_ref03_order (P : Program) (t0 t1 : Value) (w : World) (R : Ending → World → Prop) : Prop :=
  Bt P .len #[53] 3 #[t0] w fun t7 w =>
  Bt P .len #[53] 3 #[t1] w fun t9 w =>
  Bn P .neq 3 false t7 t9 w fun t10 w =>
  If t10
  (Bt P .len #[53] 3 #[t0] w fun t12 w =>
  Bt P .len #[53] 3 #[t1] w fun t14 w =>
  Bn P .lss 3 false t12 t14 w fun t15 w =>
  If t15
  (R (.returned (.int .i64 (-1))) w)
  (R (.returned (.int .i64 1)) w))
  (Bt P .len #[53] 3 #[t0] w fun t17 w =>
  Bn P .sub 3 true t17 (.int .i64 1) w fun t18 w =>
  Lp1 t18 w (fun t5 w k1 =>
  Bn P .geq 3 true t5 (.int .i64 0) w fun t20 w =>
  If t20
  (Dv P true (Instr.indexAt 53 t0 t5) w.drew fun t25 =>
  Dv P false (Instr.loadAt 3 t25) w.drew fun t26 =>
  Dv P true (Instr.indexAt 53 t1 t5) w.drew fun t29 =>
  Dv P false (Instr.loadAt 3 t29) w.drew fun t30 =>
  Dv P true (bn .neq 3 false t26 t30) w.drew fun t31 =>
  If t31
  (Dv P true (Instr.indexAt 53 t0 t5) w.drew.drew fun t34 =>
  Dv P false (Instr.loadAt 3 t34) w.drew.drew fun t35 =>
  Dv P true (Instr.indexAt 53 t1 t5) w.drew.drew fun t38 =>
  Dv P false (Instr.loadAt 3 t38) w.drew.drew fun t39 =>
  Dv P true (bn .lss 3 false t35 t39) w.drew.drew fun t40 =>
  If t40
  (R (.returned (.int .i64 (-1))) w.drew.drew)
  (R (.returned (.int .i64 1)) w.drew.drew))
  (Bn P .sub 3 true t5 (.int .i64 1) w.drew fun t22 w =>
  k1 t22 w))
  (R (.returned (.int .i64 0)) w)))
theorem e_ref03_order {t0 t1 : Value} {w : World} {R : Ending → World → Prop} (h : s_ref03_order Tryz.prog t0 t1 w R) : Calls Tryz.prog 95 #[t0, t1] w R :=
  enter (h := (.sq .z (.sq (.sq .z (.cd (.sq (.sq .z (.cd (.sq .z .z) .z)) (.sq .z .z)) .z)) (.sq (.sq .z (.bk (.lp [5] [4, 19, 20, 21, 22, 23, 24, 25, 26, 27, 28, 29, 30, 31, 32, 33, 34, 35, 36, 37, 38, 39, 40] (.sq (.sq .z (.cd .z .z)) (.sq (.bk (.sq (.dr (.pur true 0 (.pur true 1 (.pur true 2 (.pur false 3 (.pur true 4 (.pur true 5 (.pur true 6 (.pur false 7 (.pur true 8 .done)))))))))) (.cd (.sq (.sq (.dr (.pur true 0 (.pur true 1 (.pur true 2 (.pur false 3 (.pur true 4 (.pur true 5 (.pur true 6 (.pur false 7 (.pur true 8 .done)))))))))) (.cd (.sq .z .z) .z)) (.sq .z .z)) .z))) .z))))) (.sq .z .z))))) (args := [t0, t1]) Tryz.func95 (by kernel_rfl) (by kernel_rfl) (by kernel_rfl) (Eq.mp (by kernel_rfl) h)
theorem n_ref03_order : Enters Tryz.prog 95 := enters_of Tryz.func95 (by kernel_rfl) rfl
def s_strings_Repeat (P : Program) (t0 t1 : Value) (w : World) (R : Ending → World → Prop) : Prop :=
  Bn P .eql 3 true t1 (.int .i64 0) w fun t13 w =>
  If t13
  (R (.returned (str [])) w)
  (Bn P .eql 3 true t1 (.int .i64 1) w fun t15 w =>
  If t15
  (R (.returned t0) w)
  (Jn0 (fun k1 =>
  Bn P .lss 3 true t1 (.int .i64 0) w fun t18 w =>
  If t18
  (Mi P 9 (str [115, 116, 114, 105, 110, 103, 115, 58, 32, 110, 101, 103, 97, 116, 105, 118, 101, 32, 82, 101, 112, 101, 97, 116, 32, 99, 111, 117, 110, 116]) w fun t19 w =>
  Pn P t19 w (Pk R) fun _ w =>
  k1 w)
  (k1 w))
  (fun w =>
  Bt P .len #[9] 3 #[t0] w fun t22 w =>
  Cv P 3 127 t22 w fun t23 w =>
  Cv P 3 127 t1 w fun t25 w =>
  Cl P 117 #[t23, t25] w (Pk R) fun t26 w =>
  Ex t26 0 w fun t27 w =>
  Ex t26 1 w fun t28 w =>
  Jn0 (fun k2 =>
  Bn P .gtr 127 true t27 (.int .u64 0) w fun t30 w =>
  Gd t30 false (fun k => k t28 w) w fun t32 w =>
  Gd t30 false (fun k => Bn P .gtr 127 true t32 (.int .u64 9223372036854775807) w k) w fun t33 w =>
  Pick t30 (.bool true) t33 w fun t34 w =>
  If t34
  (Mi P 9 (str [115, 116, 114, 105, 110, 103, 115, 58, 32, 82, 101, 112, 101, 97, 116, 32, 111, 117, 116, 112, 117, 116, 32, 108, 101, 110, 103, 116, 104, 32, 111, 118, 101, 114, 102, 108, 111, 119]) w fun t35 w =>
  Pn P t35 w (Pk R) fun _ w =>
  k2 w)
  (k2 w))
  (fun w =>
  Cv P 127 3 t28 w fun t37 w =>
  Bt P .len #[9] 3 #[t0] w fun t39 w =>
  Bn P .eql 3 true t39 (.int .i64 0) w fun t40 w =>
  If t40
  (R (.returned (str [])) w)
  (Jn0 (fun k3 =>
  Ix P 9 t0 (.int .i64 0) w fun t42 w =>
  Jn1 (fun k4 =>
  Bn P .eql 5 true t42 (.int .u8 32) w fun t44 w =>
  If t44
  (k4 t44 w)
  (Bn P .eql 5 true t42 (.int .u8 45) w fun t45 w =>
  If t45
  (k4 t45 w)
  (Bn P .eql 5 true t42 (.int .u8 48) w fun t46 w =>
  If t46
  (k4 t46 w)
  (Bn P .eql 5 true t42 (.int .u8 61) w fun t47 w =>
  If t47
  (k4 t47 w)
  (Bn P .eql 5 true t42 (.int .u8 9) w fun t48 w =>
  k4 t48 w)))))
  (fun t43 w =>
  If t43
  (Bn P .leq 3 true t37 (.int .i64 128) w fun t51 w =>
  Gd t51 true (fun k => k t0 w) w fun t53 w =>
  Gd t51 true (fun k => Cl P 118 #[(str [32, 32, 32, 32, 32, 32, 32, 32, 32, 32, 32, 32, 32, 32, 32, 32, 32, 32, 32, 32, 32, 32, 32, 32, 32, 32, 32, 32, 32, 32, 32, 32, 32, 32, 32, 32, 32, 32, 32, 32, 32, 32, 32, 32, 32, 32, 32, 32, 32, 32, 32, 32, 32, 32, 32, 32, 32, 32, 32, 32, 32, 32, 32, 32, 32, 32, 32, 32, 32, 32, 32, 32, 32, 32, 32, 32, 32, 32, 32, 32, 32, 32, 32, 32, 32, 32, 32, 32, 32, 32, 32, 32, 32, 32, 32, 32, 32, 32, 32, 32, 32, 32, 32, 32, 32, 32, 32, 32, 32, 32, 32, 32, 32, 32, 32, 32, 32, 32, 32, 32, 32, 32, 32, 32, 32, 32, 32, 32]), t53] w (Pk R) k) w fun t54 w =>
  Pick t51 t54 (.bool false) w fun t55 w =>
  If t55
  (Sc P 9 (str [32, 32, 32, 32, 32, 32, 32, 32, 32, 32, 32, 32, 32, 32, 32, 32, 32, 32, 32, 32, 32, 32, 32, 32, 32, 32, 32, 32, 32, 32, 32, 32, 32, 32, 32, 32, 32, 32, 32, 32, 32, 32, 32, 32, 32, 32, 32, 32, 32, 32, 32, 32, 32, 32, 32, 32, 32, 32, 32, 32, 32, 32, 32, 32, 32, 32, 32, 32, 32, 32, 32, 32, 32, 32, 32, 32, 32, 32, 32, 32, 32, 32, 32, 32, 32, 32, 32, 32, 32, 32, 32, 32, 32, 32, 32, 32, 32, 32, 32, 32, 32, 32, 32, 32, 32, 32, 32, 32, 32, 32, 32, 32, 32, 32, 32, 32, 32, 32, 32, 32, 32, 32, 32, 32, 32, 32, 32, 32]) none (some t37) none w fun t57 w =>
  R (.returned t57) w)
  (Bn P .leq 3 true t37 (.int .i64 128) w fun t60 w =>
  Gd t60 true (fun k => k t0 w) w fun t62 w =>
  Gd t60 true (fun k => Cl P 118 #[(str [45, 45, 45, 45, 45, 45, 45, 45, 45, 45, 45, 45, 45, 45, 45, 45, 45, 45, 45, 45, 45, 45, 45, 45, 45, 45, 45, 45, 45, 45, 45, 45, 45, 45, 45, 45, 45, 45, 45, 45, 45, 45, 45, 45, 45, 45, 45, 45, 45, 45, 45, 45, 45, 45, 45, 45, 45, 45, 45, 45, 45, 45, 45, 45, 45, 45, 45, 45, 45, 45, 45, 45, 45, 45, 45, 45, 45, 45, 45, 45, 45, 45, 45, 45, 45, 45, 45, 45, 45, 45, 45, 45, 45, 45, 45, 45, 45, 45, 45, 45, 45, 45, 45, 45, 45, 45, 45, 45, 45, 45, 45, 45, 45, 45, 45, 45, 45, 45, 45, 45, 45, 45, 45, 45, 45, 45, 45, 45]), t62] w (Pk R) k) w fun t63 w =>
  Pick t60 t63 (.bool false) w fun t64 w =>
  If t64
  (Sc P 9 (str [45, 45, 45, 45, 45, 45, 45, 45, 45, 45, 45, 45, 45, 45, 45, 45, 45, 45, 45, 45, 45, 45, 45, 45, 45, 45, 45, 45, 45, 45, 45, 45, 45, 45, 45, 45, 45, 45, 45, 45, 45, 45, 45, 45, 45, 45, 45, 45, 45, 45, 45, 45, 45, 45, 45, 45, 45, 45, 45, 45, 45, 45, 45, 45, 45, 45, 45, 45, 45, 45, 45, 45, 45, 45, 45, 45, 45, 45, 45, 45, 45, 45, 45, 45, 45, 45, 45, 45, 45, 45, 45, 45, 45, 45, 45, 45, 45, 45, 45, 45, 45, 45, 45, 45, 45, 45, 45, 45, 45, 45, 45, 45, 45, 45, 45, 45, 45, 45, 45, 45, 45, 45, 45, 45, 45, 45, 45, 45]) none (some t37) none w fun t66 w =>
  R (.returned t66) w)
  (Bn P .leq 3 true t37 (.int .i64 64) w fun t69 w =>
  Gd t69 true (fun k => k t0 w) w fun t71 w =>
  Gd t69 true (fun k => Cl P 118 #[(str [48, 48, 48, 48, 48, 48, 48, 48, 48, 48, 48, 48, 48, 48, 48, 48, 48, 48, 48, 48, 48, 48, 48, 48, 48, 48, 48, 48, 48, 48, 48, 48, 48, 48, 48, 48, 48, 48, 48, 48, 48, 48, 48, 48, 48, 48, 48, 48, 48, 48, 48, 48, 48, 48, 48, 48, 48, 48, 48, 48, 48, 48, 48, 48]), t71] w (Pk R) k) w fun t72 w =>
  Pick t69 t72 (.bool false) w fun t73 w =>
  If t73
  (Sc P 9 (str [48, 48, 48, 48, 48, 48, 48, 48, 48, 48, 48, 48, 48, 48, 48, 48, 48, 48, 48, 48, 48, 48, 48, 48, 48, 48, 48, 48, 48, 48, 48, 48, 48, 48, 48, 48, 48, 48, 48, 48, 48, 48, 48, 48, 48, 48, 48, 48, 48, 48, 48, 48, 48, 48, 48, 48, 48, 48, 48, 48, 48, 48, 48, 48]) none (some t37) none w fun t75 w =>
  R (.returned t75) w)
  (Bn P .leq 3 true t37 (.int .i64 128) w fun t78 w =>
  Gd t78 true (fun k => k t0 w) w fun t80 w =>
  Gd t78 true (fun k => Cl P 118 #[(str [61, 61, 61, 61, 61, 61, 61, 61, 61, 61, 61, 61, 61, 61, 61, 61, 61, 61, 61, 61, 61, 61, 61, 61, 61, 61, 61, 61, 61, 61, 61, 61, 61, 61, 61, 61, 61, 61, 61, 61, 61, 61, 61, 61, 61, 61, 61, 61, 61, 61, 61, 61, 61, 61, 61, 61, 61, 61, 61, 61, 61, 61, 61, 61, 61, 61, 61, 61, 61, 61, 61, 61, 61, 61, 61, 61, 61, 61, 61, 61, 61, 61, 61, 61, 61, 61, 61, 61, 61, 61, 61, 61, 61, 61, 61, 61, 61, 61, 61, 61, 61, 61, 61, 61, 61, 61, 61, 61, 61, 61, 61, 61, 61, 61, 61, 61, 61, 61, 61, 61, 61, 61, 61, 61, 61, 61, 61, 61]), t80] w (Pk R) k) w fun t81 w =>
  Pick t78 t81 (.bool false) w fun t82 w =>
  If t82
  (Sc P 9 (str [61, 61, 61, 61, 61, 61, 61, 61, 61, 61, 61, 61, 61, 61, 61, 61, 61, 61, 61, 61, 61, 61, 61, 61, 61, 61, 61, 61, 61, 61, 61, 61, 61, 61, 61, 61, 61, 61, 61, 61, 61, 61, 61, 61, 61, 61, 61, 61, 61, 61, 61, 61, 61, 61, 61, 61, 61, 61, 61, 61, 61, 61, 61, 61, 61, 61, 61, 61, 61, 61, 61, 61, 61, 61, 61, 61, 61, 61, 61, 61, 61, 61, 61, 61, 61, 61, 61, 61, 61, 61, 61, 61, 61, 61, 61, 61, 61, 61, 61, 61, 61, 61, 61, 61, 61, 61, 61, 61, 61, 61, 61, 61, 61, 61, 61, 61, 61, 61, 61, 61, 61, 61, 61, 61, 61, 61, 61, 61]) none (some t37) none w fun t84 w =>
  R (.returned t84) w)
  (Bn P .leq 3 true t37 (.int .i64 64) w fun t87 w =>
  Gd t87 true (fun k => k t0 w) w fun t89 w =>
  Gd t87 true (fun k => Cl P 118 #[(str [9, 9, 9, 9, 9, 9, 9, 9, 9, 9, 9, 9, 9, 9, 9, 9, 9, 9, 9, 9, 9, 9, 9, 9, 9, 9, 9, 9, 9, 9, 9, 9, 9, 9, 9, 9, 9, 9, 9, 9, 9, 9, 9, 9, 9, 9, 9, 9, 9, 9, 9, 9, 9, 9, 9, 9, 9, 9, 9, 9, 9, 9, 9, 9]), t89] w (Pk R) k) w fun t90 w =>
  Pick t87 t90 (.bool false) w fun t91 w =>
  If t91
  (Sc P 9 (str [9, 9, 9, 9, 9, 9, 9, 9, 9, 9, 9, 9, 9, 9, 9, 9, 9, 9, 9, 9, 9, 9, 9, 9, 9, 9, 9, 9, 9, 9, 9, 9, 9, 9, 9, 9, 9, 9, 9, 9, 9, 9, 9, 9, 9, 9, 9, 9, 9, 9, 9, 9, 9, 9, 9, 9, 9, 9, 9, 9, 9, 9, 9, 9]) none (some t37) none w fun t93 w =>
  R (.returned t93) w)
  (k3 w))))))
  (k3 w)))
  (fun w =>
  Jn1 (fun k5 =>
  Bn P .gtr 3 true t37 (.int .i64 8192) w fun t96 w =>
  If t96
  (Bt P .len #[9] 3 #[t0] w fun t98 w =>
  Bn P .quo 3 true (.int .i64 8192) t98 w fun t99 w =>
  Bt P .len #[9] 3 #[t0] w fun t101 w =>
  Bn P .mul 3 false t99 t101 w fun t102 w =>
  Bn P .eql 3 true t102 (.int .i64 0) w fun t104 w =>
  If t104
  (Bt P .len #[9] 3 #[t0] w fun t106 w =>
  k5 t106 w)
  (k5 t102 w))
  (k5 t37 w))
  (fun t8 w =>
  Al P 91 w fun t9 w =>
  Cl P 74 #[t9, t37] w (Pk R) fun t108 w =>
  Cl P 75 #[t9, t0] w (Pk R) fun t110 w =>
  Lp0 w (fun w k6 =>
  Cl P 119 #[t9] w (Pk R) fun t111 w =>
  Bn P .lss 3 false t111 t37 w fun t113 w =>
  If t113
  (Cl P 119 #[t9] w (Pk R) fun t115 w =>
  Bn P .sub 3 false t37 t115 w fun t116 w =>
  Cl P 119 #[t9] w (Pk R) fun t117 w =>
  Bt P .min #[3, 3, 3] 3 #[t116, t117, t8] w fun t119 w =>
  Cl P 76 #[t9] w (Pk R) fun t120 w =>
  Sc P 9 t120 none (some t119) none w fun t122 w =>
  Cl P 75 #[t9, t122] w (Pk R) fun t123 w =>
  k6 w)
  (Cl P 76 #[t9] w (Pk R) fun t124 w =>
  R (.returned t124) w)))))))))
theorem e_strings_Repeat {t0 t1 : Value} {w : World} {R : Ending → World → Prop} (h : s_strings_Repeat Tryz.prog t0 t1 w R) : Calls Tryz.prog 96 #[t0, t1] w R :=
  enter (h := (.sq .z (.sq (.sq .z (.bk (.sq .z (.cd (.sq .z .z) (.sq .z (.cd (.sq .z .z) .z)))))) (.jn [] [17, 18, 19] (.sq .z (.cd .z .z)) (.sq .z (.jn [] [29, 30, 31, 32, 33, 34, 35] (.sq .z (.cd .z .z)) (.sq .z (.sq (.sq .z (.cd (.sq .z .z) .z)) (.jn [] [4, 41, 42, 43, 44, 45, 46, 47, 48, 49, 50, 51, 52, 53, 54, 55, 56, 57, 58, 59, 60, 61, 62, 63, 64, 65, 66, 67, 68, 69, 70, 71, 72, 73, 74, 75, 76, 77, 78, 79, 80, 81, 82, 83, 84, 85, 86, 87, 88, 89, 90, 91, 92, 93] (.sq .z (.bk (.jn [43] [44, 45, 46, 47, 48] (.sq .z (.cd .z (.sq .z (.cd .z (.sq .z (.cd .z (.sq .z (.cd .z .z)))))))) (.cd (.bk (.sq .z (.cd (.sq .z .z) (.sq .z (.cd (.sq .z .z) (.sq .z (.cd (.sq .z .z) (.sq .z (.cd (.sq .z .z) (.sq .z (.cd (.sq .z .z) .z))))))))))) .z)))) (.sq .z (.jn [8] [95, 96, 97, 98, 99, 100, 101, 102, 103, 104, 105, 106] (.sq .z (.cd (.sq .z (.sq .z (.cd .z .z))) .z)) (.sq .z (.sq .z (.sq .z (.sq (.bk (.lp [] [10, 111, 112, 113, 114, 115, 116, 117, 118, 119, 120, 121, 122, 123] (.sq (.sq .z (.cd .z .z)) (.bk (.sq .z .z))))) (.sq .z .z)))))))))))))))) (args := [t0, t1]) Tryz.func96 (by kernel_rfl) (by kernel_rfl) (by kernel_rfl) (Eq.mp (by kernel_rfl) h)
theorem n_strings_Repeat : Enters Tryz.prog 96 := enters_of Tryz.func96 (by kernel_rfl) rfl
def s_ref04_power (P : Program) (t0 : Value) (w : World) (R : Ending → World → Prop) : Prop :=
  Lp2 (str [49]) (.int .i64 0) w (fun t3 t4 w k1 =>
  Bn P .lss 3 false t4 t0 w fun t7 w =>
  If t7
  (Bn P .add 9 true t3 (str [48]) w fun t11 w =>
  Bn P .add 3 true t4 (.int .i64 1) w fun t9 w =>
  k1 t11 t9 w)
  (R (.returned t3) w))
theorem e_ref04_power {t0 : Value} {w : World} {R : Ending → World → Prop} (h : s_ref04_power Tryz.prog t0 w R) : Calls Tryz.prog 97 #[t0] w R :=
  enter (h := (.sq .z (.sq .z (.sq (.sq .z (.bk (.lp [3, 4] [5, 6, 7, 8, 9, 10, 11] (.sq (.sq .z (.cd .z .z)) (.sq (.bk .z) .z))))) (.sq .z .z))))) (args := [t0]) Tryz.func97 (by kernel_rfl) (by kernel_rfl) (by kernel_rfl) (Eq.mp (by kernel_rfl) h)
theorem n_ref04_power : Enters Tryz.prog 97 := enters_of Tryz.func97 (by kernel_rfl) rfl
def s_strconv_Itoa (P : Program) (t0 : Value) (w : World) (R : Ending → World → Prop) : Prop :=
  Cl P 120 #[t0] w (Pk R) fun t4 w =>
  R (.returned t4) w
theorem e_strconv_Itoa {t0 : Value} {w : World} {R : Ending → World → Prop} (h : s_strconv_Itoa Tryz.prog t0 w R) : Calls Tryz.prog 98 #[t0] w R :=
  enter (h := (.sq .z (.sq .z .z))) (args := [t0]) Tryz.func98 (by kernel_rfl) (by kernel_rfl) (by kernel_rfl) (Eq.mp (by kernel_rfl) h)
theorem n_strconv_Itoa : Enters Tryz.prog 98 := enters_of Tryz.func98 (by kernel_rfl) rfl
def s_strings_Builder_copyCheck (P : Program) (t0 : Value) (w : World) (R : Ending → World → Prop) : Prop :=
  Nc t0 w fun t3 w =>
  Fa P 91 t3 0 w fun t4 w =>
  Ld P 89 t4 w fun t5 w =>
  Bn P .eql 89 true t5 (.pointer none) w fun t6 w =>
  If t6
  (Cv P 89 132 t0 w fun t9 w =>
  Cl P 121 #[t9] w (Pk R) fun t10 w =>
  Cv P 132 89 t10 w fun t11 w =>
  Nc t0 w fun t12 w =>
  Fa P 91 t12 0 w fun t13 w =>
  Sto P 89 t13 t11 w fun w =>
  R (.returned (.tuple #[])) w)
  (Nc t0 w fun t15 w =>
  Fa P 91 t15 0 w fun t16 w =>
  Ld P 89 t16 w fun t17 w =>
  Bn P .neq 89 false t17 t0 w fun t19 w =>
  If t19
  (False)
  (R (.returned (.tuple #[])) w))
theorem e_strings_Builder_copyCheck {t0 : Value} {w : World} {R : Ending → World → Prop} (h : s_strings_Builder_copyCheck Tryz.prog t0 w R) : Calls Tryz.prog 99 #[t0] w R :=
  enter (h := (.sq .z (.cd .z (.sq .z (.cd .z .z))))) (args := [t0]) Tryz.func99 (by kernel_rfl) (by kernel_rfl) (by kernel_rfl) (Eq.mp (by kernel_rfl) h)
theorem n_strings_Builder_copyCheck : Enters Tryz.prog 99 := enters_of Tryz.func99 (by kernel_rfl) rfl
def s_strings_TrimPrefix (P : Program) (t0 t1 : Value) (w : World) (R : Ending → World → Prop) : Prop :=
  Cl P 127 #[t0, t1] w (Pk R) fun t7 w =>
  R (.returned t7) w
theorem e_strings_TrimPrefix {t0 t1 : Value} {w : World} {R : Ending → World → Prop} (h : s_strings_TrimPrefix Tryz.prog t0 t1 w R) : Calls Tryz.prog 102 #[t0, t1] w R :=
  enter (h := (.sq .z (.sq .z .z))) (args := [t0, t1]) Tryz.func102 (by kernel_rfl) (by kernel_rfl) (by kernel_rfl) (Eq.mp (by kernel_rfl) h)
theorem n_strings_TrimPrefix : Enters Tryz.prog 102 := enters_of Tryz.func102 (by kernel_rfl) rfl
def s_strings_Trim (P : Program) (t0 t1 : Value) (w : World) (R : Ending → World → Prop) : Prop :=
  Bn P .eql 9 true t0 (str []) w fun t8 w =>
  Gd t8 false (fun k => k t1 w) w fun t10 w =>
  Gd t8 false (fun k => Bn P .eql 9 true t10 (str []) w k) w fun t11 w =>
  Pick t8 (.bool true) t11 w fun t12 w =>
  If t12
  (R (.returned t0) w)
  (Bt P .len #[9] 3 #[t1] w fun t15 w =>
  Bn P .eql 3 true t15 (.int .i64 1) w fun t16 w =>
  Gd t16 true (fun k => k t1 w) w fun t18 w =>
  Gd t16 true (fun k => Ix P 9 t18 (.int .i64 0) w k) w fun t19 w =>
  Gd t16 true (fun k => Bn P .lss 5 true t19 (.int .u8 128) w k) w fun t20 w =>
  Pick t16 t20 (.bool false) w fun t21 w =>
  If t21
  (Dv P true (Instr.index 9 t1 (.int .i64 0)) w.drew fun t24 =>
  Dv P true (Instr.index 9 t1 (.int .i64 0)) w.drew fun t27 =>
  Cl P 129 #[t0, t24] w.drew (Pk R) fun t25 w =>
  Cl P 128 #[t25, t27] w (Pk R) fun t28 w =>
  R (.returned t28) w)
  (Cl P 130 #[t1] w (Pk R) fun t31 w =>
  Ex t31 0 w fun t32 w =>
  Ex t31 1 w fun t33 w =>
  Al P 138 w fun t5 w =>
  Sto P 138 t5 t32 w fun w =>
  If t33
  (Cl P 132 #[t0, t5] w (Pk R) fun t36 w =>
  Cl P 131 #[t36, t5] w (Pk R) fun t37 w =>
  R (.returned t37) w)
  (Cl P 134 #[t0, t1] w (Pk R) fun t40 w =>
  Cl P 133 #[t40, t1] w (Pk R) fun t42 w =>
  R (.returned t42) w)))
theorem e_strings_Trim {t0 t1 : Value} {w : World} {R : Ending → World → Prop} (h : s_strings_Trim Tryz.prog t0 t1 w R) : Calls Tryz.prog 103 #[t0, t1] w R :=
  enter (h := (.sq .z (.sq (.sq .z (.cd (.sq .z .z) .z)) (.sq (.sq .z (.cd (.sq (.dr (.pur true 0 (.pur true 1 (.pur true 2 (.pur true 4 (.pur true 5 (.eff 3 [] (.eff 6 [] (.pur true 7 .done))))))))) .z) .z)) (.sq (.sq .z (.sq .z (.cd (.sq .z .z) .z))) (.sq .z .z)))))) (args := [t0, t1]) Tryz.func103 (by kernel_rfl) (by kernel_rfl) (by kernel_rfl) (Eq.mp (by kernel_rfl) h)
theorem n_strings_Trim : Enters Tryz.prog 103 := enters_of Tryz.func103 (by kernel_rfl) rfl
def s_integer_parse (P : Program) (t0 : Value) (w : World) (R : Ending → World → Prop) : Prop :=
  Al P 100 w fun t2 w =>
  Cl P 102 #[t0, (str [45])] w (Pk R) fun t9 w =>
  Bt P .len #[9] 3 #[t9] w fun t11 w =>
  Bt P .len #[9] 3 #[t0] w fun t13 w =>
  Bn P .lss 3 false t11 t13 w fun t14 w =>
  Bd P 100 [(0, t14)] w fun t15 w =>
  Al P 100 w fun t4 w =>
  Sto P 100 t4 t15 w fun w =>
  Lp1 t9 w (fun t3 w k1 =>
  Bt P .len #[9] 3 #[t3] w fun t17 w =>
  Bn P .gtr 3 true t17 (.int .i64 0) w fun t18 w =>
  If t18
  (Bt P .len #[9] 3 #[t3] w fun t20 w =>
  Bn P .sub 3 true t20 (.int .i64 4) w fun t21 w =>
  Bt P .max #[3, 3] 3 #[(.int .i64 0), t21] w fun t22 w =>
  Sc P 9 t3 (some t22) none none w fun t26 w =>
  Cl P 135 #[t26] w (Pk R) fun t27 w =>
  Ex t27 0 w fun t28 w =>
  Ex t27 1 w fun t29 w =>
  Fa P 100 t4 1 w fun t30 w =>
  Ld P 98 t30 w fun t31 w =>
  Bs P 98 1 [(0, t28)] w fun t33 w =>
  Bt P .append #[98, 98] 98 #[t31, t33] w fun t34 w =>
  Fa P 100 t4 1 w fun t35 w =>
  Sto P 98 t35 t34 w fun w =>
  Sc P 9 t3 none (some t22) none w fun t38 w =>
  k1 t38 w)
  (Fa P 100 t4 1 w fun t39 w =>
  Ld P 98 t39 w fun t40 w =>
  Cl P 107 #[t40] w (Pk R) fun t41 w =>
  Fa P 100 t4 1 w fun t42 w =>
  Sto P 98 t42 t41 w fun w =>
  Ld P 100 t4 w fun t43 w =>
  Sto P 100 t2 t43 w fun w =>
  Rc P 100 t2 w fun r0 =>
  R (.returned r0) w))
theorem e_integer_parse {t0 : Value} {w : World} {R : Ending → World → Prop} (h : s_integer_parse Tryz.prog t0 w R) : Calls Tryz.prog 104 #[t0] w R :=
  enter (h := (.sq .z (.sq .z (.sq .z (.sq (.bk (.lp [3] [5, 6, 7, 16, 17, 18, 19, 20, 21, 22, 23, 24, 25, 26, 27, 28, 29, 30, 31, 32, 33, 34, 35, 36, 37, 38] (.sq (.sq .z (.cd .z .z)) (.bk (.sq .z (.sq .z (.sq .z .z))))))) (.sq .z (.sq .z .z))))))) (args := [t0]) Tryz.func104 (by kernel_rfl) (by kernel_rfl) (by kernel_rfl) (Eq.mp (by kernel_rfl) h)
theorem n_integer_parse : Enters Tryz.prog 104 := enters_of Tryz.func104 (by kernel_rfl) rfl
def s_cmp_Compare_int (P : Program) (t0 t1 : Value) (w : World) (R : Ending → World → Prop) : Prop :=
  Cl P 136 #[t0] w (Pk R) fun t8 w =>
  Cl P 136 #[t1] w (Pk R) fun t10 w =>
  If t8
  (If t10
  (R (.returned (.int .i64 0)) w)
  (R (.returned (.int .i64 (-1))) w))
  (If t10
  (R (.returned (.int .i64 1)) w)
  (Bn P .lss 3 false t0 t1 w fun t16 w =>
  If t16
  (R (.returned (.int .i64 (-1))) w)
  (Bn P .gtr 3 false t0 t1 w fun t19 w =>
  If t19
  (R (.returned (.int .i64 1)) w)
  (R (.returned (.int .i64 0)) w))))
theorem e_cmp_Compare_int {t0 t1 : Value} {w : World} {R : Ending → World → Prop} (h : s_cmp_Compare_int Tryz.prog t0 t1 w R) : Calls Tryz.prog 105 #[t0, t1] w R :=
  enter (h := (.sq .z (.sq .z (.sq .z (.sq (.sq .z (.cd (.sq (.sq .z (.cd (.sq .z .z) .z)) (.sq .z .z)) .z)) (.sq (.sq .z (.cd (.sq .z .z) .z)) (.sq (.sq .z (.cd (.sq .z .z) .z)) (.sq (.sq .z (.cd (.sq .z .z) .z)) (.sq .z .z))))))))) (args := [t0, t1]) Tryz.func105 (by kernel_rfl) (by kernel_rfl) (by kernel_rfl) (Eq.mp (by kernel_rfl) h)
theorem n_cmp_Compare_int : Enters Tryz.prog 105 := enters_of Tryz.func105 (by kernel_rfl) rfl
def s_slices_Backward_integer_number_int (P : Program) (t0 : Value) (w : World) (R : Ending → World → Prop) : Prop :=
  Bx P 98 t0 w fun t1 w =>
  R (.returned (.func (.func 137) #[] #[t1])) w
theorem e_slices_Backward_integer_number_int {t0 : Value} {w : World} {R : Ending → World → Prop} (h : s_slices_Backward_integer_number_int Tryz.prog t0 w R) : Calls Tryz.prog 106 #[t0] w R :=
  enter (h := (.sq .z (.sq .z .z))) (args := [t0]) Tryz.func106 (by kernel_rfl) (by kernel_rfl) (by kernel_rfl) (Eq.mp (by kernel_rfl) h)
theorem n_slices_Backward_integer_number_int : Enters Tryz.prog 106 := enters_of Tryz.func106 (by kernel_rfl) rfl
def s_integer_number_trimmed (P : Program) (t0 : Value) (w : World) (R : Ending → World → Prop) : Prop :=
  Lp1 t0 w (fun t0x1 w k1 =>
  Bt P .len #[98] 3 #[t0x1] w fun t4 w =>
  Bn P .gtr 3 true t4 (.int .i64 0) w fun t5 w =>
  Gd t5 true (fun k => k t0x1 w) w fun t7 w =>
  Gd t5 true (fun k => k t0x1 w) w fun t8 w =>
  Gd t5 true (fun k => Bt P .len #[98] 3 #[t8] w k) w fun t9 w =>
  Gd t5 true (fun k => Bn P .sub 3 true t9 (.int .i64 1) w k) w fun t10 w =>
  Gd t5 true (fun k => Ia P 98 t7 t10 w k) w fun t11 w =>
  Gd t5 true (fun k => Ld P 3 t11 w k) w fun t12 w =>
  Gd t5 true (fun k => Bn P .eql 3 true t12 (.int .i64 0) w k) w fun t13 w =>
  Pick t5 t13 (.bool false) w fun t14 w =>
  If t14
  (Bt P .len #[98] 3 #[t0x1] w fun t17 w =>
  Bn P .sub 3 true t17 (.int .i64 1) w fun t18 w =>
  Sc P 98 t0x1 none (some t18) none w fun t19 w =>
  k1 t19 w)
  (R (.returned t0x1) w))
theorem e_integer_number_trimmed {t0 : Value} {w : World} {R : Ending → World → Prop} (h : s_integer_number_trimmed Tryz.prog t0 w R) : Calls Tryz.prog 107 #[t0] w R :=
  enter (h := (.sq .z (.sq (.bk (.lp [0] [3, 4, 5, 6, 7, 8, 9, 10, 11, 12, 13, 14, 15, 16, 17, 18, 19] (.sq (.sq .z (.cd .z .z)) (.bk .z)))) (.sq .z .z)))) (args := [t0]) Tryz.func107 (by kernel_rfl) (by kernel_rfl) (by kernel_rfl) (Eq.mp (by kernel_rfl) h)
theorem n_integer_number_trimmed : Enters Tryz.prog 107 := enters_of Tryz.func107 (by kernel_rfl) rfl
def s_integer_number_by (P : Program) (t0 t1 : Value) (w : World) (R : Ending → World → Prop) : Prop :=
  Bx P 98 t0 w fun t2 w =>
  Bx P 3 t1 w fun t3 w =>
  Ld P 98 t2 w fun t5 w =>
  Bt P .len #[98] 3 #[t5] w fun t6 w =>
  Cl P 112 #[t6, (.int .i64 0), (.func (.func 138) #[] #[t2, t3])] w (Pk R) fun t8 w =>
  Cl P 107 #[t8] w (Pk R) fun t9 w =>
  R (.returned t9) w
theorem e_integer_number_by {t0 t1 : Value} {w : World} {R : Ending → World → Prop} (h : s_integer_number_by Tryz.prog t0 t1 w R) : Calls Tryz.prog 108 #[t0, t1] w R :=
  enter (h := (.sq .z (.sq .z .z))) (args := [t0, t1]) Tryz.func108 (by kernel_rfl) (by kernel_rfl) (by kernel_rfl) (Eq.mp (by kernel_rfl) h)
theorem n_integer_number_by : Enters Tryz.prog 108 := enters_of Tryz.func108 (by kernel_rfl) rfl
def s_integer_number_over_1 (P : Program) (t0 t1 t2 : Value) (w : World) (R : Ending → World → Prop) : Prop :=
  Dv P false (Instr.loadAt 122 t1) w.drew fun t5 =>
  Dv P true (bn .add 3 true t0 (.int .i64 1)) w.drew fun t7 =>
  Dv P false (Instr.loadAt 98 t2) w.drew fun t9 =>
  Cw P t5 #[t7] w.drew (Pk R) fun t8 w =>
  Ke P (Instr.loadAt 98 t2) t9 w <|
  Cl P 80 #[t8, t9] w (Pk R) fun t10 w =>
  Dv P true (bn .gtr 3 true t10 (.int .i64 0)) w fun t11 =>
  R (.returned t11) w
theorem e_integer_number_over_1 {t0 t1 t2 : Value} {w : World} {R : Ending → World → Prop} (h : s_integer_number_over_1 Tryz.prog t0 t1 t2 w R) : Calls Tryz.prog 109 #[t0, t1, t2] w R :=
  enter (h := (.sq .z (.sq (.dr (.pur false 0 (.pur true 1 (.pur true 2 (.pur false 4 (.eff 3 [4] (.eff 5 [] (.pur true 6 (.pur true 7 .done))))))))) .z))) (args := [t0, t1, t2]) Tryz.func109 (by kernel_rfl) (by kernel_rfl) (by kernel_rfl) (Eq.mp (by kernel_rfl) h)
theorem n_integer_number_over_1 : Enters Tryz.prog 109 := enters_of Tryz.func109 (by kernel_rfl) rfl
def s_sort_Search (P : Program) (t0 t1 : Value) (w : World) (R : Ending → World → Prop) : Prop :=
  Lp2 (.int .i64 0) t0 w (fun t5 t6 w k1 =>
  Bn P .lss 3 false t5 t6 w fun t11 w =>
  If t11
  (Bn P .add 3 false t5 t6 w fun t14 w =>
  Cv P 3 127 t14 w fun t15 w =>
  Bn P .shr 127 true t15 (.int .u64 1) w fun t16 w =>
  Cv P 127 3 t16 w fun t17 w =>
  Cw P t1 #[t17] w (Pk R) fun t20 w =>
  Un P .not t20 w fun t21 w =>
  If t21
  (Bn P .add 3 true t17 (.int .i64 1) w fun t23 w =>
  k1 t23 t6 w)
  (k1 t5 t17 w))
  (R (.returned t5) w))
theorem e_sort_Search {t0 t1 : Value} {w : World} {R : Ending → World → Prop} (h : s_sort_Search Tryz.prog t0 t1 w R) : Calls Tryz.prog 110 #[t0, t1] w R :=
  enter (h := (.sq .z (.sq .z (.sq (.bk (.lp [5, 6] [7, 9, 10, 11, 12, 13, 14, 15, 16, 17, 18, 19, 20, 21, 22, 23, 24] (.sq (.sq .z (.cd .z .z)) (.bk (.sq .z (.sq .z (.cd .z .z))))))) (.sq .z .z))))) (args := [t0, t1]) Tryz.func110 (by kernel_rfl) (by kernel_rfl) (by kernel_rfl) (Eq.mp (by kernel_rfl) h)
theorem n_sort_Search : Enters Tryz.prog 110 := enters_of Tryz.func110 (by kernel_rfl) rfl
def s_rational_work_quotient_1 (P : Program) (t0 t1 : Value) (w : World) (R : Ending → World → Prop) : Prop :=
  Cl P 58 #[t0, t1] w (Pk R) fun t12 w =>
  Ex t12 0 w fun t13 w =>
  Ex t12 1 w fun t14 w =>
  Ex t12 2 w fun t15 w =>
  R (.returned (.tuple #[t13, t15])) w
theorem e_rational_work_quotient_1 {t0 t1 : Value} {w : World} {R : Ending → World → Prop} (h : s_rational_work_quotient_1 Tryz.prog t0 t1 w R) : Calls Tryz.prog 111 #[t0, t1] w R :=
  enter (h := (.sq .z (.sq .z (.sq .z .z)))) (args := [t0, t1]) Tryz.func111 (by kernel_rfl) (by kernel_rfl) (by kernel_rfl) (Eq.mp (by kernel_rfl) h)
theorem n_rational_work_quotient_1 : Enters Tryz.prog 111 := enters_of Tryz.func111 (by kernel_rfl) rfl
def s_integer_fold_integer_number (P : Program) (t0 t1 t2 : Value) (w : World) (R : Ending → World → Prop) : Prop :=
  Bn P .add 3 true t0 (.int .i64 1) w fun t11 w =>
  Ms P 98 (.int .i64 0) t11 w fun t12 w =>
  Lp3 t1 t12 (.int .i64 0) w (fun t1x1 t7 t8 w k1 =>
  Bn P .lss 3 false t8 t0 w fun t15 w =>
  Gd t15 false (fun k => k t1x1 w) w fun t17 w =>
  Gd t15 false (fun k => Bn P .neq 3 true t17 (.int .i64 0) w k) w fun t18 w =>
  Pick t15 (.bool true) t18 w fun t19 w =>
  If t19
  (Cw P t2 #[t8] w (Pk R) fun t24 w =>
  Bn P .add 3 false t24 t1x1 w fun t26 w =>
  Bn P .lss 3 true t26 (.int .i64 0) w fun t28 w =>
  If t28
  (Bn P .add 3 true t26 (.int .i64 10000) w fun t30 w =>
  Bs P 98 1 [(0, t30)] w fun t39 w =>
  Bt P .append #[98, 98] 98 #[t7, t39] w fun t40 w =>
  Bn P .add 3 true t8 (.int .i64 1) w fun t21 w =>
  k1 (.int .i64 (-1)) t40 t21 w)
  (Bn P .geq 3 true t26 (.int .i64 10000) w fun t32 w =>
  If t32
  (Bn P .quo 3 true t26 (.int .i64 10000) w fun t34 w =>
  Bn P .rem 3 true t26 (.int .i64 10000) w fun t36 w =>
  Bs P 98 1 [(0, t36)] w fun t39x1 w =>
  Bt P .append #[98, 98] 98 #[t7, t39x1] w fun t40x1 w =>
  Bn P .add 3 true t8 (.int .i64 1) w fun t21x1 w =>
  k1 t34 t40x1 t21x1 w)
  (Bs P 98 1 [(0, t26)] w fun t39x2 w =>
  Bt P .append #[98, 98] 98 #[t7, t39x2] w fun t40x2 w =>
  Bn P .add 3 true t8 (.int .i64 1) w fun t21x2 w =>
  k1 (.int .i64 0) t40x2 t21x2 w)))
  (R (.returned t7) w))
theorem e_integer_fold_integer_number {t0 t1 t2 : Value} {w : World} {R : Ending → World → Prop} (h : s_integer_fold_integer_number Tryz.prog t0 t1 t2 w R) : Calls Tryz.prog 112 #[t0, t1, t2] w R :=
  enter (h := (.sq .z (.sq .z (.sq (.sq .z (.bk (.lp [1, 7, 8] [9, 13, 14, 15, 16, 17, 18, 19, 20, 21, 22, 23, 24, 25, 26, 27, 28, 29, 30, 31, 32, 33, 34, 35, 36, 37, 38, 39, 40] (.sq (.sq .z (.cd .z .z)) (.sq (.bk (.sq .z (.sq .z (.sq (.sq .z (.cd (.sq .z .z) (.sq .z (.cd (.sq .z .z) .z)))) .z)))) .z))))) (.sq .z .z))))) (args := [t0, t1, t2]) Tryz.func112 (by kernel_rfl) (by kernel_rfl) (by kernel_rfl) (Eq.mp (by kernel_rfl) h)
theorem n_integer_fold_integer_number : Enters Tryz.prog 112 := enters_of Tryz.func112 (by kernel_rfl) rfl
def s_integer_number_plus_1 (P : Program) (t0 t1 t2 : Value) (w : World) (R : Ending → World → Prop) : Prop :=
  Dv P false (Instr.loadAt 98 t1) w.drew fun t5 =>
  Dv P false (Instr.loadAt 98 t2) w.drew fun t8 =>
  Cl P 114 #[t5, t0] w.drew (Pk R) fun t7 w =>
  Ke P (Instr.loadAt 98 t2) t8 w <|
  Cl P 114 #[t8, t0] w (Pk R) fun t10 w =>
  Dv P true (bn .add 3 false t7 t10) w fun t11 =>
  R (.returned t11) w
theorem e_integer_number_plus_1 {t0 t1 t2 : Value} {w : World} {R : Ending → World → Prop} (h : s_integer_number_plus_1 Tryz.prog t0 t1 t2 w R) : Calls Tryz.prog 113 #[t0, t1, t2] w R :=
  enter (h := (.sq .z (.sq (.dr (.pur false 0 (.pur true 1 (.pur false 3 (.pur true 4 (.eff 2 [3] (.eff 5 [] (.pur true 6 (.pur true 7 .done))))))))) .z))) (args := [t0, t1, t2]) Tryz.func113 (by kernel_rfl) (by kernel_rfl) (by kernel_rfl) (Eq.mp (by kernel_rfl) h)
theorem n_integer_number_plus_1 : Enters Tryz.prog 113 := enters_of Tryz.func113 (by kernel_rfl) rfl
def s_integer_number_at (P : Program) (t0 t1 : Value) (w : World) (R : Ending → World → Prop) : Prop :=
  Bt P .len #[98] 3 #[t0] w fun t7 w =>
  Bn P .lss 3 false t1 t7 w fun t8 w =>
  If t8
  (Ia P 98 t0 t1 w fun t11 w =>
  Ld P 3 t11 w fun t12 w =>
  R (.returned t12) w)
  (R (.returned (.int .i64 0)) w)
theorem e_integer_number_at {t0 t1 : Value} {w : World} {R : Ending → World → Prop} (h : s_integer_number_at Tryz.prog t0 t1 w R) : Calls Tryz.prog 114 #[t0, t1] w R :=
  enter (h := (.sq .z (.sq (.sq .z (.cd (.sq .z .z) .z)) (.sq .z .z)))) (args := [t0, t1]) Tryz.func114 (by kernel_rfl) (by kernel_rfl) (by kernel_rfl) (Eq.mp (by kernel_rfl) h)
theorem n_integer_number_at : Enters Tryz.prog 114 := enters_of Tryz.func114 (by kernel_rfl) rfl
def s_integer_number_minus_1 (P : Program) (t0 t1 t2 : Value) (w : World) (R : Ending → World → Prop) : Prop :=
  Dv P false (Instr.loadAt 98 t1) w.drew fun t5 =>
  Dv P false (Instr.loadAt 98 t2) w.drew fun t8 =>
  Cl P 114 #[t5, t0] w.drew (Pk R) fun t7 w =>
  Ke P (Instr.loadAt 98 t2) t8 w <|
  Cl P 114 #[t8, t0] w (Pk R) fun t10 w =>
  Dv P true (bn .sub 3 false t7 t10) w fun t11 =>
  R (.returned t11) w
theorem e_integer_number_minus_1 {t0 t1 t2 : Value} {w : World} {R : Ending → World → Prop} (h : s_integer_number_minus_1 Tryz.prog t0 t1 t2 w R) : Calls Tryz.prog 115 #[t0, t1, t2] w R :=
  enter (h := (.sq .z (.sq (.dr (.pur false 0 (.pur true 1 (.pur false 3 (.pur true 4 (.eff 2 [3] (.eff 5 [] (.pur true 6 (.pur true 7 .done))))))))) .z))) (args := [t0, t1, t2]) Tryz.func115 (by kernel_rfl) (by kernel_rfl) (by kernel_rfl) (Eq.mp (by kernel_rfl) h)
theorem n_integer_number_minus_1 : Enters Tryz.prog 115 := enters_of Tryz.func115 (by kernel_rfl) rfl
def s_integer_number_times (P : Program) (t0 t1 : Value) (w : World) (R : Ending → World → Prop) : Prop :=
  Bx P 98 t0 w fun t2 w =>
  Al P 98 w fun t5 w =>
  Cl P 106 #[t1] w (Pk R) fun t9 w =>
  Rf2 P t9 w (fun t10 t11 w next lv =>
  Jn0 (fun k1 =>
  Ld P 98 t5 w fun t12 w =>
  Bt P .len #[98] 3 #[t12] w fun t13 w =>
  Bn P .gtr 3 true t13 (.int .i64 0) w fun t14 w =>
  If t14
  (Bs P 98 1 [(0, (.int .i64 0))] w fun t15 w =>
  Ld P 98 t5 w fun t16 w =>
  Bt P .append #[98, 98] 98 #[t15, t16] w fun t17 w =>
  Sto P 98 t5 t17 w fun w =>
  k1 w)
  (k1 w))
  (fun w =>
  Dv P false (Instr.loadAt 98 t5) w.drew fun t18 =>
  Dv P false (Instr.loadAt 98 t2) w.drew fun t19 =>
  Cl P 108 #[t19, t11] w.drew (fun _ _ => False) fun t21 w =>
  Ke P (Instr.loadAt 98 t5) t18 w <|
  Cl P 86 #[t18, t21] w (fun _ _ => False) fun t22 w =>
  Sto P 98 t5 t22 w fun w =>
  next w))
  (fun D1 w =>
  Ld P 98 t5 w fun t23 w =>
  Tk P D1 w fun w =>
  R (.returned t23) w)
  (fun D1 w =>
  Tk P D1 w fun w =>
  R (.returned (.slice none 0 0)) w) []
theorem e_integer_number_times {t0 t1 : Value} {w : World} {R : Ending → World → Prop} (h : s_integer_number_times Tryz.prog t0 t1 w R) : Calls Tryz.prog 116 #[t0, t1] w R :=
  enter (h := (.sq .z (.sq .z (.sq (.sq .z (.bk (.rf (.bk (.jn [] [12, 13, 14, 15, 16, 17] (.sq .z (.cd .z .z)) (.dr (.pur false 0 (.pur false 1 (.pur true 2 (.eff 3 [0] (.eff 4 [] (.eff 5 [] .done))))))))) []))) (.sq .z .z))))) (args := [t0, t1]) Tryz.func116 (by kernel_rfl) (by kernel_rfl) (by kernel_rfl) (Eq.mp (by kernel_rfl) h)
theorem n_integer_number_times : Enters Tryz.prog 116 := enters_of Tryz.func116 (by kernel_rfl) rfl
def s_strings_makeASCIISet (P : Program) (t0 : Value) (w : World) (R : Ending → World → Prop) : Prop :=
  Al P 138 w fun t2 w =>
  Lp1 (.int .i64 0) w (fun t4 w k1 =>
  Bt P .len #[9] 3 #[t0] w fun t8 w =>
  Bn P .lss 3 false t4 t8 w fun t9 w =>
  If t9
  (Ix P 9 t0 t4 w fun t14 w =>
  Bn P .geq 5 true t14 (.int .u8 128) w fun t16 w =>
  If t16
  (Ld P 138 t2 w fun t17 w =>
  Sto P 138 t2 t17 w fun w =>
  Rc P 138 t2 w fun r0 =>
  R (.returned (.tuple #[r0, (.bool false)])) w)
  (Ia P 138 t2 t14 w fun t19 w =>
  Sto P 4 t19 (.bool true) w fun w =>
  Bn P .add 3 true t4 (.int .i64 1) w fun t11 w =>
  k1 t11 w))
  (Ld P 138 t2 w fun t20 w =>
  Sto P 138 t2 t20 w fun w =>
  Rc P 138 t2 w fun r0 =>
  R (.returned (.tuple #[r0, (.bool true)])) w))
theorem e_strings_makeASCIISet {t0 : Value} {w : World} {R : Ending → World → Prop} (h : s_strings_makeASCIISet Tryz.prog t0 w R) : Calls Tryz.prog 130 #[t0] w R :=
  enter (h := (.sq .z (.sq (.sq .z (.bk (.lp [4] [3, 5, 6, 7, 8, 9, 10, 11, 12, 13, 14, 15, 16, 17, 18, 19] (.sq (.sq .z (.cd .z .z)) (.sq (.bk (.sq .z (.sq (.sq .z (.cd (.sq .z .z) .z)) .z))) .z))))) (.sq .z .z)))) (args := [t0]) Tryz.func130 (by kernel_rfl) (by kernel_rfl) (by kernel_rfl) (Eq.mp (by kernel_rfl) h)
theorem n_strings_makeASCIISet : Enters Tryz.prog 130 := enters_of Tryz.func130 (by kernel_rfl) rfl
def s_strings_trimLeftASCII (P : Program) (t0 t1 : Value) (w : World) (R : Ending → World → Prop) : Prop :=
  Lp1 t0 w (fun t0x1 w k1 =>
  Bt P .len #[9] 3 #[t0x1] w fun t6 w =>
  Bn P .gtr 3 true t6 (.int .i64 0) w fun t7 w =>
  If t7
  (Ix P 9 t0x1 (.int .i64 0) w fun t10 w =>
  Cl P 145 #[t1, t10] w (Pk R) fun t11 w =>
  Un P .not t11 w fun t12 w =>
  If t12
  (R (.returned t0x1) w)
  (Sc P 9 t0x1 (some (.int .i64 1)) none none w fun t14 w =>
  k1 t14 w))
  (R (.returned t0x1) w))
theorem e_strings_trimLeftASCII {t0 t1 : Value} {w : World} {R : Ending → World → Prop} (h : s_strings_trimLeftASCII Tryz.prog t0 t1 w R) : Calls Tryz.prog 131 #[t0, t1] w R :=
  enter (h := (.sq .z (.sq (.bk (.lp [0] [5, 6, 7, 8, 9, 10, 11, 12, 13, 14] (.sq (.sq .z (.cd .z .z)) (.bk (.sq (.sq .z (.cd .z .z)) .z))))) (.sq .z .z)))) (args := [t0, t1]) Tryz.func131 (by kernel_rfl) (by kernel_rfl) (by kernel_rfl) (Eq.mp (by kernel_rfl) h)
theorem n_strings_trimLeftASCII : Enters Tryz.prog 131 := enters_of Tryz.func131 (by kernel_rfl) rfl
def s_strings_trimRightASCII (P : Program) (t0 t1 : Value) (w : World) (R : Ending → World → Prop) : Prop :=
  Lp1 t0 w (fun t0x1 w k1 =>
  Bt P .len #[9] 3 #[t0x1] w fun t6 w =>
  Bn P .gtr 3 true t6 (.int .i64 0) w fun t7 w =>
  If t7
  (Bt P .len #[9] 3 #[t0x1] w fun t11 w =>
  Bn P .sub 3 true t11 (.int .i64 1) w fun t12 w =>
  Ix P 9 t0x1 t12 w fun t13 w =>
  Cl P 145 #[t1, t13] w (Pk R) fun t14 w =>
  Un P .not t14 w fun t15 w =>
  If t15
  (R (.returned t0x1) w)
  (Bt P .len #[9] 3 #[t0x1] w fun t18 w =>
  Bn P .sub 3 true t18 (.int .i64 1) w fun t19 w =>
  Sc P 9 t0x1 none (some t19) none w fun t20 w =>
  k1 t20 w))
  (R (.returned t0x1) w))
theorem e_strings_trimRightASCII {t0 t1 : Value} {w : World} {R : Ending → World → Prop} (h : s_strings_trimRightASCII Tryz.prog t0 t1 w R) : Calls Tryz.prog 132 #[t0, t1] w R :=
  enter (h := (.sq .z (.sq (.bk (.lp [0] [5, 6, 7, 8, 9, 10, 11, 12, 13, 14, 15, 16, 17, 18, 19, 20] (.sq (.sq .z (.cd .z .z)) (.bk (.sq (.sq .z (.cd .z .z)) .z))))) (.sq .z .z)))) (args := [t0, t1]) Tryz.func132 (by kernel_rfl) (by kernel_rfl) (by kernel_rfl) (Eq.mp (by kernel_rfl) h)
theorem n_strings_trimRightASCII : Enters Tryz.prog 132 := enters_of Tryz.func132 (by kernel_rfl) rfl
def s_strconv_Atoi (P : Program) (t0 : Value) (w : World) (R : Ending → World → Prop) : Prop :=
  Cl P 149 #[t0] w (Pk R) fun t8 w =>
  Ex t8 0 w fun t9 w =>
  Ex t8 1 w fun t10 w =>
  Bn P .neq 94 true t10 .nilIface w fun t12 w =>
  If t12
  (Cl P 150 #[(str [65, 116, 111, 105]), t0, (.int .i64 0), (.int .i64 0), t10] w (Pk R) fun t16 w =>
  R (.returned (.tuple #[t9, t16])) w)
  (R (.returned (.tuple #[t9, .nilIface])) w)
theorem e_strconv_Atoi {t0 : Value} {w : World} {R : Ending → World → Prop} (h : s_strconv_Atoi Tryz.prog t0 w R) : Calls Tryz.prog 135 #[t0] w R :=
  enter (h := (.sq .z (.sq .z (.sq (.sq .z (.cd (.sq .z .z) .z)) (.sq .z .z))))) (args := [t0]) Tryz.func135 (by kernel_rfl) (by kernel_rfl) (by kernel_rfl) (Eq.mp (by kernel_rfl) h)
theorem n_strconv_Atoi : Enters Tryz.prog 135 := enters_of Tryz.func135 (by kernel_rfl) rfl
def s_cmp_isNaN_int (P : Program) (t0 : Value) (w : World) (R : Ending → World → Prop) : Prop :=
  Bn P .neq 3 false t0 t0 w fun t5 w =>
  R (.returned t5) w
theorem e_cmp_isNaN_int {t0 : Value} {w : World} {R : Ending → World → Prop} (h : s_cmp_isNaN_int Tryz.prog t0 w R) : Calls Tryz.prog 136 #[t0] w R :=
  enter (h := (.sq .z (.sq .z .z))) (args := [t0]) Tryz.func136 (by kernel_rfl) (by kernel_rfl) (by kernel_rfl) (Eq.mp (by kernel_rfl) h)
theorem n_cmp_isNaN_int : Enters Tryz.prog 136 := enters_of Tryz.func136 (by kernel_rfl) rfl
def s_slices_Backward_integer_number_int_1 (P : Program) (t0 t1 : Value) (w : World) (R : Ending → World → Prop) : Prop :=
  Ld P 98 t1 w fun t4 w =>
  Bt P .len #[98] 3 #[t4] w fun t5 w =>
  Bn P .sub 3 true t5 (.int .i64 1) w fun t6 w =>
  Lp1 t6 w (fun t3 w k1 =>
  Bn P .geq 3 true t3 (.int .i64 0) w fun t8 w =>
  If t8
  (Ld P 98 t1 w fun t13 w =>
  Ia P 98 t13 t3 w fun t15 w =>
  Ld P 3 t15 w fun t16 w =>
  Cw P t0 #[t3, t16] w (Pk R) fun t17 w =>
  Un P .not t17 w fun t18 w =>
  If t18
  (R (.returned (.tuple #[])) w)
  (Bn P .sub 3 true t3 (.int .i64 1) w fun t10 w =>
  k1 t10 w))
  (R (.returned (.tuple #[])) w))
theorem e_slices_Backward_integer_number_int_1 {t0 t1 : Value} {w : World} {R : Ending → World → Prop} (h : s_slices_Backward_integer_number_int_1 Tryz.prog t0 t1 w R) : Calls Tryz.prog 137 #[t0, t1] w R :=
  enter (h := (.sq .z (.bk (.lp [3] [7, 8, 9, 10, 11, 12, 13, 14, 15, 16, 17, 18] (.sq (.sq .z (.cd .z .z)) (.sq (.bk (.sq .z (.cd .z .z))) .z)))))) (args := [t0, t1]) Tryz.func137 (by kernel_rfl) (by kernel_rfl) (by kernel_rfl) (Eq.mp (by kernel_rfl) h)
theorem n_slices_Backward_integer_number_int_1 : Enters Tryz.prog 137 := enters_of Tryz.func137 (by kernel_rfl) rfl
def s_integer_number_by_1 (P : Program) (t0 t1 t2 : Value) (w : World) (R : Ending → World → Prop) : Prop :=
  Dv P false (Instr.loadAt 98 t1) w.drew fun t5 =>
  Dv P false (Instr.loadAt 3 t2) w.drew fun t8 =>
  Cl P 114 #[t5, t0] w.drew (Pk R) fun t7 w =>
  Ke P (Instr.loadAt 3 t2) t8 w <|
  Dv P true (bn .mul 3 false t7 t8) w fun t9 =>
  R (.returned t9) w
theorem e_integer_number_by_1 {t0 t1 t2 : Value} {w : World} {R : Ending → World → Prop} (h : s_integer_number_by_1 Tryz.prog t0 t1 t2 w R) : Calls Tryz.prog 138 #[t0, t1, t2] w R :=
  enter (h := (.sq .z (.sq (.dr (.pur false 0 (.pur true 1 (.pur false 3 (.eff 2 [3] (.pur true 4 (.pur true 5 .done))))))) .z))) (args := [t0, t1, t2]) Tryz.func138 (by kernel_rfl) (by kernel_rfl) (by kernel_rfl) (Eq.mp (by kernel_rfl) h)
theorem n_integer_number_by_1 : Enters Tryz.prog 138 := enters_of Tryz.func138 (by kernel_rfl) rfl
def s_strings_asciiSet_contains (P : Program) (t0 t1 : Value) (w : World) (R : Ending → World → Prop) : Prop :=
  Nc t0 w fun t7 w =>
  Ia P 138 t7 t1 w fun t8 w =>
  Ld P 4 t8 w fun t9 w =>
  R (.returned t9) w
theorem e_strings_asciiSet_contains {t0 t1 : Value} {w : World} {R : Ending → World → Prop} (h : s_strings_asciiSet_contains Tryz.prog t0 t1 w R) : Calls Tryz.prog 145 #[t0, t1] w R :=
  enter (h := (.sq .z (.sq .z .z))) (args := [t0, t1]) Tryz.func145 (by kernel_rfl) (by kernel_rfl) (by kernel_rfl) (Eq.mp (by kernel_rfl) h)
theorem n_strings_asciiSet_contains : Enters Tryz.prog 145 := enters_of Tryz.func145 (by kernel_rfl) rfl
end Go.Proofs.YthpcmmfijelbaaaGreatDoor
