/-
  Formulas of functions. By an AI agent.
-/
import Derived.Test.YtjgjeccfhmlcnaaGreatDoorEng
import Derived.Test.YtjgjeccfhmlcnaaGreatDoorProg
set_option linter.unusedSimpArgs false
set_option linter.unusedVariables false
set_option linter.unusedSectionVars false
namespace Go.Proofs.YtjgjeccfhmlcnaaGreatDoor
open Go Go.Eng Go.Shelf
set_option maxRecDepth 100000
variable {t0 t1 t2 t3 t4 t5 : Value} {w : World} {R : Ending → World → Prop}
def s_law15_sane (P : Program) (w : World) (R : Ending → World → Prop) : Prop :=
 Bs P 24 2 [(0, (.int .i64 50)), (1, (.int .i64 50))] w fun t26 w =>
 Bs P 24 2 [(0, (.int .i64 5)), (1, (.int .i64 1))] w fun t27 w =>
 Cl P 11 #[(.int .i64 60), t26, t27] w (Pk R) fun t28 w =>
 Ex t28 0 w fun t29 w =>
 Ex t28 1 w fun t30 w =>
 Bs P 24 2 [(0, (.int .i64 60)), (1, (.int .i64 60))] w fun t32 w =>
 Bs P 24 2 [(0, (.int .i64 2)), (1, (.int .i64 1))] w fun t33 w =>
 Cl P 11 #[(.int .i64 40), t32, t33] w (Pk R) fun t34 w =>
 Ex t34 0 w fun t35 w =>
 Ex t34 1 w fun t36 w =>
 Bs P 24 1 [(0, (.int .i64 1))] w fun t38 w =>
 Bs P 24 1 [(0, (.int .i64 1))] w fun t39 w =>
 Cl P 11 #[(.int .i64 0), t38, t39] w (Pk R) fun t40 w =>
 Ex t40 0 w fun t41 w =>
 Ex t40 1 w fun t42 w =>
 Bs P 24 1 [(0, (.int .i64 0))] w fun t44 w =>
 Bs P 24 1 [(0, (.int .i64 1))] w fun t45 w =>
 Cl P 11 #[(.int .i64 0), t44, t45] w (Pk R) fun t46 w =>
 Ex t46 0 w fun t47 w =>
 Ex t46 1 w fun t48 w =>
 Bd P 46 [(0, (.int .i64 3)), (5, (.int .i64 (-1))), (9, (.int .i64 50))] w fun t49 w =>
 Bd P 46 [(0, (.int .i64 3)), (1, (.int .i64 1)), (5, (.int .i64 (-1))), (9, (.int .i64 10))] w fun t50 w =>
 Bd P 46 [(0, (.int .i64 12)), (5, (.int .i64 (-1))), (6, (.int .i64 1)), (9, (.int .i64 40))] w fun t51 w =>
 Bs P 34 3 [(0, t49), (1, t50), (2, t51)] w fun t52 w =>
 Cl P 29 #[] w (Pk R) fun t55 w =>
 Cl P 15 #[t52, (.int .i64 50), t55] w (Pk R) fun t56 w =>
 Ex t56 0 w fun t57 w =>
 Ex t56 1 w fun t58 w =>
 Cl P 29 #[] w (Pk R) fun t61 w =>
 Cl P 16 #[(str [120]), t52, (.int .i64 100), t61] w (Pk R) fun t62 w =>
 Ex t62 0 w fun t63 w =>
 Ex t62 1 w fun t64 w =>
 Cl P 20 #[(str [120]), (.int .i64 3), (.int .i64 1)] w (Pk R) fun t66 w =>
 Ex t66 0 w fun t67 w =>
 Ex t66 1 w fun t68 w =>
 Cl P 21 #[(.int .i64 1), (.int .i64 3)] w (Pk R) fun t70 w =>
 Ex t70 0 w fun t71 w =>
 Ex t70 1 w fun t72 w =>
 Al P 50 w fun t16 w =>
 Sto P 50 t16 t71 w fun w =>
 Dv P true (Instr.indexAt 34 t52 (.int .i64 0)) w.drew fun t74 =>
 dL P 46 t74 w.drew fun t75 =>
 dL P 50 t16 w.drew fun t76 =>
 Dv P true (Instr.build 54 #[(0, t75), (1, t76)]) w.drew fun t77 =>
 Bs P 38 1 [(0, t77)] w.drew fun t78 w =>
 Cl P 24 #[(str [120]), t78, (.int .i64 1)] w (Pk R) fun t81 w =>
 Ex t81 0 w fun t82 w =>
 Ex t81 1 w fun t83 w =>
 Cl P 24 #[(str [120]), t78, (.int .i64 334)] w (Pk R) fun t86 w =>
 Ex t86 0 w fun t87 w =>
 Ex t86 1 w fun t88 w =>
 Bn P .eql 28 true t30 (.int .i64 0) w fun t90 w =>
 Gd t90 true (fun k => k t36 w) w fun t92 w =>
 Gd t90 true (fun k => Bn P .eql 28 true t92 (.int .i64 0) w k) w fun t93 w =>
 Pick t90 t93 (.bool false) w fun t94 w =>
 Gd t94 true (fun k => k t42 w) w fun t96 w =>
 Gd t94 true (fun k => Bn P .eql 28 true t96 (.int .i64 150) w k) w fun t97 w =>
 Pick t94 t97 (.bool false) w fun t98 w =>
 Gd t98 true (fun k => k t48 w) w fun t100 w =>
 Gd t98 true (fun k => Bn P .eql 28 true t100 (.int .i64 0) w k) w fun t101 w =>
 Pick t98 t101 (.bool false) w fun t102 w =>
 Gd t102 true (fun k => k t29 w) w fun t104 w =>
 Gd t102 true (fun k => Bs P 24 2 [(0, (.int .i64 1)), (1, (.int .i64 5))] w k) w fun t105 w =>
 Gd t102 true (fun k => Cl P 12 #[t104, t105] w (Pk R) k) w fun t106 w =>
 Pick t102 t106 (.bool false) w fun t107 w =>
 Gd t107 true (fun k => k t35 w) w fun t109 w =>
 Gd t107 true (fun k => Bs P 24 2 [(0, (.int .i64 3)), (1, (.int .i64 5))] w k) w fun t110 w =>
 Gd t107 true (fun k => Cl P 12 #[t109, t110] w (Pk R) k) w fun t111 w =>
 Pick t107 t111 (.bool false) w fun t112 w =>
 Gd t112 true (fun k => k t47 w) w fun t114 w =>
 Gd t112 true (fun k => Bs P 24 1 [(0, (.int .i64 1))] w k) w fun t115 w =>
 Gd t112 true (fun k => Cl P 12 #[t114, t115] w (Pk R) k) w fun t116 w =>
 Pick t112 t116 (.bool false) w fun t117 w =>
 Bn P .eql 28 true t58 (.int .i64 0) w fun t119 w =>
 Gd t119 true (fun k => k t64 w) w fun t121 w =>
 Gd t119 true (fun k => Bn P .eql 28 true t121 (.int .i64 0) w k) w fun t122 w =>
 Pick t119 t122 (.bool false) w fun t123 w =>
 Gd t123 true (fun k => k t68 w) w fun t125 w =>
 Gd t123 true (fun k => Bn P .eql 28 true t125 (.int .i64 0) w k) w fun t126 w =>
 Pick t123 t126 (.bool false) w fun t127 w =>
 Gd t127 true (fun k => k t67 w) w fun t129 w =>
 Pick t127 t129 (.bool false) w fun t130 w =>
 Gd t130 true (fun k => k t57 w) w fun t132 w =>
 Gd t130 true (fun k => Bs P 24 3 [(0, (.int .i64 2)), (1, (.int .i64 2)), (2, (.int .i64 2))] w k) w fun t133 w =>
 Gd t130 true (fun k => Cl P 12 #[t132, t133] w (Pk R) k) w fun t134 w =>
 Pick t130 t134 (.bool false) w fun t135 w =>
 Gd t135 true (fun k => k t63 w) w fun t137 w =>
 Gd t135 true (fun k => Bt P .len #[38] 3 #[t137] w k) w fun t138 w =>
 Gd t135 true (fun k => Bn P .eql 3 true t138 (.int .i64 3) w k) w fun t139 w =>
 Pick t135 t139 (.bool false) w fun t140 w =>
 Gd t140 true (fun k => k t72 w) w fun t142 w =>
 Gd t140 true (fun k => Bn P .eql 28 true t142 (.int .i64 0) w k) w fun t143 w =>
 Pick t140 t143 (.bool false) w fun t144 w =>
 Gd t117 true (fun k => k t144 w) w fun t147 w =>
 Pick t117 t147 (.bool false) w fun t148 w =>
 Gd t148 true (fun k => k t83 w) w fun t150 w =>
 Gd t148 true (fun k => Bn P .eql 28 true t150 (.int .i64 0) w k) w fun t151 w =>
 Pick t148 t151 (.bool false) w fun t152 w =>
 Gd t152 true (fun k => k t88 w) w fun t154 w =>
 Gd t152 true (fun k => Bn P .eql 28 true t154 (.int .i64 150) w k) w fun t155 w =>
 Pick t152 t155 (.bool false) w fun t156 w =>
 Gd t156 true (fun k => k t82 w) w fun t158 w =>
 Gd t156 true (fun k => k t78 w) w fun t159 w =>
 Gd t156 true (fun k => Cl P 25 #[t158, t159] w (Pk R) k) w fun t160 w =>
 Pick t156 t160 (.bool false) w fun t161 w =>
 Gd t161 true (fun k => k t78 w) w fun t163 w =>
 Gd t161 true (fun k => Cl P 18 #[t163] w (Pk R) k) w fun t164 w =>
 Pick t161 t164 (.bool false) w fun t165 w =>
 Gd t165 true (fun k => Bd P 54 [] w k) w fun t167 w =>
 Gd t165 true (fun k => Bs P 38 1 [(0, t167)] w k) w fun t168 w =>
 Gd t165 true (fun k => Cl P 18 #[t168] w (Pk R) k) w fun t169 w =>
 Gd t165 true (fun k => Un P .not t169 w k) w fun t170 w =>
 Pick t165 t170 (.bool false) w fun t171 w =>
 R (.returned t171) w
theorem e_law15_sane (h : s_law15_sane Tryz.prog  w R) : Calls Tryz.prog 8 #[] w R :=
 en1 (.sq .z (.sq .z (.sq .z (.sq .z (.sq .z (.sq .z (.sq .z (.sq .z (.sq .z (.sq .z (.sq (.dr (.pur true 0 (.pur true 1 (.pur false 2 (.pur false 3 (.pur true 4 (.eff 5 [] (.pur true 6 .done)))))))) (.sq .z (.sq .z (.sq .z (.sq .z (.sq .z .z)))))))))))))))) [] Tryz.func8 (by kernel_rfl) (by kernel_rfl) h
theorem n_law15_sane : Enters Tryz.prog 8 := enters_of Tryz.func8 (by kernel_rfl) rfl
def s_law15_pick (P : Program) (t0 t1 : Value) (w : World) (R : Ending → World → Prop) : Prop :=
 Bn P .lss 3 true t0 (.int .i64 0) w fun t6 w =>
 If t6
 (Bn P .add 3 true t0 (.int .i64 1) w fun t8 w =>
 Un P .neg t8 w fun t9 w =>
 Bn P .rem 3 false t9 t1 w fun t12 w =>
 R (.returned t12) w)
 (Bn P .rem 3 false t0 t1 w fun t12x1 w =>
 R (.returned t12x1) w)
theorem e_law15_pick (h : s_law15_pick Tryz.prog t0 t1 w R) : Calls Tryz.prog 10 #[t0, t1] w R :=
 en1 (.sq .z (.sq (.sq .z (.cd .z .z)) (.sq .z .z))) [t0, t1] Tryz.func10 (by kernel_rfl) (by kernel_rfl) h
theorem n_law15_pick : Enters Tryz.prog 10 := enters_of Tryz.func10 (by kernel_rfl) rfl
def s_sample_Allocate (P : Program) (t0 t1 t2 : Value) (w : World) (R : Ending → World → Prop) : Prop :=
 Bx P 3 t0 w fun t3 w =>
 Bx P 24 t1 w fun t4 w =>
 Bx P 24 t2 w fun t5 w =>
 Ld P 24 t4 w fun t18 w =>
 Bt P .len #[24] 3 #[t18] w fun t19 w =>
 Bn P .gtr 3 true t19 (.int .i64 400) w fun t20 w =>
 Gd t20 false (fun k => Ld P 24 t5 w k) w fun t22 w =>
 Gd t20 false (fun k => Bt P .len #[24] 3 #[t22] w k) w fun t23 w =>
 Gd t20 false (fun k => Ld P 24 t4 w k) w fun t24 w =>
 Gd t20 false (fun k => Bt P .len #[24] 3 #[t24] w k) w fun t25 w =>
 Gd t20 false (fun k => Bn P .neq 3 false t23 t25 w k) w fun t26 w =>
 Pick t20 (.bool true) t26 w fun t27 w =>
 Gd t27 false (fun k => Ld P 24 t4 w k) w fun t29 w =>
 Gd t27 false (fun k => Cl P 30 #[t29, (.int .i64 0), (.int .i64 1000000)] w (Pk R) k) w fun t30 w =>
 Gd t27 false (fun k => Un P .not t30 w k) w fun t31 w =>
 Pick t27 (.bool true) t31 w fun t32 w =>
 Gd t32 false (fun k => Ld P 24 t5 w k) w fun t34 w =>
 Gd t32 false (fun k => Cl P 30 #[t34, (.int .i64 1), (.int .i64 1000)] w (Pk R) k) w fun t35 w =>
 Gd t32 false (fun k => Un P .not t35 w k) w fun t36 w =>
 Pick t32 (.bool true) t36 w fun t37 w =>
 Gd t37 false (fun k => Ld P 3 t3 w k) w fun t39 w =>
 Gd t37 false (fun k => Cl P 31 #[t39, (.int .i64 0), (.int .i64 1000000000)] w (Pk R) k) w fun t40 w =>
 Gd t37 false (fun k => Un P .not t40 w k) w fun t41 w =>
 Pick t37 (.bool true) t41 w fun t42 w =>
 If t42
 (R (.returned (.tuple #[(.slice none 0 0), (.int .i64 150)])) w)
 (Ld P 24 t4 w fun t43 w =>
 Bt P .len #[24] 3 #[t43] w fun t44 w =>
 Ms P 71 t44 t44 w fun t45 w =>
 Al P 71 w fun t8 w =>
 Sto P 71 t8 t45 w fun w =>
 Ld P 3 t3 w fun t46 w =>
 Al P 3 w fun t9 w =>
 Al P 3 w fun t10 w =>
 Sto P 3 t9 t46 w fun w =>
 Sto P 3 t10 (.int .i64 0) w fun w =>
 Lp1 (.bool true) w (fun t12 w k1 =>
 If t12
 (Cw P (.func (.func 32) #[] #[t3, t9, t10, t4, t8, t5]) #[] w (Pk R) fun t50 w =>
 Ld P 24 t5 w fun t51 w =>
 Bt P .len #[24] 3 #[t51] w fun t52 w =>
 Lp2 (.bool false) (.int .i64 0) w (fun t12x1 t53 w k2 =>
 Bn P .lss 3 false t53 t52 w fun t54 w =>
 If t54
 (Ia P 24 t51 t53 w fun t56 w =>
 Ld P 3 t56 w fun t57 w =>
 Ld P 71 t8 w fun t58 w =>
 Ia P 71 t58 t53 w fun t60 w =>
 Ld P 4 t60 w fun t61 w =>
 Un P .not t61 w fun t62 w =>
 Gd t62 true (fun k => Ld P 3 t9 w k) w fun t64 w =>
 Gd t62 true (fun k => k t57 w) w fun t65 w =>
 Gd t62 true (fun k => Bn P .mul 3 false t64 t65 w k) w fun t66 w =>
 Gd t62 true (fun k => Ld P 3 t10 w k) w fun t67 w =>
 Gd t62 true (fun k => Bn P .geq 3 false t66 t67 w k) w fun t68 w =>
 Pick t62 t68 (.bool false) w fun t69 w =>
 If t69
 (Ld P 71 t8 w fun t70 w =>
 Ia P 71 t70 t53 w fun t72 w =>
 Sto P 4 t72 (.bool true) w fun w =>
 Bn P .add 3 true t53 (.int .i64 1) w fun t73 w =>
 k2 (.bool true) t73 w)
 (Bn P .add 3 true t53 (.int .i64 1) w fun t73x1 w =>
 k2 t12x1 t73x1 w))
 (k1 t12x1 w)))
 (Ld P 24 t4 w fun t74 w =>
 Bt P .len #[24] 3 #[t74] w fun t75 w =>
 Ms P 24 t75 t75 w fun t76 w =>
 Ld P 24 t5 w fun t77 w =>
 Bt P .len #[24] 3 #[t77] w fun t78 w =>
 Lp1 (.int .i64 0) w (fun t79 w k3 =>
 Bn P .lss 3 false t79 t78 w fun t80 w =>
 If t80
 (Ia P 24 t77 t79 w fun t82 w =>
 Ld P 3 t82 w fun t83 w =>
 Ld P 71 t8 w fun t98 w =>
 Ia P 71 t98 t79 w fun t100 w =>
 Ld P 4 t100 w fun t101 w =>
 If t101
 (Ia P 24 t76 t79 w fun t104 w =>
 Sto P 3 t104 (.int .i64 1) w fun w =>
 Bn P .add 3 true t79 (.int .i64 1) w fun t116 w =>
 k3 t116 w)
 (Ld P 3 t9 w fun t106 w =>
 Bn P .leq 3 true t106 (.int .i64 0) w fun t107 w =>
 Gd t107 false (fun k => Ld P 3 t10 w k) w fun t109 w =>
 Gd t107 false (fun k => Ld P 3 t9 w k) w fun t110 w =>
 Gd t107 false (fun k => Bn P .mul 3 true (.int .i64 1000) t110 w k) w fun t111 w =>
 Gd t107 false (fun k => k t83 w) w fun t112 w =>
 Gd t107 false (fun k => Bn P .mul 3 false t111 t112 w k) w fun t113 w =>
 Gd t107 false (fun k => Bn P .gtr 3 false t109 t113 w k) w fun t114 w =>
 Pick t107 (.bool true) t114 w fun t115 w =>
 If t115
 (R (.returned (.tuple #[(.slice none 0 0), (.int .i64 150)])) w)
 (Ld P 3 t10 w fun t86 w =>
 Ld P 3 t9 w fun t87 w =>
 Bn P .mul 3 false t87 t83 w fun t89 w =>
 Bn P .add 3 false t86 t89 w fun t90 w =>
 Bn P .sub 3 true t90 (.int .i64 1) w fun t91 w =>
 Ld P 3 t9 w fun t92 w =>
 Bn P .mul 3 false t92 t83 w fun t94 w =>
 Bn P .quo 3 false t91 t94 w fun t95 w =>
 Ia P 24 t76 t79 w fun t96 w =>
 Sto P 3 t96 t95 w fun w =>
 Bn P .add 3 true t79 (.int .i64 1) w fun t116x1 w =>
 k3 t116x1 w)))
 (R (.returned (.tuple #[t76, (.int .i64 0)])) w)))))
theorem e_sample_Allocate (h : s_sample_Allocate Tryz.prog t0 t1 t2 w R) : Calls Tryz.prog 11 #[t0, t1, t2] w R :=
 en1 (.sq .z (.sq (.sq .z (.cd (.sq .z .z) .z)) (.sq .z (.sq .z (.sq .z (.sq (.sq .z (.bk (.lp [12] [13, 14, 48, 49, 50, 51, 52, 53, 54, 55, 56, 57, 58, 59, 60, 61, 62, 63, 64, 65, 66, 67, 68, 69, 70, 71, 72, 73] (.sq (.sq .z (.cd .z .z)) (.bk (.sq .z (.sq .z (.sq .z (.bk (.lp [12, 53] [13, 14, 54, 55, 56, 57, 58, 59, 60, 61, 62, 63, 64, 65, 66, 67, 68, 69, 70, 71, 72, 73] (.sq .z (.sq (.cd .z .z) (.sq (.bk (.sq .z (.sq .z (.cd .z .z)))) .z))))))))))))) (.sq .z (.sq (.sq .z (.bk (.lp [79] [6, 7, 16, 17, 80, 81, 82, 83, 84, 85, 86, 87, 88, 89, 90, 91, 92, 93, 94, 95, 96, 97, 98, 99, 100, 101, 102, 103, 104, 105, 106, 107, 108, 109, 110, 111, 112, 113, 114, 115, 116] (.sq .z (.sq (.cd .z .z) (.sq (.bk (.sq .z (.bk (.sq .z (.cd .z (.sq .z (.cd (.sq .z .z) .z))))))) .z)))))) (.sq .z .z))))))))) [t0, t1, t2] Tryz.func11 (by kernel_rfl) (by kernel_rfl) h
theorem n_sample_Allocate : Enters Tryz.prog 11 := enters_of Tryz.func11 (by kernel_rfl) rfl
def s_ref15_Ints (P : Program) (t0 t1 : Value) (w : World) (R : Ending → World → Prop) : Prop :=
 Bt P .len #[24] 3 #[t0] w fun t7 w =>
 Bt P .len #[24] 3 #[t1] w fun t9 w =>
 Bn P .neq 3 false t7 t9 w fun t10 w =>
 If t10
 (R (.returned (.bool false)) w)
 (Lp1 (.int .i64 0) w (fun t5 w k1 =>
 Bt P .len #[24] 3 #[t0] w fun t13 w =>
 Bn P .lss 3 false t5 t13 w fun t14 w =>
 If t14
 (dIx P 24 t0 t5 w.drew fun t19 =>
 dL P 3 t19 w.drew fun t20 =>
 dIx P 24 t1 t5 w.drew fun t23 =>
 dL P 3 t23 w.drew fun t24 =>
 Dv P true (bn .neq 3 false t20 t24) w.drew fun t25 =>
 If t25
 (R (.returned (.bool false)) w.drew)
 (Bn P .add 3 true t5 (.int .i64 1) w.drew fun t16 w =>
 k1 t16 w))
 (R (.returned (.bool true)) w)))
theorem e_ref15_Ints (h : s_ref15_Ints Tryz.prog t0 t1 w R) : Calls Tryz.prog 12 #[t0, t1] w R :=
 en1 (.sq .z (.sq (.sq .z (.cd (.sq .z .z) .z)) (.sq (.sq .z (.bk (.lp [5] [4, 11, 12, 13, 14, 15, 16, 17, 18, 19, 20, 21, 22, 23, 24, 25] (.sq (.sq .z (.cd .z .z)) (.sq (.bk (.sq (.dr (.pur true 0 (.pur true 1 (.pur true 2 (.pur false 3 (.pur true 4 (.pur true 5 (.pur true 6 (.pur false 7 (.pur true 8 .done)))))))))) (.cd (.sq .z .z) .z))) .z))))) (.sq .z .z)))) [t0, t1] Tryz.func12 (by kernel_rfl) (by kernel_rfl) h
theorem n_ref15_Ints : Enters Tryz.prog 12 := enters_of Tryz.func12 (by kernel_rfl) rfl
def s_ref14_MadeFacts (P : Program) (t0 : Value) (w : World) (R : Ending → World → Prop) : Prop :=
 Lp2 (.slice none 0 0) (.int .i64 0) w (fun t3 t4 w k1 =>
 Bt P .len #[33] 3 #[t0] w fun t9 w =>
 Bn P .lss 3 false t4 t9 w fun t10 w =>
 Gd t10 true (fun k => k t4 w) w fun t12 w =>
 Gd t10 true (fun k => Bn P .lss 3 true t12 (.int .i64 40) w k) w fun t13 w =>
 Pick t10 t13 (.bool false) w fun t14 w =>
 If t14
 (Jn1 (fun k2 =>
 dIx P 33 t0 t4 w.drew fun t19 =>
 Dv P true (Instr.indexAt 72 t19 (.int .i64 0)) w.drew fun t20 =>
 dL P 3 t20 w.drew fun t21 =>
 dIx P 33 t0 t4 w.drew fun t25 =>
 Dv P true (Instr.indexAt 72 t25 (.int .i64 0)) w.drew fun t26 =>
 dL P 3 t26 w.drew fun t27 =>
 Dv P true (bn .quo 3 true t27 (.int .i64 30)) w.drew fun t28 =>
 dIx P 33 t0 t4 w.drew fun t32 =>
 Dv P true (Instr.indexAt 72 t32 (.int .i64 1)) w.drew fun t33 =>
 dL P 3 t33 w.drew fun t34 =>
 dIx P 33 t0 t4 w.drew fun t38 =>
 Dv P true (Instr.indexAt 72 t38 (.int .i64 1)) w.drew fun t39 =>
 dL P 3 t39 w.drew fun t40 =>
 Dv P true (bn .quo 3 true t40 (.int .i64 2)) w.drew fun t41 =>
 dIx P 33 t0 t4 w.drew fun t45 =>
 Dv P true (Instr.indexAt 72 t45 (.int .i64 1)) w.drew fun t46 =>
 dL P 3 t46 w.drew fun t47 =>
 Dv P true (bn .quo 3 true t47 (.int .i64 6)) w.drew fun t48 =>
 dIx P 33 t0 t4 w.drew fun t53 =>
 Dv P true (Instr.indexAt 72 t53 (.int .i64 2)) w.drew fun t54 =>
 dL P 3 t54 w.drew fun t55 =>
 dIx P 33 t0 t4 w.drew fun t59 =>
 Dv P true (Instr.indexAt 72 t59 (.int .i64 1)) w.drew fun t60 =>
 dL P 3 t60 w.drew fun t61 =>
 Dv P true (bn .quo 3 true t61 (.int .i64 30)) w.drew fun t62 =>
 (Cl P 33 #[t21, (.int .i64 30)] w.drew (Pk R) fun t22 w =>
 kLd P 3 t26 t27 w <|
 kLd P 3 t33 t34 w <|
 kLd P 3 t39 t40 w <|
 kLd P 3 t46 t47 w <|
 kLd P 3 t54 t55 w <|
 kLd P 3 t60 t61 w <|
 (Cl P 33 #[t28, (.int .i64 4)] w (Pk R) fun t29 w =>
 kLd P 3 t33 t34 w <|
 kLd P 3 t39 t40 w <|
 kLd P 3 t46 t47 w <|
 kLd P 3 t54 t55 w <|
 kLd P 3 t60 t61 w <|
 (Cl P 33 #[t34, (.int .i64 2)] w (Pk R) fun t35 w =>
 kLd P 3 t39 t40 w <|
 kLd P 3 t46 t47 w <|
 kLd P 3 t54 t55 w <|
 kLd P 3 t60 t61 w <|
 (Cl P 33 #[t41, (.int .i64 3)] w (Pk R) fun t42 w =>
 kLd P 3 t46 t47 w <|
 kLd P 3 t54 t55 w <|
 kLd P 3 t60 t61 w <|
 (Cl P 33 #[t48, (.int .i64 5)] w (Pk R) fun t49 w =>
 kLd P 3 t54 t55 w <|
 kLd P 3 t60 t61 w <|
 Dv P true (bn .sub 3 true t49 (.int .i64 1)) w fun t50 =>
 (Cl P 33 #[t55, (.int .i64 40)] w (Pk R) fun t56 w =>
 kLd P 3 t60 t61 w <|
 (Cl P 33 #[t62, (.int .i64 100)] w (Pk R) fun t63 w =>
 Dv P true (Instr.build 46 #[(0, t22), (1, t29), (2, t35), (3, t42), (5, t50), (7, t56), (9, t63)]) w fun t64 =>
 Al P 46 w fun t5 w =>
 kLd P 3 t20 t21 w <|
 kLd P 3 t26 t27 w <|
 kLd P 3 t33 t34 w <|
 kLd P 3 t39 t40 w <|
 kLd P 3 t46 t47 w <|
 kLd P 3 t54 t55 w <|
 kLd P 3 t60 t61 w <|
 Sto P 46 t5 t64 w fun w =>
 k2 t5 w) ∧
 (Al P 46 w fun t5x1 w =>
 kLd P 3 t20 t21 w <|
 kLd P 3 t26 t27 w <|
 kLd P 3 t33 t34 w <|
 kLd P 3 t39 t40 w <|
 kLd P 3 t46 t47 w <|
 kLd P 3 t54 t55 w <|
 kLd P 3 t60 t61 w <|
 Cl P 33 #[t62, (.int .i64 100)] w (Pk R) fun t63x1 w =>
 Dv P true (Instr.build 46 #[(0, t22), (1, t29), (2, t35), (3, t42), (5, t50), (7, t56), (9, t63x1)]) w fun t64x1 =>
 Sto P 46 t5x1 t64x1 w fun w =>
 k2 t5x1 w)) ∧
 (Al P 46 w fun t5x2 w =>
 kLd P 3 t20 t21 w <|
 kLd P 3 t26 t27 w <|
 kLd P 3 t33 t34 w <|
 kLd P 3 t39 t40 w <|
 kLd P 3 t46 t47 w <|
 kLd P 3 t54 t55 w <|
 kLd P 3 t60 t61 w <|
 Cl P 33 #[t55, (.int .i64 40)] w (Pk R) fun t56x1 w =>
 kLd P 3 t60 t61 w <|
 Cl P 33 #[t62, (.int .i64 100)] w (Pk R) fun t63x2 w =>
 Dv P true (Instr.build 46 #[(0, t22), (1, t29), (2, t35), (3, t42), (5, t50), (7, t56x1), (9, t63x2)]) w fun t64x2 =>
 Sto P 46 t5x2 t64x2 w fun w =>
 k2 t5x2 w)) ∧
 (Al P 46 w fun t5x3 w =>
 kLd P 3 t20 t21 w <|
 kLd P 3 t26 t27 w <|
 kLd P 3 t33 t34 w <|
 kLd P 3 t39 t40 w <|
 kLd P 3 t46 t47 w <|
 kLd P 3 t54 t55 w <|
 kLd P 3 t60 t61 w <|
 Cl P 33 #[t48, (.int .i64 5)] w (Pk R) fun t49x1 w =>
 kLd P 3 t54 t55 w <|
 kLd P 3 t60 t61 w <|
 Dv P true (bn .sub 3 true t49x1 (.int .i64 1)) w fun t50x1 =>
 Cl P 33 #[t55, (.int .i64 40)] w (Pk R) fun t56x2 w =>
 kLd P 3 t60 t61 w <|
 Cl P 33 #[t62, (.int .i64 100)] w (Pk R) fun t63x3 w =>
 Dv P true (Instr.build 46 #[(0, t22), (1, t29), (2, t35), (3, t42), (5, t50x1), (7, t56x2), (9, t63x3)]) w fun t64x3 =>
 Sto P 46 t5x3 t64x3 w fun w =>
 k2 t5x3 w)) ∧
 (Al P 46 w fun t5x4 w =>
 kLd P 3 t20 t21 w <|
 kLd P 3 t26 t27 w <|
 kLd P 3 t33 t34 w <|
 kLd P 3 t39 t40 w <|
 kLd P 3 t46 t47 w <|
 kLd P 3 t54 t55 w <|
 kLd P 3 t60 t61 w <|
 Cl P 33 #[t41, (.int .i64 3)] w (Pk R) fun t42x1 w =>
 kLd P 3 t46 t47 w <|
 kLd P 3 t54 t55 w <|
 kLd P 3 t60 t61 w <|
 Cl P 33 #[t48, (.int .i64 5)] w (Pk R) fun t49x2 w =>
 kLd P 3 t54 t55 w <|
 kLd P 3 t60 t61 w <|
 Dv P true (bn .sub 3 true t49x2 (.int .i64 1)) w fun t50x2 =>
 Cl P 33 #[t55, (.int .i64 40)] w (Pk R) fun t56x3 w =>
 kLd P 3 t60 t61 w <|
 Cl P 33 #[t62, (.int .i64 100)] w (Pk R) fun t63x4 w =>
 Dv P true (Instr.build 46 #[(0, t22), (1, t29), (2, t35), (3, t42x1), (5, t50x2), (7, t56x3), (9, t63x4)]) w fun t64x4 =>
 Sto P 46 t5x4 t64x4 w fun w =>
 k2 t5x4 w)) ∧
 (Al P 46 w fun t5x5 w =>
 kLd P 3 t20 t21 w <|
 kLd P 3 t26 t27 w <|
 kLd P 3 t33 t34 w <|
 kLd P 3 t39 t40 w <|
 kLd P 3 t46 t47 w <|
 kLd P 3 t54 t55 w <|
 kLd P 3 t60 t61 w <|
 Cl P 33 #[t34, (.int .i64 2)] w (Pk R) fun t35x1 w =>
 kLd P 3 t39 t40 w <|
 kLd P 3 t46 t47 w <|
 kLd P 3 t54 t55 w <|
 kLd P 3 t60 t61 w <|
 Cl P 33 #[t41, (.int .i64 3)] w (Pk R) fun t42x2 w =>
 kLd P 3 t46 t47 w <|
 kLd P 3 t54 t55 w <|
 kLd P 3 t60 t61 w <|
 Cl P 33 #[t48, (.int .i64 5)] w (Pk R) fun t49x3 w =>
 kLd P 3 t54 t55 w <|
 kLd P 3 t60 t61 w <|
 Dv P true (bn .sub 3 true t49x3 (.int .i64 1)) w fun t50x3 =>
 Cl P 33 #[t55, (.int .i64 40)] w (Pk R) fun t56x4 w =>
 kLd P 3 t60 t61 w <|
 Cl P 33 #[t62, (.int .i64 100)] w (Pk R) fun t63x5 w =>
 Dv P true (Instr.build 46 #[(0, t22), (1, t29), (2, t35x1), (3, t42x2), (5, t50x3), (7, t56x4), (9, t63x5)]) w fun t64x5 =>
 Sto P 46 t5x5 t64x5 w fun w =>
 k2 t5x5 w)) ∧
 (Al P 46 w fun t5x6 w =>
 kLd P 3 t20 t21 w <|
 kLd P 3 t26 t27 w <|
 kLd P 3 t33 t34 w <|
 kLd P 3 t39 t40 w <|
 kLd P 3 t46 t47 w <|
 kLd P 3 t54 t55 w <|
 kLd P 3 t60 t61 w <|
 Cl P 33 #[t28, (.int .i64 4)] w (Pk R) fun t29x1 w =>
 kLd P 3 t33 t34 w <|
 kLd P 3 t39 t40 w <|
 kLd P 3 t46 t47 w <|
 kLd P 3 t54 t55 w <|
 kLd P 3 t60 t61 w <|
 Cl P 33 #[t34, (.int .i64 2)] w (Pk R) fun t35x2 w =>
 kLd P 3 t39 t40 w <|
 kLd P 3 t46 t47 w <|
 kLd P 3 t54 t55 w <|
 kLd P 3 t60 t61 w <|
 Cl P 33 #[t41, (.int .i64 3)] w (Pk R) fun t42x3 w =>
 kLd P 3 t46 t47 w <|
 kLd P 3 t54 t55 w <|
 kLd P 3 t60 t61 w <|
 Cl P 33 #[t48, (.int .i64 5)] w (Pk R) fun t49x4 w =>
 kLd P 3 t54 t55 w <|
 kLd P 3 t60 t61 w <|
 Dv P true (bn .sub 3 true t49x4 (.int .i64 1)) w fun t50x4 =>
 Cl P 33 #[t55, (.int .i64 40)] w (Pk R) fun t56x5 w =>
 kLd P 3 t60 t61 w <|
 Cl P 33 #[t62, (.int .i64 100)] w (Pk R) fun t63x6 w =>
 Dv P true (Instr.build 46 #[(0, t22), (1, t29x1), (2, t35x2), (3, t42x3), (5, t50x4), (7, t56x5), (9, t63x6)]) w fun t64x6 =>
 Sto P 46 t5x6 t64x6 w fun w =>
 k2 t5x6 w)) ∧
 (Al P 46 w.drew fun t5x7 w =>
 kLd P 3 t20 t21 w <|
 kLd P 3 t26 t27 w <|
 kLd P 3 t33 t34 w <|
 kLd P 3 t39 t40 w <|
 kLd P 3 t46 t47 w <|
 kLd P 3 t54 t55 w <|
 kLd P 3 t60 t61 w <|
 Cl P 33 #[t21, (.int .i64 30)] w (Pk R) fun t22x1 w =>
 kLd P 3 t26 t27 w <|
 kLd P 3 t33 t34 w <|
 kLd P 3 t39 t40 w <|
 kLd P 3 t46 t47 w <|
 kLd P 3 t54 t55 w <|
 kLd P 3 t60 t61 w <|
 Cl P 33 #[t28, (.int .i64 4)] w (Pk R) fun t29x2 w =>
 kLd P 3 t33 t34 w <|
 kLd P 3 t39 t40 w <|
 kLd P 3 t46 t47 w <|
 kLd P 3 t54 t55 w <|
 kLd P 3 t60 t61 w <|
 Cl P 33 #[t34, (.int .i64 2)] w (Pk R) fun t35x3 w =>
 kLd P 3 t39 t40 w <|
 kLd P 3 t46 t47 w <|
 kLd P 3 t54 t55 w <|
 kLd P 3 t60 t61 w <|
 Cl P 33 #[t41, (.int .i64 3)] w (Pk R) fun t42x4 w =>
 kLd P 3 t46 t47 w <|
 kLd P 3 t54 t55 w <|
 kLd P 3 t60 t61 w <|
 Cl P 33 #[t48, (.int .i64 5)] w (Pk R) fun t49x5 w =>
 kLd P 3 t54 t55 w <|
 kLd P 3 t60 t61 w <|
 Dv P true (bn .sub 3 true t49x5 (.int .i64 1)) w fun t50x5 =>
 Cl P 33 #[t55, (.int .i64 40)] w (Pk R) fun t56x6 w =>
 kLd P 3 t60 t61 w <|
 Cl P 33 #[t62, (.int .i64 100)] w (Pk R) fun t63x7 w =>
 Dv P true (Instr.build 46 #[(0, t22x1), (1, t29x2), (2, t35x3), (3, t42x4), (5, t50x5), (7, t56x6), (9, t63x7)]) w fun t64x7 =>
 Sto P 46 t5x7 t64x7 w fun w =>
 k2 t5x7 w))
 (fun t5x8 w =>
 dFl P 46 t5x8 2 w.drew fun t65 =>
 dL P 3 t65 w.drew fun t66 =>
 Dv P true (bn .mul 3 true (.int .i64 2) t66) w.drew fun t67 =>
 dIx P 33 t0 t4 w.drew fun t70 =>
 Dv P true (Instr.indexAt 72 t70 (.int .i64 1)) w.drew fun t71 =>
 dL P 3 t71 w.drew fun t72 =>
 Dv P true (bn .quo 3 true t72 (.int .i64 3000)) w.drew fun t73 =>
 Cl P 33 #[t73, (.int .i64 2)] w.drew (Pk R) fun t74 w =>
 kLd P 3 t65 t66 w <|
 Dv P true (bn .add 3 false t67 t74) w fun t75 =>
 dFl P 46 t5x8 4 w fun t76 =>
 Sto P 3 t76 t75 w fun w =>
 Jn0 (fun k3 =>
 Ia P 33 t0 t4 w fun t79 w =>
 Ia P 72 t79 (.int .i64 3) w fun t80 w =>
 Ld P 3 t80 w fun t81 w =>
 Cl P 33 #[t81, (.int .i64 4)] w (Pk R) fun t82 w =>
 Bn P .eql 3 true t82 (.int .i64 3) w fun t83 w =>
 If t83
 (Ia P 33 t0 t4 w fun t86 w =>
 Ia P 72 t86 (.int .i64 2) w fun t87 w =>
 Ld P 3 t87 w fun t88 w =>
 Cl P 33 #[t88, (.int .i64 2199023255552)] w (Pk R) fun t89 w =>
 Fa P 46 t5x8 7 w fun t90 w =>
 Sto P 3 t90 t89 w fun w =>
 k3 w)
 (k3 w))
 (fun w =>
 dFl P 46 t5x8 7 w.drew fun t91 =>
 dL P 3 t91 w.drew fun t92 =>
 dIx P 33 t0 t4 w.drew fun t95 =>
 Dv P true (Instr.indexAt 72 t95 (.int .i64 3)) w.drew fun t96 =>
 dL P 3 t96 w.drew fun t97 =>
 Dv P true (bn .quo 3 true t97 (.int .i64 4)) w.drew fun t98 =>
 dIx P 33 t0 t4 w.drew fun t102 =>
 Dv P true (Instr.indexAt 72 t102 (.int .i64 3)) w.drew fun t103 =>
 dL P 3 t103 w.drew fun t104 =>
 Dv P true (bn .quo 3 true t104 (.int .i64 12)) w.drew fun t105 =>
 Cl P 33 #[t98, (.int .i64 3)] w.drew (Pk R) fun t99 w =>
 kLd P 3 t91 t92 w <|
 kLd P 3 t103 t104 w <|
 Cl P 33 #[t105, (.int .i64 30)] w (Pk R) fun t106 w =>
 kLd P 3 t91 t92 w <|
 Dv P true (bn .mul 3 false t99 t106) w fun t107 =>
 Dv P true (bn .add 3 false t92 t107) w fun t108 =>
 dFl P 46 t5x8 8 w fun t109 =>
 Sto P 3 t109 t108 w fun w =>
 Fa P 46 t5x8 0 w fun t110 w =>
 Ld P 3 t110 w fun t111 w =>
 Bn P .quo 3 true t111 (.int .i64 10) w fun t112 w =>
 Fa P 46 t5x8 6 w fun t113 w =>
 Sto P 3 t113 t112 w fun w =>
 Lp1 (.int .i64 0) w (fun t6 w k4 =>
 Dv P true (bV .len #[34] 3 #[t3]) w.drew fun t116 =>
 Dv P true (bn .lss 3 false t6 t116) w.drew fun t117 =>
 GdP t117 true (fun k => k t3) fun t119 =>
 GdP t117 true (fun k => k t6) fun t120 =>
 GdP t117 true (fun k => dIx P 34 t119 t120 w.drew k) fun t121 =>
 GdP t117 true (fun k => dFl P 46 t121 0 w.drew k) fun t122 =>
 GdP t117 true (fun k => dL P 3 t122 w.drew k) fun t123 =>
 GdP t117 true (fun k => dFl P 46 t5x8 0 w.drew k) fun t124 =>
 GdP t117 true (fun k => dL P 3 t124 w.drew k) fun t125 =>
 GdP t117 true (fun k => Dv P true (bn .lss 3 false t123 t125) w.drew k) fun t126 =>
 GdP t117 true (fun k => k t126) fun t127 =>
 GdP t127 false (fun k => k t3) fun t128 =>
 GdP t127 false (fun k => k t6) fun t129 =>
 GdP t127 false (fun k => dIx P 34 t128 t129 w.drew k) fun t130 =>
 GdP t127 false (fun k => dFl P 46 t130 0 w.drew k) fun t131 =>
 GdP t127 false (fun k => dL P 3 t131 w.drew k) fun t132 =>
 GdP t127 false (fun k => dFl P 46 t5x8 0 w.drew k) fun t133 =>
 GdP t127 false (fun k => dL P 3 t133 w.drew k) fun t134 =>
 GdP t127 false (fun k => Dv P true (bn .eql 3 false t132 t134) w.drew k) fun t135 =>
 GdP t127 false (fun k => k t135) fun t136 =>
 GdP t136 true (fun k => k t3) fun t137 =>
 GdP t136 true (fun k => k t6) fun t138 =>
 GdP t136 true (fun k => dIx P 34 t137 t138 w.drew k) fun t139 =>
 GdP t136 true (fun k => dFl P 46 t139 1 w.drew k) fun t140 =>
 GdP t136 true (fun k => dL P 3 t140 w.drew k) fun t141 =>
 GdP t136 true (fun k => dFl P 46 t5x8 1 w.drew k) fun t142 =>
 GdP t136 true (fun k => dL P 3 t142 w.drew k) fun t143 =>
 GdP t136 true (fun k => Dv P true (bn .lss 3 false t141 t143) w.drew k) fun t144 =>
 GdP t127 false (fun k => PickP t136 t144 (.bool false) k) fun t145 =>
 GdP t117 true (fun k => PickP t127 (.bool true) t145 k) fun t146 =>
 PickP t117 t146 (.bool false) fun t147 =>
 If t147
 (Bn P .add 3 true t6 (.int .i64 1) w.drew fun t149 w =>
 k4 t149 w)
 (Dv P true (bV .len #[34] 3 #[t3]) w.drew.drew fun t152 =>
 Dv P true (bn .lss 3 false t6 t152) w.drew.drew fun t153 =>
 GdP t153 true (fun k => k t3) fun t155 =>
 GdP t153 true (fun k => k t6) fun t156 =>
 GdP t153 true (fun k => Dv P true (Instr.indexAt 34 t155 t156) w.drew.drew k) fun t157 =>
 GdP t153 true (fun k => Dv P true (Instr.fieldAt 46 t157 0) w.drew.drew k) fun t158 =>
 GdP t153 true (fun k => Dv P false (Instr.loadAt 3 t158) w.drew.drew k) fun t159 =>
 GdP t153 true (fun k => Dv P true (Instr.fieldAt 46 t5x8 0) w.drew.drew k) fun t160 =>
 GdP t153 true (fun k => Dv P false (Instr.loadAt 3 t160) w.drew.drew k) fun t161 =>
 GdP t153 true (fun k => Dv P true (bn .eql 3 false t159 t161) w.drew.drew k) fun t162 =>
 PickP t153 t162 (.bool false) fun t163 =>
 GdP t163 true (fun k => k t3) fun t165 =>
 GdP t163 true (fun k => k t6) fun t166 =>
 GdP t163 true (fun k => Dv P true (Instr.indexAt 34 t165 t166) w.drew.drew k) fun t167 =>
 GdP t163 true (fun k => Dv P true (Instr.fieldAt 46 t167 1) w.drew.drew k) fun t168 =>
 GdP t163 true (fun k => Dv P false (Instr.loadAt 3 t168) w.drew.drew k) fun t169 =>
 GdP t163 true (fun k => Dv P true (Instr.fieldAt 46 t5x8 1) w.drew.drew k) fun t170 =>
 GdP t163 true (fun k => Dv P false (Instr.loadAt 3 t170) w.drew.drew k) fun t171 =>
 GdP t163 true (fun k => Dv P true (bn .eql 3 false t169 t171) w.drew.drew k) fun t172 =>
 PickP t163 t172 (.bool false) fun t173 =>
 If t173
 (Bn P .add 3 true t4 (.int .i64 1) w.drew.drew fun t16 w =>
 k1 t3 t16 w)
 (Dv P true (Instr.sliceAt 34 t3 none (some t6) (some t6)) w.drew.drew.drew fun t177 =>
 Dv P false (Instr.loadAt 46 t5x8) w.drew.drew.drew fun t178 =>
 Dv P true (Instr.sliceAt 34 t3 (some t6) none none) w.drew.drew.drew fun t182 =>
 Bs P 34 1 [(0, t178)] w.drew.drew.drew fun t179 w =>
 Bt P .append #[34, 34] 34 #[t179, t182] w fun t183 w =>
 Bt P .append #[34, 34] 34 #[t177, t183] w fun t184 w =>
 Bn P .add 3 true t4 (.int .i64 1) w fun t16x1 w =>
 k1 t184 t16x1 w))))))
 (R (.returned t3) w))
theorem e_ref14_MadeFacts (h : s_ref14_MadeFacts Tryz.prog t0 w R) : Calls Tryz.prog 13 #[t0] w R :=
 en1 (.sq .z (.sq .z (.sq (.sq .z (.bk (.lp [3, 4] [5, 6, 7, 8, 9, 10, 11, 12, 13, 14, 15, 16, 17, 18, 19, 20, 21, 22, 23, 24, 25, 26, 27, 28, 29, 30, 31, 32, 33, 34, 35, 36, 37, 38, 39, 40, 41, 42, 43, 44, 45, 46, 47, 48, 49, 50, 51, 52, 53, 54, 55, 56, 57, 58, 59, 60, 61, 62, 63, 64, 65, 66, 67, 68, 69, 70, 71, 72, 73, 74, 75, 76, 77, 78, 79, 80, 81, 82, 83, 84, 85, 86, 87, 88, 89, 90, 91, 92, 93, 94, 95, 96, 97, 98, 99, 100, 101, 102, 103, 104, 105, 106, 107, 108, 109, 110, 111, 112, 113, 114, 115, 116, 117, 118, 119, 120, 121, 122, 123, 124, 125, 126, 127, 128, 129, 130, 131, 132, 133, 134, 135, 136, 137, 138, 139, 140, 141, 142, 143, 144, 145, 146, 147, 148, 149, 150, 151, 152, 153, 154, 155, 156, 157, 158, 159, 160, 161, 162, 163, 164, 165, 166, 167, 168, 169, 170, 171, 172, 173, 174, 175, 176, 177, 178, 179, 180, 181, 182, 183, 184] (.sq (.sq .z (.cd .z .z)) (.sq (.bk (.jn [5] [17, 18, 19, 20, 21, 22, 23, 24, 25, 26, 27, 28, 29, 30, 31, 32, 33, 34, 35, 36, 37, 38, 39, 40, 41, 42, 43, 44, 45, 46, 47, 48, 49, 50, 51, 52, 53, 54, 55, 56, 57, 58, 59, 60, 61, 62, 63, 64] (.dr (.pur true 0 (.pur true 1 (.pur true 2 (.pur true 3 (.pur false 4 (.pur true 6 (.pur true 7 (.pur true 8 (.pur true 9 (.pur false 10 (.pur true 11 (.pur true 13 (.pur true 14 (.pur true 15 (.pur true 16 (.pur false 17 (.pur true 19 (.pur true 20 (.pur true 21 (.pur true 22 (.pur false 23 (.pur true 24 (.pur true 26 (.pur true 27 (.pur true 28 (.pur true 29 (.pur false 30 (.pur true 31 (.pur true 34 (.pur true 35 (.pur true 36 (.pur true 37 (.pur false 38 (.pur true 40 (.pur true 41 (.pur true 42 (.pur true 43 (.pur false 44 (.pur true 45 (.alt (.eff 5 [10, 17, 23, 30, 38, 44] (.alt (.eff 12 [17, 23, 30, 38, 44] (.alt (.eff 18 [23, 30, 38, 44] (.alt (.eff 25 [30, 38, 44] (.alt (.eff 32 [38, 44] (.pur true 33 (.alt (.eff 39 [44] (.alt (.eff 46 [] (.pur true 47 (.eff 48 [4, 10, 17, 23, 30, 38, 44] (.eff 49 [] .done)))) (.eff 48 [4, 10, 17, 23, 30, 38, 44] (.eff 46 [] (.pur true 47 (.eff 49 [] .done)))))) (.eff 48 [4, 10, 17, 23, 30, 38, 44] (.eff 39 [44] (.eff 46 [] (.pur true 47 (.eff 49 [] .done)))))))) (.eff 48 [4, 10, 17, 23, 30, 38, 44] (.eff 32 [38, 44] (.pur true 33 (.eff 39 [44] (.eff 46 [] (.pur true 47 (.eff 49 [] .done))))))))) (.eff 48 [4, 10, 17, 23, 30, 38, 44] (.eff 25 [30, 38, 44] (.eff 32 [38, 44] (.pur true 33 (.eff 39 [44] (.eff 46 [] (.pur true 47 (.eff 49 [] .done)))))))))) (.eff 48 [4, 10, 17, 23, 30, 38, 44] (.eff 18 [23, 30, 38, 44] (.eff 25 [30, 38, 44] (.eff 32 [38, 44] (.pur true 33 (.eff 39 [44] (.eff 46 [] (.pur true 47 (.eff 49 [] .done))))))))))) (.eff 48 [4, 10, 17, 23, 30, 38, 44] (.eff 12 [17, 23, 30, 38, 44] (.eff 18 [23, 30, 38, 44] (.eff 25 [30, 38, 44] (.eff 32 [38, 44] (.pur true 33 (.eff 39 [44] (.eff 46 [] (.pur true 47 (.eff 49 [] .done)))))))))))) (.eff 48 [4, 10, 17, 23, 30, 38, 44] (.eff 5 [10, 17, 23, 30, 38, 44] (.eff 12 [17, 23, 30, 38, 44] (.eff 18 [23, 30, 38, 44] (.eff 25 [30, 38, 44] (.eff 32 [38, 44] (.pur true 33 (.eff 39 [44] (.eff 46 [] (.pur true 47 (.eff 49 [] .done)))))))))))))))))))))))))))))))))))))))))))))))))))) (.sq (.dr (.pur true 0 (.pur false 1 (.pur true 2 (.pur true 3 (.pur true 4 (.pur true 5 (.pur true 6 (.pur false 7 (.pur true 8 (.eff 9 [1] (.pur true 10 (.pur true 11 (.eff 12 [] .done)))))))))))))) (.jn [] [77, 78, 79, 80, 81, 82, 83, 84, 85, 86, 87, 88, 89, 90] (.sq .z (.cd .z .z)) (.sq (.dr (.pur true 0 (.pur false 1 (.pur true 2 (.pur true 3 (.pur true 4 (.pur true 5 (.pur false 6 (.pur true 7 (.pur true 9 (.pur true 10 (.pur true 11 (.pur true 12 (.pur false 13 (.pur true 14 (.eff 8 [1, 13] (.eff 15 [1] (.pur true 16 (.pur true 17 (.pur true 18 (.eff 19 [] .done))))))))))))))))))))) (.sq .z (.sq .z (.sq (.bk (.lp [6] [114, 115, 116, 117, 118, 119, 120, 121, 122, 123, 124, 125, 126, 127, 128, 129, 130, 131, 132, 133, 134, 135, 136, 137, 138, 139, 140, 141, 142, 143, 144, 145, 146, 147, 148, 149] (.sq (.sq (.dr (.pur true 0 (.pur true 1 (.pur true 2 (.pur true 3 (.pur true 4 (.pur true 5 (.pur true 6 (.pur true 7 (.pur true 8 (.pur false 9 (.pur true 10 (.pur false 11 (.pur true 12 (.pur true 13 (.pur true 14 (.pur true 15 (.pur true 16 (.pur true 17 (.pur false 18 (.pur true 19 (.pur false 20 (.pur true 21 (.pur true 22 (.pur true 23 (.pur true 24 (.pur true 25 (.pur true 26 (.pur false 27 (.pur true 28 (.pur false 29 (.pur true 30 (.pur true 31 (.pur true 32 (.pur true 33 .done))))))))))))))))))))))))))))))))))) (.cd .z .z)) (.bk .z)))) (.sq (.sq (.dr (.pur true 0 (.pur true 1 (.pur true 2 (.pur true 3 (.pur true 4 (.pur true 5 (.pur true 6 (.pur true 7 (.pur true 8 (.pur false 9 (.pur true 10 (.pur false 11 (.pur true 12 (.pur true 13 (.pur true 14 (.pur true 15 (.pur true 16 (.pur true 17 (.pur true 18 (.pur false 19 (.pur true 20 (.pur false 21 (.pur true 22 (.pur true 23 .done))))))))))))))))))))))))) (.cd .z .z)) (.dr (.pur true 0 (.pur true 1 (.pur true 2 (.pur true 3 (.pur false 4 (.pur true 6 (.pur true 7 (.pur true 8 (.eff 5 [] (.eff 9 [] (.eff 10 [] (.pur true 11 .done)))))))))))))))))))))) .z))))) (.sq .z .z)))) [t0] Tryz.func13 (by kernel_rfl) (by kernel_rfl) h
theorem n_ref14_MadeFacts : Enters Tryz.prog 13 := enters_of Tryz.func13 (by kernel_rfl) rfl
def s_law15_weights (P : Program) (t0 : Value) (w : World) (R : Ending → World → Prop) : Prop :=
 Cl P 29 #[] w (Pk R) fun t5 w =>
 Lp1 (.int .i64 0) w (fun t4 w k1 =>
 Bt P .len #[24] 3 #[t0] w fun t8 w =>
 Bn P .lss 3 false t4 t8 w fun t9 w =>
 Gd t9 true (fun k => k t4 w) w fun t11 w =>
 Gd t9 true (fun k => Bn P .lss 3 true t11 (.int .i64 8) w k) w fun t12 w =>
 Pick t9 t12 (.bool false) w fun t13 w =>
 If t13
 (Ia P 24 t0 t4 w fun t20 w =>
 Ld P 3 t20 w fun t21 w =>
 Cl P 10 #[t21, (.int .i64 9)] w (Pk R) fun t22 w =>
 Bn P .add 3 true (.int .i64 1) t22 w fun t23 w =>
 Ia P 24 t5 t4 w fun t24 w =>
 Sto P 3 t24 t23 w fun w =>
 Bn P .add 3 true t4 (.int .i64 1) w fun t15 w =>
 k1 t15 w)
 (R (.returned t5) w))
theorem e_law15_weights (h : s_law15_weights Tryz.prog t0 w R) : Calls Tryz.prog 14 #[t0] w R :=
 en1 (.sq .z (.sq .z (.sq (.sq .z (.bk (.lp [4] [6, 7, 8, 9, 10, 11, 12, 13, 14, 15, 16, 17, 18, 19, 20, 21, 22, 23, 24] (.sq (.sq .z (.cd .z .z)) (.sq (.bk .z) .z))))) (.sq .z .z)))) [t0] Tryz.func14 (by kernel_rfl) (by kernel_rfl) h
theorem n_law15_weights : Enters Tryz.prog 14 := enters_of Tryz.func14 (by kernel_rfl) rfl
def s_sample_Divisors (P : Program) (t0 t1 t2 : Value) (w : World) (R : Ending → World → Prop) : Prop :=
 Cl P 34 #[t0, t1, t2] w (Pk R) fun t14 w =>
 Ex t14 0 w fun t15 w =>
 Ex t14 1 w fun t16 w =>
 Al P 73 w fun t8 w =>
 Sto P 73 t8 t15 w fun w =>
 Bn P .neq 28 true t16 (.int .i64 0) w fun t18 w =>
 If t18
 (R (.returned (.tuple #[(.slice none 0 0), t16])) w)
 (Cl P 35 #[t0, (.func (.func 36) #[] #[t8])] w (Pk R) fun t22 w =>
 R (.returned (.tuple #[t22, (.int .i64 0)])) w)
theorem e_sample_Divisors (h : s_sample_Divisors Tryz.prog t0 t1 t2 w R) : Calls Tryz.prog 15 #[t0, t1, t2] w R :=
 en1 (.sq .z (.sq .z (.sq (.sq .z (.cd (.sq .z .z) .z)) (.sq .z .z)))) [t0, t1, t2] Tryz.func15 (by kernel_rfl) (by kernel_rfl) h
theorem n_sample_Divisors : Enters Tryz.prog 15 := enters_of Tryz.func15 (by kernel_rfl) rfl
def s_sample_Sample (P : Program) (t0 t1 t2 t3 : Value) (w : World) (R : Ending → World → Prop) : Prop :=
 Cl P 15 #[t1, t2, t3] w (Pk R) fun t17 w =>
 Ex t17 0 w fun t18 w =>
 Ex t17 1 w fun t19 w =>
 Al P 24 w fun t10 w =>
 Sto P 24 t10 t18 w fun w =>
 Bn P .neq 28 true t19 (.int .i64 0) w fun t21 w =>
 If t21
 (R (.returned (.tuple #[(.slice none 0 0), t19])) w)
 (Cl P 38 #[t0, t1, (.func (.func 37) #[] #[t10]), (.func (.func 37) #[] #[t10])] w (Pk R) fun t28 w =>
 Ex t28 0 w fun t29 w =>
 Ex t28 1 w fun t30 w =>
 R (.returned (.tuple #[t29, t30])) w)
theorem e_sample_Sample (h : s_sample_Sample Tryz.prog t0 t1 t2 t3 w R) : Calls Tryz.prog 16 #[t0, t1, t2, t3] w R :=
 en1 (.sq .z (.sq .z (.sq (.sq .z (.cd (.sq .z .z) .z)) (.sq .z (.sq .z .z))))) [t0, t1, t2, t3] Tryz.func16 (by kernel_rfl) (by kernel_rfl) h
theorem n_sample_Sample : Enters Tryz.prog 16 := enters_of Tryz.func16 (by kernel_rfl) rfl
def s_sample_Accepts (P : Program) (t0 : Value) (w : World) (R : Ending → World → Prop) : Prop :=
 Bt P .len #[38] 3 #[t0] w fun t6 w =>
 Lp1 (.int .i64 0) w (fun t7 w k1 =>
 Bn P .lss 3 false t7 t6 w fun t8 w =>
 If t8
 (Ia P 38 t0 t7 w fun t10 w =>
 Ld P 54 t10 w fun t11 w =>
 Al P 54 w fun t4 w =>
 Sto P 54 t4 t11 w fun w =>
 dFl P 54 t4 1 w.drew fun t12 =>
 dL P 50 t12 w.drew fun t13 =>
 Cl P 39 #[t13] w.drew (Pk R) fun t14 w =>
 Dv P true (bn .eql 3 true t14 (.int .i64 0)) w fun t15 =>
 GdP t15 false (fun k => k t7) fun t17 =>
 GdP t15 false (fun k => Dv P true (bn .gtr 3 true t17 (.int .i64 0)) w k) fun t18 =>
 GdP t15 false (fun k => k t18) fun t19 =>
 GdP t19 true (fun k => dFl P 54 t4 0 w k) fun t20 =>
 GdP t19 true (fun k => dFl P 46 t20 0 w k) fun t21 =>
 GdP t19 true (fun k => dL P 3 t21 w k) fun t22 =>
 GdP t19 true (fun k => k t0) fun t23 =>
 GdP t19 true (fun k => k t7) fun t24 =>
 GdP t19 true (fun k => Dv P true (bn .sub 3 true t24 (.int .i64 1)) w k) fun t25 =>
 GdP t19 true (fun k => dIx P 38 t23 t25 w k) fun t26 =>
 GdP t19 true (fun k => dFl P 54 t26 0 w k) fun t27 =>
 GdP t19 true (fun k => dFl P 46 t27 0 w k) fun t28 =>
 GdP t19 true (fun k => dL P 3 t28 w k) fun t29 =>
 GdP t19 true (fun k => Dv P true (bn .eql 3 false t22 t29) w k) fun t30 =>
 GdP t15 false (fun k => PickP t19 t30 (.bool false) k) fun t31 =>
 GdP t15 false (fun k => k t31) fun t32 =>
 GdP t32 true (fun k => dFl P 54 t4 1 w k) fun t33 =>
 GdP t32 true (fun k => dL P 50 t33 w k) fun t34 =>
 GdP t32 true (fun k => k t0) fun t35 =>
 GdP t32 true (fun k => k t7) fun t36 =>
 GdP t32 true (fun k => Dv P true (bn .sub 3 true t36 (.int .i64 1)) w k) fun t37 =>
 GdP t32 true (fun k => dIx P 38 t35 t37 w k) fun t38 =>
 GdP t32 true (fun k => dFl P 54 t38 1 w k) fun t39 =>
 GdP t32 true (fun k => dL P 50 t39 w k) fun t40 =>
 GdP t32 true (fun k => Dv P false (bn .neq 50 false t34 t40) w k) fun t41 =>
 GdP t15 false (fun k => PickP t32 t41 (.bool false) k) fun t42 =>
 PickP t15 (.bool true) t42 fun t43 =>
 If t43
 (R (.returned (.bool false)) w)
 (Bn P .add 3 true t7 (.int .i64 1) w fun t44 w =>
 k1 t44 w))
 (Cl P 41 #[t0] w (Pk R) fun t46 w =>
 Cl P 40 #[t46] w (Pk R) fun t47 w =>
 R (.returned t47) w))
theorem e_sample_Accepts (h : s_sample_Accepts Tryz.prog t0 w R) : Calls Tryz.prog 18 #[t0] w R :=
 en1 (.sq .z (.sq (.sq .z (.bk (.lp [7] [2, 3, 4, 8, 9, 10, 11, 12, 13, 14, 15, 16, 17, 18, 19, 20, 21, 22, 23, 24, 25, 26, 27, 28, 29, 30, 31, 32, 33, 34, 35, 36, 37, 38, 39, 40, 41, 42, 43, 44] (.sq .z (.sq (.cd .z .z) (.sq (.bk (.sq .z (.sq (.dr (.pur true 0 (.pur false 1 (.eff 2 [] (.pur true 3 (.pur true 4 (.pur true 5 (.pur true 6 (.pur true 7 (.pur true 8 (.pur true 9 (.pur false 10 (.pur true 11 (.pur true 12 (.pur true 13 (.pur true 14 (.pur true 15 (.pur true 16 (.pur false 17 (.pur true 18 (.pur true 19 (.pur true 20 (.pur true 21 (.pur false 22 (.pur true 23 (.pur true 24 (.pur true 25 (.pur true 26 (.pur true 27 (.pur false 28 (.pur false 29 (.pur true 30 (.pur true 31 .done))))))))))))))))))))))))))))))))) (.cd (.sq .z .z) .z)))) .z)))))) (.sq .z .z))) [t0] Tryz.func18 (by kernel_rfl) (by kernel_rfl) h
theorem n_sample_Accepts : Enters Tryz.prog 18 := enters_of Tryz.func18 (by kernel_rfl) rfl
def s_seed_Draw (P : Program) (t0 t1 t2 : Value) (w : World) (R : Ending → World → Prop) : Prop :=
 Bx P 3 t2 w fun t5 w =>
 Al P 3 w fun t6 w =>
 Al P 28 w fun t7 w =>
 Cl P 42 #[t0, t1] w (Pk R) fun t13 w =>
 Rf1 P t13 w (fun t14 w next lv =>
 Ld P 3 t5 w fun t17 w =>
 Cl P 43 #[t14, t17] w (fun _ _ => False) fun t18 w =>
 Ex t18 0 w fun t19 w =>
 Ex t18 1 w fun t20 w =>
 If t20
 (Sto P 3 t6 t19 w fun w =>
 Sto P 28 t7 (.int .i64 0) w fun w =>
 lv .ret w)
 (next w))
 (fun D1 w =>
 Sto P 3 t6 (.int .i64 0) w fun w =>
 Sto P 28 t7 (.int .i64 60) w fun w =>
 Tk P D1 w fun w =>
 Rc P 3 t6 w fun r0 =>
 Rc P 28 t7 w fun r1 =>
 R (.returned (.tuple #[r0, r1])) w)
 (fun D1 w =>
 Tk P D1 w fun w =>
 Rc P 3 t6 w fun r0 =>
 Rc P 28 t7 w fun r1 =>
 R (.returned (.tuple #[r0, r1])) w) []
theorem e_seed_Draw (h : s_seed_Draw Tryz.prog t0 t1 t2 w R) : Calls Tryz.prog 19 #[t0, t1, t2] w R :=
 en1 (.sq .z (.sq (.sq .z (.bk (.rf (.bk (.sq .z (.sq .z (.cd (.sq .z .z) .z)))) []))) (.sq .z .z))) [t0, t1, t2] Tryz.func19 (by kernel_rfl) (by kernel_rfl) h
theorem n_seed_Draw : Enters Tryz.prog 19 := enters_of Tryz.func19 (by kernel_rfl) rfl
def s_sample_Keep (P : Program) (t0 t1 t2 : Value) (w : World) (R : Ending → World → Prop) : Prop :=
 Cl P 31 #[t2, (.int .i64 1), (.int .i64 1000)] w (Pk R) fun t11 w =>
 Un P .not t11 w fun t12 w =>
 If t12
 (R (.returned (.tuple #[(.bool false), (.int .i64 150)])) w)
 (Cl P 19 #[t0, t1, t2] w (Pk R) fun t17 w =>
 Ex t17 0 w fun t18 w =>
 Ex t17 1 w fun t19 w =>
 Bn P .neq 28 true t19 (.int .i64 0) w fun t21 w =>
 If t21
 (R (.returned (.tuple #[(.bool false), (.int .i64 150)])) w)
 (Bn P .eql 3 true t18 (.int .i64 0) w fun t23 w =>
 R (.returned (.tuple #[t23, (.int .i64 0)])) w))
theorem e_sample_Keep (h : s_sample_Keep Tryz.prog t0 t1 t2 w R) : Calls Tryz.prog 20 #[t0, t1, t2] w R :=
 en1 (.sq .z (.sq (.sq .z (.cd (.sq .z .z) .z)) (.sq .z (.sq (.sq .z (.cd (.sq .z .z) .z)) (.sq .z .z))))) [t0, t1, t2] Tryz.func20 (by kernel_rfl) (by kernel_rfl) h
theorem n_sample_Keep : Enters Tryz.prog 20 := enters_of Tryz.func20 (by kernel_rfl) rfl
def s_rational_Of (P : Program) (t0 t1 : Value) (w : World) (R : Ending → World → Prop) : Prop :=
 Al P 50 w fun t4 w =>
 Cl P 45 #[t0] w (Pk R) fun t7 w =>
 Cl P 45 #[t1] w (Pk R) fun t9 w =>
 Cl P 44 #[t7, t9] w (Pk R) fun t10 w =>
 Ex t10 0 w fun t11 w =>
 Ex t10 1 w fun t12 w =>
 Sto P 50 t4 t11 w fun w =>
 Rc P 50 t4 w fun r0 =>
 R (.returned (.tuple #[r0, t12])) w
theorem e_rational_Of (h : s_rational_Of Tryz.prog t0 t1 w R) : Calls Tryz.prog 21 #[t0, t1] w R :=
 en1 (.sq .z (.sq .z .z)) [t0, t1] Tryz.func21 (by kernel_rfl) (by kernel_rfl) h
theorem n_rational_Of : Enters Tryz.prog 21 := enters_of Tryz.func21 (by kernel_rfl) rfl
def s_ref15_Traces (P : Program) (t0 t1 : Value) (w : World) (R : Ending → World → Prop) : Prop :=
 Lp4 (.slice none 0 0) (.slice none 0 0) (.slice none 0 0) (.int .i64 0) w (fun t7 t8 t9 t10 w k1 =>
 Bt P .len #[34] 3 #[t0] w fun t14 w =>
 Bn P .lss 3 false t10 t14 w fun t15 w =>
 If t15
 (Bt P .len #[24] 3 #[t7] w fun t19 w =>
 Jn4 (fun k2 =>
 Dv P true (bn .eql 3 true t19 (.int .i64 0)) w.drew fun t21 =>
 GdP t21 false (fun k => k t7) fun t23 =>
 GdP t21 false (fun k => k t19) fun t24 =>
 GdP t21 false (fun k => Dv P true (bn .sub 3 true t24 (.int .i64 1)) w.drew k) fun t25 =>
 GdP t21 false (fun k => dIx P 24 t23 t25 w.drew k) fun t26 =>
 GdP t21 false (fun k => dL P 3 t26 w.drew k) fun t27 =>
 GdP t21 false (fun k => k t0) fun t28 =>
 GdP t21 false (fun k => k t10) fun t29 =>
 GdP t21 false (fun k => dIx P 34 t28 t29 w.drew k) fun t30 =>
 GdP t21 false (fun k => dFl P 46 t30 0 w.drew k) fun t31 =>
 GdP t21 false (fun k => dL P 3 t31 w.drew k) fun t32 =>
 GdP t21 false (fun k => Dv P true (bn .neq 3 false t27 t32) w.drew k) fun t33 =>
 PickP t21 (.bool true) t33 fun t34 =>
 If t34
 (Ia P 34 t0 t10 w.drew fun t38 w =>
 Fa P 46 t38 0 w fun t39 w =>
 Ld P 3 t39 w fun t40 w =>
 Bs P 24 1 [(0, t40)] w fun t41 w =>
 Bt P .append #[24, 24] 24 #[t7, t41] w fun t42 w =>
 Bs P 24 1 [(0, (.int .i64 0))] w fun t44 w =>
 Bt P .append #[24, 24] 24 #[t8, t44] w fun t45 w =>
 Bs P 24 1 [(0, (.int .i64 0))] w fun t47 w =>
 Bt P .append #[24, 24] 24 #[t9, t47] w fun t48 w =>
 Bn P .add 3 true t19 (.int .i64 1) w fun t50 w =>
 k2 t42 t45 t48 t50 w)
 (k2 t7 t8 t9 t19 w.drew))
 (fun t7x1 t8x1 t9x1 t11 w =>
 Dv P true (bn .sub 3 true t11 (.int .i64 1)) w.drew fun t53 =>
 Dv P true (bn .sub 3 true t11 (.int .i64 1)) w.drew fun t56 =>
 dIx P 24 t8x1 t56 w.drew fun t57 =>
 dL P 3 t57 w.drew fun t58 =>
 dIx P 34 t0 t10 w.drew fun t61 =>
 dFl P 46 t61 9 w.drew fun t62 =>
 dL P 3 t62 w.drew fun t63 =>
 Dv P true (bn .add 3 false t58 t63) w.drew fun t64 =>
 dIx P 24 t8x1 t53 w.drew fun t65 =>
 Sto P 3 t65 t64 w.drew fun w =>
 Dv P true (bn .sub 3 true t11 (.int .i64 1)) w.drew fun t68 =>
 Dv P true (bn .sub 3 true t11 (.int .i64 1)) w.drew fun t71 =>
 dIx P 24 t9x1 t71 w.drew fun t72 =>
 dL P 3 t72 w.drew fun t73 =>
 dIx P 34 t0 t10 w.drew fun t77 =>
 dFl P 46 t77 2 w.drew fun t78 =>
 dL P 3 t78 w.drew fun t79 =>
 dIx P 24 t1 t79 w.drew fun t80 =>
 dL P 3 t80 w.drew fun t81 =>
 Dv P true (bV .max #[3, 3] 3 #[t73, t81]) w.drew fun t82 =>
 dIx P 24 t9x1 t68 w.drew fun t83 =>
 Sto P 3 t83 t82 w.drew fun w =>
 Bn P .add 3 true t10 (.int .i64 1) w fun t17 w =>
 k1 t7x1 t8x1 t9x1 t17 w))
 (R (.returned (.tuple #[t7, t8, t9])) w))
theorem e_ref15_Traces (h : s_ref15_Traces Tryz.prog t0 t1 w R) : Calls Tryz.prog 22 #[t0, t1] w R :=
 en1 (.sq .z (.sq .z (.sq .z (.sq .z (.sq (.sq .z (.bk (.lp [7, 8, 9, 10] [11, 12, 13, 14, 15, 16, 17, 18, 19, 20, 21, 22, 23, 24, 25, 26, 27, 28, 29, 30, 31, 32, 33, 34, 35, 36, 37, 38, 39, 40, 41, 42, 43, 44, 45, 46, 47, 48, 49, 50, 51, 52, 53, 54, 55, 56, 57, 58, 59, 60, 61, 62, 63, 64, 65, 66, 67, 68, 69, 70, 71, 72, 73, 74, 75, 76, 77, 78, 79, 80, 81, 82, 83] (.sq (.sq .z (.cd .z .z)) (.sq (.bk (.sq .z (.jn [7, 8, 9, 11] [20, 21, 22, 23, 24, 25, 26, 27, 28, 29, 30, 31, 32, 33, 34, 35, 36, 37, 38, 39, 40, 41, 42, 43, 44, 45, 46, 47, 48, 49, 50] (.sq (.dr (.pur true 0 (.pur true 1 (.pur true 2 (.pur true 3 (.pur true 4 (.pur true 5 (.pur true 6 (.pur false 7 (.pur true 8 (.pur true 9 (.pur true 10 (.pur true 11 (.pur false 12 (.pur true 13 (.pur true 14 .done)))))))))))))))) (.cd (.sq .z (.sq .z (.sq .z .z))) .z)) (.sq (.dr (.pur true 0 (.pur true 1 (.pur true 2 (.pur true 3 (.pur true 4 (.pur true 5 (.pur true 6 (.pur false 7 (.pur true 8 (.pur true 9 (.pur true 10 (.pur true 11 (.pur false 12 (.pur true 13 (.pur true 14 (.eff 15 [] .done))))))))))))))))) (.dr (.pur true 0 (.pur true 1 (.pur true 2 (.pur true 3 (.pur true 4 (.pur true 5 (.pur true 6 (.pur false 7 (.pur true 8 (.pur true 9 (.pur true 10 (.pur true 11 (.pur true 12 (.pur false 13 (.pur true 14 (.pur false 15 (.pur true 16 (.pur true 17 (.eff 18 [] .done)))))))))))))))))))))))) .z))))) (.sq .z .z)))))) [t0, t1] Tryz.func22 (by kernel_rfl) (by kernel_rfl) h
theorem n_ref15_Traces : Enters Tryz.prog 22 := enters_of Tryz.func22 (by kernel_rfl) rfl
def s_sample_Thin (P : Program) (t0 t1 t2 : Value) (w : World) (R : Ending → World → Prop) : Prop :=
 Bx P 38 t1 w fun t4 w =>
 Bx P 3 t2 w fun t5 w =>
 Ld P 38 t4 w fun t8 w =>
 Cl P 18 #[t8] w (Pk R) fun t9 w =>
 Un P .not t9 w fun t10 w =>
 Gd t10 false (fun k => Ld P 3 t5 w k) w fun t12 w =>
 Gd t10 false (fun k => Cl P 31 #[t12, (.int .i64 1), (.int .i64 1000)] w (Pk R) k) w fun t13 w =>
 Gd t10 false (fun k => Un P .not t13 w k) w fun t14 w =>
 Pick t10 (.bool true) t14 w fun t15 w =>
 If t15
 (R (.returned (.tuple #[(.slice none 0 0), (.int .i64 150)])) w)
 (Ld P 38 t4 w fun t17 w =>
 Cl P 41 #[t17] w (Pk R) fun t18 w =>
 Cl P 38 #[t0, t18, (.func (.func 47) #[] #[t5]), (.func (.func 48) #[] #[t4, t5])] w (Pk R) fun t21 w =>
 Ex t21 0 w fun t22 w =>
 Ex t21 1 w fun t23 w =>
 R (.returned (.tuple #[t22, t23])) w)
theorem e_sample_Thin (h : s_sample_Thin Tryz.prog t0 t1 t2 w R) : Calls Tryz.prog 24 #[t0, t1, t2] w R :=
 en1 (.sq .z (.sq (.sq .z (.cd (.sq .z .z) .z)) (.sq .z .z))) [t0, t1, t2] Tryz.func24 (by kernel_rfl) (by kernel_rfl) h
theorem n_sample_Thin : Enters Tryz.prog 24 := enters_of Tryz.func24 (by kernel_rfl) rfl
def s_ref15_Same (P : Program) (t0 t1 : Value) (w : World) (R : Ending → World → Prop) : Prop :=
 Bt P .len #[38] 3 #[t0] w fun t7 w =>
 Bt P .len #[38] 3 #[t1] w fun t9 w =>
 Bn P .neq 3 false t7 t9 w fun t10 w =>
 If t10
 (R (.returned (.bool false)) w)
 (Lp1 (.int .i64 0) w (fun t5 w k1 =>
 Bt P .len #[38] 3 #[t0] w fun t13 w =>
 Bn P .lss 3 false t5 t13 w fun t14 w =>
 If t14
 (dIx P 38 t0 t5 w.drew fun t19 =>
 dL P 54 t19 w.drew fun t20 =>
 dIx P 38 t1 t5 w.drew fun t23 =>
 dL P 54 t23 w.drew fun t24 =>
 Dv P false (bn .neq 54 false t20 t24) w.drew fun t25 =>
 If t25
 (R (.returned (.bool false)) w.drew)
 (Bn P .add 3 true t5 (.int .i64 1) w.drew fun t16 w =>
 k1 t16 w))
 (R (.returned (.bool true)) w)))
theorem e_ref15_Same (h : s_ref15_Same Tryz.prog t0 t1 w R) : Calls Tryz.prog 25 #[t0, t1] w R :=
 en1 (.sq .z (.sq (.sq .z (.cd (.sq .z .z) .z)) (.sq (.sq .z (.bk (.lp [5] [4, 11, 12, 13, 14, 15, 16, 17, 18, 19, 20, 21, 22, 23, 24, 25] (.sq (.sq .z (.cd .z .z)) (.sq (.bk (.sq (.dr (.pur true 0 (.pur true 1 (.pur true 2 (.pur false 3 (.pur true 4 (.pur true 5 (.pur true 6 (.pur false 7 (.pur false 8 .done)))))))))) (.cd (.sq .z .z) .z))) .z))))) (.sq .z .z)))) [t0, t1] Tryz.func25 (by kernel_rfl) (by kernel_rfl) h
theorem n_ref15_Same : Enters Tryz.prog 25 := enters_of Tryz.func25 (by kernel_rfl) rfl
def s_law15_ones (P : Program) (w : World) (R : Ending → World → Prop) : Prop :=
 Bs P 24 8 [(0, (.int .i64 1)), (1, (.int .i64 1)), (2, (.int .i64 1)), (3, (.int .i64 1)), (4, (.int .i64 1)), (5, (.int .i64 1)), (6, (.int .i64 1)), (7, (.int .i64 1))] w fun t1 w =>
 R (.returned t1) w
theorem e_law15_ones (h : s_law15_ones Tryz.prog  w R) : Calls Tryz.prog 29 #[] w R :=
 en1 (.sq .z (.sq .z .z)) [] Tryz.func29 (by kernel_rfl) (by kernel_rfl) h
theorem n_law15_ones : Enters Tryz.prog 29 := enters_of Tryz.func29 (by kernel_rfl) rfl
def s_sample_areIn (P : Program) (t0 t1 t2 : Value) (w : World) (R : Ending → World → Prop) : Prop :=
 Bx P 3 t1 w fun t4 w =>
 Bx P 3 t2 w fun t5 w =>
 Cl P 54 #[t0, (.func (.func 55) #[] #[t4, t5])] w (Pk R) fun t9 w =>
 Un P .not t9 w fun t10 w =>
 R (.returned t10) w
theorem e_sample_areIn (h : s_sample_areIn Tryz.prog t0 t1 t2 w R) : Calls Tryz.prog 30 #[t0, t1, t2] w R :=
 en1 (.sq .z (.sq .z .z)) [t0, t1, t2] Tryz.func30 (by kernel_rfl) (by kernel_rfl) h
theorem n_sample_areIn : Enters Tryz.prog 30 := enters_of Tryz.func30 (by kernel_rfl) rfl
def s_sample_isIn (P : Program) (t0 t1 t2 : Value) (w : World) (R : Ending → World → Prop) : Prop :=
 Bn P .leq 3 false t1 t0 w fun t9 w =>
 Gd t9 true (fun k => k t0 w) w fun t11 w =>
 Gd t9 true (fun k => k t2 w) w fun t12 w =>
 Gd t9 true (fun k => Bn P .leq 3 false t11 t12 w k) w fun t13 w =>
 Pick t9 t13 (.bool false) w fun t14 w =>
 R (.returned t14) w
theorem e_sample_isIn (h : s_sample_isIn Tryz.prog t0 t1 t2 w R) : Calls Tryz.prog 31 #[t0, t1, t2] w R :=
 en1 (.sq .z (.sq .z .z)) [t0, t1, t2] Tryz.func31 (by kernel_rfl) (by kernel_rfl) h
theorem n_sample_isIn : Enters Tryz.prog 31 := enters_of Tryz.func31 (by kernel_rfl) rfl
def s_sample_Allocate_1 (P : Program) (t0 t1 t2 t3 t4 t5 : Value) (w : World) (R : Ending → World → Prop) : Prop :=
 Ld P 3 t0 w fun t8 w =>
 Sto P 3 t1 t8 w fun w =>
 Sto P 3 t2 (.int .i64 0) w fun w =>
 Ld P 24 t3 w fun t9 w =>
 Bt P .len #[24] 3 #[t9] w fun t10 w =>
 Lp1 (.int .i64 0) w (fun t11 w k1 =>
 Bn P .lss 3 false t11 t10 w fun t12 w =>
 If t12
 (Ia P 24 t9 t11 w fun t14 w =>
 Ld P 3 t14 w fun t15 w =>
 Ld P 71 t4 w fun t16 w =>
 Ia P 71 t16 t11 w fun t18 w =>
 Ld P 4 t18 w fun t19 w =>
 If t19
 (Ld P 3 t1 w fun t20 w =>
 Bn P .sub 3 false t20 t15 w fun t22 w =>
 Sto P 3 t1 t22 w fun w =>
 Bn P .add 3 true t11 (.int .i64 1) w fun t31 w =>
 k1 t31 w)
 (dL P 3 t2 w.drew fun t23 =>
 dL P 24 t5 w.drew fun t25 =>
 dIx P 24 t25 t11 w.drew fun t27 =>
 dL P 3 t27 w.drew fun t28 =>
 Dv P true (bn .mul 3 false t15 t28) w.drew fun t29 =>
 Dv P true (bn .add 3 false t23 t29) w.drew fun t30 =>
 Sto P 3 t2 t30 w.drew fun w =>
 Bn P .add 3 true t11 (.int .i64 1) w fun t31x1 w =>
 k1 t31x1 w))
 (R (.returned (.tuple #[])) w))
theorem e_sample_Allocate_1 (h : s_sample_Allocate_1 Tryz.prog t0 t1 t2 t3 t4 t5 w R) : Calls Tryz.prog 32 #[t0, t1, t2, t3, t4, t5] w R :=
 en1 (.sq .z (.sq .z (.bk (.lp [11] [6, 7, 12, 13, 14, 15, 16, 17, 18, 19, 20, 21, 22, 23, 24, 25, 26, 27, 28, 29, 30, 31] (.sq .z (.sq (.cd .z .z) (.sq (.bk (.sq .z (.sq .z (.cd .z (.dr (.pur false 0 (.pur true 1 (.pur false 2 (.pur true 3 (.pur true 4 (.pur false 5 (.pur true 6 (.pur true 7 (.eff 8 [] .done)))))))))))))) .z))))))) [t0, t1, t2, t3, t4, t5] Tryz.func32 (by kernel_rfl) (by kernel_rfl) h
theorem n_sample_Allocate_1 : Enters Tryz.prog 32 := enters_of Tryz.func32 (by kernel_rfl) rfl
def s_ref14_pick (P : Program) (t0 t1 : Value) (w : World) (R : Ending → World → Prop) : Prop :=
 Bn P .lss 3 true t0 (.int .i64 0) w fun t6 w =>
 If t6
 (Bn P .add 3 true t0 (.int .i64 1) w fun t8 w =>
 Un P .neg t8 w fun t9 w =>
 Bn P .rem 3 false t9 t1 w fun t12 w =>
 R (.returned t12) w)
 (Bn P .rem 3 false t0 t1 w fun t12x1 w =>
 R (.returned t12x1) w)
theorem e_ref14_pick (h : s_ref14_pick Tryz.prog t0 t1 w R) : Calls Tryz.prog 33 #[t0, t1] w R :=
 en1 (.sq .z (.sq (.sq .z (.cd .z .z)) (.sq .z .z))) [t0, t1] Tryz.func33 (by kernel_rfl) (by kernel_rfl) h
theorem n_ref14_pick : Enters Tryz.prog 33 := enters_of Tryz.func33 (by kernel_rfl) rfl
def s_sample_divisors (P : Program) (t0 t1 t2 : Value) (w : World) (R : Ending → World → Prop) : Prop :=
 Bx P 24 t2 w fun t5 w =>
 Cl P 40 #[t0] w (Pk R) fun t22 w =>
 Un P .not t22 w fun t23 w =>
 Gd t23 false (fun k => Ld P 24 t5 w k) w fun t25 w =>
 Gd t23 false (fun k => Bt P .len #[24] 3 #[t25] w k) w fun t26 w =>
 Gd t23 false (fun k => Bn P .neq 3 true t26 (.int .i64 8) w k) w fun t27 w =>
 Pick t23 (.bool true) t27 w fun t28 w =>
 Gd t28 false (fun k => Ld P 24 t5 w k) w fun t30 w =>
 Gd t28 false (fun k => Cl P 30 #[t30, (.int .i64 1), (.int .i64 1000)] w (Pk R) k) w fun t31 w =>
 Gd t28 false (fun k => Un P .not t31 w k) w fun t32 w =>
 Pick t28 (.bool true) t32 w fun t33 w =>
 If t33
 (R (.returned (.tuple #[(.map none), (.int .i64 150)])) w)
 (Al P 24 w fun t8 w =>
 Al P 24 w fun t9 w =>
 Al P 24 w fun t10 w =>
 Cl P 56 #[t0] w (Pk R) fun t35 w =>
 Rf1 P t35 w (fun t36 w next lv =>
 Bt P .len #[34] 3 #[t36] w fun t38 w =>
 Lp3 (.int .i64 0) (.int .i64 0) (.int .i64 0) w (fun t12 t13 t39 w k1 =>
 Bn P .lss 3 false t39 t38 w fun t40 w =>
 If t40
 (Ia P 34 t36 t39 w fun t41 w =>
 Ld P 46 t41 w fun t42 w =>
 Al P 46 w fun t15 w =>
 Sto P 46 t15 t42 w fun w =>
 dFl P 46 t15 9 w.drew fun t44 =>
 dL P 3 t44 w.drew fun t45 =>
 Dv P true (bn .add 3 false t12 t45) w.drew fun t46 =>
 dL P 24 t5 w.drew fun t48 =>
 dFl P 46 t15 2 w.drew fun t49 =>
 dL P 3 t49 w.drew fun t50 =>
 dIx P 24 t48 t50 w.drew fun t51 =>
 dL P 3 t51 w.drew fun t52 =>
 Dv P true (bV .max #[3, 3] 3 #[t13, t52]) w.drew fun t53 =>
 Bn P .add 3 true t39 (.int .i64 1) w.drew fun t54 w =>
 k1 t46 t53 t54 w)
 (dL P 24 t8 w.drew fun t55 =>
 Dv P true (Instr.indexAt 34 t36 (.int .i64 0)) w.drew fun t57 =>
 dFl P 46 t57 0 w.drew fun t58 =>
 dL P 3 t58 w.drew fun t59 =>
 dL P 24 t9 w.drew fun t62 =>
 dL P 24 t10 w.drew fun t66 =>
 (Bs P 24 1 [(0, t59)] w.drew fun t60 w =>
 kLd P 24 t8 t55 w <|
 kLd P 24 t9 t62 w <|
 kLd P 24 t10 t66 w <|
 (Bt P .append #[24, 24] 24 #[t55, t60] w fun t61 w =>
 kLd P 24 t9 t62 w <|
 kLd P 24 t10 t66 w <|
 (Bs P 24 1 [(0, t12)] w fun t64 w =>
 kLd P 24 t8 t55 w <|
 kLd P 3 t58 t59 w <|
 kLd P 24 t9 t62 w <|
 kLd P 24 t10 t66 w <|
 (Bt P .append #[24, 24] 24 #[t62, t64] w fun t65 w =>
 kLd P 24 t10 t66 w <|
 Bs P 24 1 [(0, t13)] w fun t68 w =>
 kLd P 24 t8 t55 w <|
 kLd P 3 t58 t59 w <|
 kLd P 24 t9 t62 w <|
 kLd P 24 t10 t66 w <|
 Bt P .append #[24, 24] 24 #[t66, t68] w fun t69 w =>
 Sto P 24 t8 t61 w fun w =>
 Sto P 24 t9 t65 w fun w =>
 Sto P 24 t10 t69 w fun w =>
 next w) ∧
 (Bs P 24 1 [(0, t13)] w fun t68x1 w =>
 kLd P 24 t8 t55 w <|
 kLd P 3 t58 t59 w <|
 kLd P 24 t9 t62 w <|
 kLd P 24 t10 t66 w <|
 Bt P .append #[24, 24] 24 #[t62, t64] w fun t65x1 w =>
 kLd P 24 t10 t66 w <|
 Bt P .append #[24, 24] 24 #[t66, t68x1] w fun t69x1 w =>
 Sto P 24 t8 t61 w fun w =>
 Sto P 24 t9 t65x1 w fun w =>
 Sto P 24 t10 t69x1 w fun w =>
 next w)) ∧
 (Bs P 24 1 [(0, t13)] w fun t68x2 w =>
 kLd P 24 t8 t55 w <|
 kLd P 3 t58 t59 w <|
 kLd P 24 t9 t62 w <|
 kLd P 24 t10 t66 w <|
 Bs P 24 1 [(0, t12)] w fun t64x1 w =>
 kLd P 24 t8 t55 w <|
 kLd P 3 t58 t59 w <|
 kLd P 24 t9 t62 w <|
 kLd P 24 t10 t66 w <|
 Bt P .append #[24, 24] 24 #[t62, t64x1] w fun t65x2 w =>
 kLd P 24 t10 t66 w <|
 Bt P .append #[24, 24] 24 #[t66, t68x2] w fun t69x2 w =>
 Sto P 24 t8 t61 w fun w =>
 Sto P 24 t9 t65x2 w fun w =>
 Sto P 24 t10 t69x2 w fun w =>
 next w)) ∧
 ((Bs P 24 1 [(0, t12)] w fun t64x2 w =>
 kLd P 24 t8 t55 w <|
 kLd P 3 t58 t59 w <|
 kLd P 24 t9 t62 w <|
 kLd P 24 t10 t66 w <|
 (Bt P .append #[24, 24] 24 #[t55, t60] w fun t61x1 w =>
 kLd P 24 t9 t62 w <|
 kLd P 24 t10 t66 w <|
 (Bt P .append #[24, 24] 24 #[t62, t64x2] w fun t65x3 w =>
 kLd P 24 t10 t66 w <|
 Bs P 24 1 [(0, t13)] w fun t68x3 w =>
 kLd P 24 t8 t55 w <|
 kLd P 3 t58 t59 w <|
 kLd P 24 t9 t62 w <|
 kLd P 24 t10 t66 w <|
 Bt P .append #[24, 24] 24 #[t66, t68x3] w fun t69x3 w =>
 Sto P 24 t8 t61x1 w fun w =>
 Sto P 24 t9 t65x3 w fun w =>
 Sto P 24 t10 t69x3 w fun w =>
 next w) ∧
 (Bs P 24 1 [(0, t13)] w fun t68x4 w =>
 kLd P 24 t8 t55 w <|
 kLd P 3 t58 t59 w <|
 kLd P 24 t9 t62 w <|
 kLd P 24 t10 t66 w <|
 Bt P .append #[24, 24] 24 #[t62, t64x2] w fun t65x4 w =>
 kLd P 24 t10 t66 w <|
 Bt P .append #[24, 24] 24 #[t66, t68x4] w fun t69x4 w =>
 Sto P 24 t8 t61x1 w fun w =>
 Sto P 24 t9 t65x4 w fun w =>
 Sto P 24 t10 t69x4 w fun w =>
 next w)) ∧
 (Bs P 24 1 [(0, t13)] w fun t68x5 w =>
 kLd P 24 t8 t55 w <|
 kLd P 3 t58 t59 w <|
 kLd P 24 t9 t62 w <|
 kLd P 24 t10 t66 w <|
 Bt P .append #[24, 24] 24 #[t55, t60] w fun t61x2 w =>
 kLd P 24 t9 t62 w <|
 kLd P 24 t10 t66 w <|
 Bt P .append #[24, 24] 24 #[t62, t64x2] w fun t65x5 w =>
 kLd P 24 t10 t66 w <|
 Bt P .append #[24, 24] 24 #[t66, t68x5] w fun t69x5 w =>
 Sto P 24 t8 t61x2 w fun w =>
 Sto P 24 t9 t65x5 w fun w =>
 Sto P 24 t10 t69x5 w fun w =>
 next w)) ∧
 (Bs P 24 1 [(0, t13)] w fun t68x6 w =>
 kLd P 24 t8 t55 w <|
 kLd P 3 t58 t59 w <|
 kLd P 24 t9 t62 w <|
 kLd P 24 t10 t66 w <|
 (Bt P .append #[24, 24] 24 #[t55, t60] w fun t61x3 w =>
 kLd P 24 t9 t62 w <|
 kLd P 24 t10 t66 w <|
 Bs P 24 1 [(0, t12)] w fun t64x3 w =>
 kLd P 24 t8 t55 w <|
 kLd P 3 t58 t59 w <|
 kLd P 24 t9 t62 w <|
 kLd P 24 t10 t66 w <|
 Bt P .append #[24, 24] 24 #[t62, t64x3] w fun t65x6 w =>
 kLd P 24 t10 t66 w <|
 Bt P .append #[24, 24] 24 #[t66, t68x6] w fun t69x6 w =>
 Sto P 24 t8 t61x3 w fun w =>
 Sto P 24 t9 t65x6 w fun w =>
 Sto P 24 t10 t69x6 w fun w =>
 next w) ∧
 (Bs P 24 1 [(0, t12)] w fun t64x4 w =>
 kLd P 24 t8 t55 w <|
 kLd P 3 t58 t59 w <|
 kLd P 24 t9 t62 w <|
 kLd P 24 t10 t66 w <|
 Bt P .append #[24, 24] 24 #[t55, t60] w fun t61x4 w =>
 kLd P 24 t9 t62 w <|
 kLd P 24 t10 t66 w <|
 Bt P .append #[24, 24] 24 #[t62, t64x4] w fun t65x7 w =>
 kLd P 24 t10 t66 w <|
 Bt P .append #[24, 24] 24 #[t66, t68x6] w fun t69x7 w =>
 Sto P 24 t8 t61x4 w fun w =>
 Sto P 24 t9 t65x7 w fun w =>
 Sto P 24 t10 t69x7 w fun w =>
 next w)))) ∧
 ((Bs P 24 1 [(0, t12)] w.drew fun t64x5 w =>
 kLd P 24 t8 t55 w <|
 kLd P 3 t58 t59 w <|
 kLd P 24 t9 t62 w <|
 kLd P 24 t10 t66 w <|
 (Bs P 24 1 [(0, t59)] w fun t60x1 w =>
 kLd P 24 t8 t55 w <|
 kLd P 24 t9 t62 w <|
 kLd P 24 t10 t66 w <|
 (Bt P .append #[24, 24] 24 #[t55, t60x1] w fun t61x5 w =>
 kLd P 24 t9 t62 w <|
 kLd P 24 t10 t66 w <|
 (Bt P .append #[24, 24] 24 #[t62, t64x5] w fun t65x8 w =>
 kLd P 24 t10 t66 w <|
 Bs P 24 1 [(0, t13)] w fun t68x7 w =>
 kLd P 24 t8 t55 w <|
 kLd P 3 t58 t59 w <|
 kLd P 24 t9 t62 w <|
 kLd P 24 t10 t66 w <|
 Bt P .append #[24, 24] 24 #[t66, t68x7] w fun t69x8 w =>
 Sto P 24 t8 t61x5 w fun w =>
 Sto P 24 t9 t65x8 w fun w =>
 Sto P 24 t10 t69x8 w fun w =>
 next w) ∧
 (Bs P 24 1 [(0, t13)] w fun t68x8 w =>
 kLd P 24 t8 t55 w <|
 kLd P 3 t58 t59 w <|
 kLd P 24 t9 t62 w <|
 kLd P 24 t10 t66 w <|
 Bt P .append #[24, 24] 24 #[t62, t64x5] w fun t65x9 w =>
 kLd P 24 t10 t66 w <|
 Bt P .append #[24, 24] 24 #[t66, t68x8] w fun t69x9 w =>
 Sto P 24 t8 t61x5 w fun w =>
 Sto P 24 t9 t65x9 w fun w =>
 Sto P 24 t10 t69x9 w fun w =>
 next w)) ∧
 (Bs P 24 1 [(0, t13)] w fun t68x9 w =>
 kLd P 24 t8 t55 w <|
 kLd P 3 t58 t59 w <|
 kLd P 24 t9 t62 w <|
 kLd P 24 t10 t66 w <|
 Bt P .append #[24, 24] 24 #[t55, t60x1] w fun t61x6 w =>
 kLd P 24 t9 t62 w <|
 kLd P 24 t10 t66 w <|
 Bt P .append #[24, 24] 24 #[t62, t64x5] w fun t65x10 w =>
 kLd P 24 t10 t66 w <|
 Bt P .append #[24, 24] 24 #[t66, t68x9] w fun t69x10 w =>
 Sto P 24 t8 t61x6 w fun w =>
 Sto P 24 t9 t65x10 w fun w =>
 Sto P 24 t10 t69x10 w fun w =>
 next w)) ∧
 (Bs P 24 1 [(0, t13)] w fun t68x10 w =>
 kLd P 24 t8 t55 w <|
 kLd P 3 t58 t59 w <|
 kLd P 24 t9 t62 w <|
 kLd P 24 t10 t66 w <|
 Bs P 24 1 [(0, t59)] w fun t60x2 w =>
 kLd P 24 t8 t55 w <|
 kLd P 24 t9 t62 w <|
 kLd P 24 t10 t66 w <|
 Bt P .append #[24, 24] 24 #[t55, t60x2] w fun t61x7 w =>
 kLd P 24 t9 t62 w <|
 kLd P 24 t10 t66 w <|
 Bt P .append #[24, 24] 24 #[t62, t64x5] w fun t65x11 w =>
 kLd P 24 t10 t66 w <|
 Bt P .append #[24, 24] 24 #[t66, t68x10] w fun t69x11 w =>
 Sto P 24 t8 t61x7 w fun w =>
 Sto P 24 t9 t65x11 w fun w =>
 Sto P 24 t10 t69x11 w fun w =>
 next w)) ∧
 (Bs P 24 1 [(0, t13)] w.drew fun t68x11 w =>
 kLd P 24 t8 t55 w <|
 kLd P 3 t58 t59 w <|
 kLd P 24 t9 t62 w <|
 kLd P 24 t10 t66 w <|
 (Bs P 24 1 [(0, t59)] w fun t60x3 w =>
 kLd P 24 t8 t55 w <|
 kLd P 24 t9 t62 w <|
 kLd P 24 t10 t66 w <|
 (Bt P .append #[24, 24] 24 #[t55, t60x3] w fun t61x8 w =>
 kLd P 24 t9 t62 w <|
 kLd P 24 t10 t66 w <|
 Bs P 24 1 [(0, t12)] w fun t64x6 w =>
 kLd P 24 t8 t55 w <|
 kLd P 3 t58 t59 w <|
 kLd P 24 t9 t62 w <|
 kLd P 24 t10 t66 w <|
 Bt P .append #[24, 24] 24 #[t62, t64x6] w fun t65x12 w =>
 kLd P 24 t10 t66 w <|
 Bt P .append #[24, 24] 24 #[t66, t68x11] w fun t69x12 w =>
 Sto P 24 t8 t61x8 w fun w =>
 Sto P 24 t9 t65x12 w fun w =>
 Sto P 24 t10 t69x12 w fun w =>
 next w) ∧
 (Bs P 24 1 [(0, t12)] w fun t64x7 w =>
 kLd P 24 t8 t55 w <|
 kLd P 3 t58 t59 w <|
 kLd P 24 t9 t62 w <|
 kLd P 24 t10 t66 w <|
 Bt P .append #[24, 24] 24 #[t55, t60x3] w fun t61x9 w =>
 kLd P 24 t9 t62 w <|
 kLd P 24 t10 t66 w <|
 Bt P .append #[24, 24] 24 #[t62, t64x7] w fun t65x13 w =>
 kLd P 24 t10 t66 w <|
 Bt P .append #[24, 24] 24 #[t66, t68x11] w fun t69x13 w =>
 Sto P 24 t8 t61x9 w fun w =>
 Sto P 24 t9 t65x13 w fun w =>
 Sto P 24 t10 t69x13 w fun w =>
 next w)) ∧
 (Bs P 24 1 [(0, t12)] w fun t64x8 w =>
 kLd P 24 t8 t55 w <|
 kLd P 3 t58 t59 w <|
 kLd P 24 t9 t62 w <|
 kLd P 24 t10 t66 w <|
 Bs P 24 1 [(0, t59)] w fun t60x4 w =>
 kLd P 24 t8 t55 w <|
 kLd P 24 t9 t62 w <|
 kLd P 24 t10 t66 w <|
 Bt P .append #[24, 24] 24 #[t55, t60x4] w fun t61x10 w =>
 kLd P 24 t9 t62 w <|
 kLd P 24 t10 t66 w <|
 Bt P .append #[24, 24] 24 #[t62, t64x8] w fun t65x14 w =>
 kLd P 24 t10 t66 w <|
 Bt P .append #[24, 24] 24 #[t66, t68x11] w fun t69x14 w =>
 Sto P 24 t8 t61x10 w fun w =>
 Sto P 24 t9 t65x14 w fun w =>
 Sto P 24 t10 t69x14 w fun w =>
 next w))))))
 (fun D1 w =>
 Ld P 24 t9 w fun t72 w =>
 Ld P 24 t10 w fun t73 w =>
 Cl P 11 #[t1, t72, t73] w (fun c w => Tk P D1 w fun w => R (.panicked c) w) fun t74 w =>
 Ex t74 0 w fun t75 w =>
 Ex t74 1 w fun t76 w =>
 Bn P .neq 28 true t76 (.int .i64 0) w fun t78 w =>
 If t78
 (Tk P D1 w fun w =>
 R (.returned (.tuple #[(.map none), t76])) w)
 (Mm P 73 none w fun t80 w =>
 Ld P 24 t8 w fun t81 w =>
 Bt P .len #[24] 3 #[t81] w fun t82 w =>
 Lp1 (.int .i64 0) w (fun t83 w k2 =>
 Bn P .lss 3 false t83 t82 w fun t84 w =>
 If t84
 (Ia P 24 t81 t83 w fun t86 w =>
 Ld P 3 t86 w fun t87 w =>
 Ia P 24 t75 t83 w fun t92 w =>
 Ld P 3 t92 w fun t93 w =>
 Mu P 73 t80 t87 t93 w fun w =>
 Bn P .add 3 true t83 (.int .i64 1) w fun t94 w =>
 k2 t94 w)
 (Tk P D1 w fun w =>
 R (.returned (.tuple #[t80, (.int .i64 0)])) w))))
 (fun D1 w =>
 Tk P D1 w fun w =>
 R (.returned (.tuple #[(.map none), (.int .i64 0)])) w) [])
theorem e_sample_divisors (h : s_sample_divisors Tryz.prog t0 t1 t2 w R) : Calls Tryz.prog 34 #[t0, t1, t2] w R :=
 en1 (.sq .z (.sq (.sq .z (.cd (.sq .z .z) .z)) (.sq .z (.sq (.sq .z (.bk (.rf (.bk (.sq .z (.sq (.sq .z (.bk (.lp [12, 13, 39] [15, 40, 41, 42, 43, 44, 45, 46, 47, 48, 49, 50, 51, 52, 53, 54] (.sq .z (.sq (.cd .z .z) (.sq (.bk (.sq .z (.dr (.pur true 0 (.pur true 1 (.pur false 2 (.pur true 3 (.pur true 4 (.pur false 5 (.pur true 6 (.pur false 7 (.pur true 8 (.pur false 9 (.pur true 10 (.pur true 11 (.pur true 12 .done)))))))))))))))) .z)))))) (.dr (.pur false 0 (.pur true 1 (.pur true 2 (.pur true 3 (.pur false 4 (.pur false 7 (.pur true 8 (.pur false 11 (.pur true 12 (.alt (.eff 5 [0, 7, 11] (.alt (.eff 6 [7, 11] (.alt (.eff 9 [0, 4, 7, 11] (.alt (.eff 10 [11] (.eff 13 [0, 4, 7, 11] (.eff 14 [] (.eff 15 [] (.eff 16 [] (.eff 17 [] .done)))))) (.eff 13 [0, 4, 7, 11] (.eff 10 [11] (.eff 14 [] (.eff 15 [] (.eff 16 [] (.eff 17 [] .done)))))))) (.eff 13 [0, 4, 7, 11] (.eff 9 [0, 4, 7, 11] (.eff 10 [11] (.eff 14 [] (.eff 15 [] (.eff 16 [] (.eff 17 [] .done))))))))) (.alt (.eff 9 [0, 4, 7, 11] (.alt (.eff 6 [7, 11] (.alt (.eff 10 [11] (.eff 13 [0, 4, 7, 11] (.eff 14 [] (.eff 15 [] (.eff 16 [] (.eff 17 [] .done)))))) (.eff 13 [0, 4, 7, 11] (.eff 10 [11] (.eff 14 [] (.eff 15 [] (.eff 16 [] (.eff 17 [] .done)))))))) (.eff 13 [0, 4, 7, 11] (.eff 6 [7, 11] (.eff 10 [11] (.eff 14 [] (.eff 15 [] (.eff 16 [] (.eff 17 [] .done))))))))) (.eff 13 [0, 4, 7, 11] (.alt (.eff 6 [7, 11] (.eff 9 [0, 4, 7, 11] (.eff 10 [11] (.eff 14 [] (.eff 15 [] (.eff 16 [] (.eff 17 [] .done))))))) (.eff 9 [0, 4, 7, 11] (.eff 6 [7, 11] (.eff 10 [11] (.eff 14 [] (.eff 15 [] (.eff 16 [] (.eff 17 [] .done)))))))))))) (.alt (.eff 9 [0, 4, 7, 11] (.alt (.eff 5 [0, 7, 11] (.alt (.eff 6 [7, 11] (.alt (.eff 10 [11] (.eff 13 [0, 4, 7, 11] (.eff 14 [] (.eff 15 [] (.eff 16 [] (.eff 17 [] .done)))))) (.eff 13 [0, 4, 7, 11] (.eff 10 [11] (.eff 14 [] (.eff 15 [] (.eff 16 [] (.eff 17 [] .done)))))))) (.eff 13 [0, 4, 7, 11] (.eff 6 [7, 11] (.eff 10 [11] (.eff 14 [] (.eff 15 [] (.eff 16 [] (.eff 17 [] .done))))))))) (.eff 13 [0, 4, 7, 11] (.eff 5 [0, 7, 11] (.eff 6 [7, 11] (.eff 10 [11] (.eff 14 [] (.eff 15 [] (.eff 16 [] (.eff 17 [] .done)))))))))) (.eff 13 [0, 4, 7, 11] (.alt (.eff 5 [0, 7, 11] (.alt (.eff 6 [7, 11] (.eff 9 [0, 4, 7, 11] (.eff 10 [11] (.eff 14 [] (.eff 15 [] (.eff 16 [] (.eff 17 [] .done))))))) (.eff 9 [0, 4, 7, 11] (.eff 6 [7, 11] (.eff 10 [11] (.eff 14 [] (.eff 15 [] (.eff 16 [] (.eff 17 [] .done))))))))) (.eff 9 [0, 4, 7, 11] (.eff 5 [0, 7, 11] (.eff 6 [7, 11] (.eff 10 [11] (.eff 14 [] (.eff 15 [] (.eff 16 [] (.eff 17 [] .done))))))))))))))))))))))))) []))) (.sq .z (.sq (.sq .z (.cd (.sq .z .z) .z)) (.sq .z (.sq (.sq .z (.bk (.lp [83] [19, 20, 84, 85, 86, 87, 88, 89, 90, 91, 92, 93, 94] (.sq .z (.sq (.cd .z .z) (.sq (.bk (.sq .z .z)) .z)))))) (.sq .z .z))))))))) [t0, t1, t2] Tryz.func34 (by kernel_rfl) (by kernel_rfl) h
theorem n_sample_divisors : Enters Tryz.prog 34 := enters_of Tryz.func34 (by kernel_rfl) rfl
def s_sample_filtered_api_Fact_int (P : Program) (t0 t1 : Value) (w : World) (R : Ending → World → Prop) : Prop :=
 Bt P .len #[34] 3 #[t0] w fun t10 w =>
 Lp2 (.slice none 0 0) (.int .i64 0) w (fun t4 t11 w k1 =>
 Bn P .lss 3 false t11 t10 w fun t12 w =>
 If t12
 (Ia P 34 t0 t11 w fun t14 w =>
 Ld P 46 t14 w fun t15 w =>
 Al P 46 w fun t6 w =>
 Sto P 46 t6 t15 w fun w =>
 Ld P 46 t6 w fun t19 w =>
 Cw P t1 #[t11, t19] w (Pk R) fun t20 w =>
 Ex t20 0 w fun t21 w =>
 Ex t20 1 w fun t22 w =>
 If t22
 (Bs P 24 1 [(0, t21)] w fun t26 w =>
 Bt P .append #[24, 24] 24 #[t4, t26] w fun t27 w =>
 Bn P .add 3 true t11 (.int .i64 1) w fun t28 w =>
 k1 t27 t28 w)
 (Bn P .add 3 true t11 (.int .i64 1) w fun t28x1 w =>
 k1 t4 t28x1 w))
 (R (.returned t4) w))
theorem e_sample_filtered_api_Fact_int (h : s_sample_filtered_api_Fact_int Tryz.prog t0 t1 w R) : Calls Tryz.prog 35 #[t0, t1] w R :=
 en1 (.sq .z (.sq (.sq .z (.bk (.lp [4, 11] [5, 6, 7, 8, 12, 13, 14, 15, 16, 17, 18, 19, 20, 21, 22, 23, 24, 25, 26, 27, 28] (.sq .z (.sq (.cd .z .z) (.sq (.bk (.sq .z (.sq .z (.sq .z (.cd .z .z))))) .z)))))) (.sq .z .z))) [t0, t1] Tryz.func35 (by kernel_rfl) (by kernel_rfl) h
theorem n_sample_filtered_api_Fact_int : Enters Tryz.prog 35 := enters_of Tryz.func35 (by kernel_rfl) rfl
def s_sample_Divisors_1 (P : Program) (t0 t1 t2 : Value) (w : World) (R : Ending → World → Prop) : Prop :=
 Bx P 46 t1 w fun t4 w =>
 Ld P 73 t2 w fun t7 w =>
 Fa P 46 t4 0 w fun t8 w =>
 Ld P 3 t8 w fun t9 w =>
 Lk P 73 t7 t9 false w fun t10 w =>
 R (.returned (.tuple #[t10, (.bool true)])) w
theorem e_sample_Divisors_1 (h : s_sample_Divisors_1 Tryz.prog t0 t1 t2 w R) : Calls Tryz.prog 36 #[t0, t1, t2] w R :=
 en1 (.sq .z (.sq .z .z)) [t0, t1, t2] Tryz.func36 (by kernel_rfl) (by kernel_rfl) h
theorem n_sample_Divisors_1 : Enters Tryz.prog 36 := enters_of Tryz.func36 (by kernel_rfl) rfl
def s_sample_Sample_1 (P : Program) (t0 t1 : Value) (w : World) (R : Ending → World → Prop) : Prop :=
 Ld P 24 t1 w fun t4 w =>
 Ia P 24 t4 t0 w fun t6 w =>
 Ld P 3 t6 w fun t7 w =>
 R (.returned t7) w
theorem e_sample_Sample_1 (h : s_sample_Sample_1 Tryz.prog t0 t1 w R) : Calls Tryz.prog 37 #[t0, t1] w R :=
 en1 (.sq .z (.sq .z .z)) [t0, t1] Tryz.func37 (by kernel_rfl) (by kernel_rfl) h
theorem n_sample_Sample_1 : Enters Tryz.prog 37 := enters_of Tryz.func37 (by kernel_rfl) rfl
def s_sample_kept (P : Program) (t0 t1 t2 t3 : Value) (w : World) (R : Ending → World → Prop) : Prop :=
 Bx P 9 t0 w fun t4 w =>
 Bx P 78 t2 w fun t6 w =>
 Bx P 78 t3 w fun t7 w =>
 Al P 28 w fun t9 w =>
 Cl P 57 #[t1, (.func (.func 58) #[] #[t4, t6, t7, t9])] w (Pk R) fun t12 w =>
 Ld P 28 t9 w fun t13 w =>
 Bn P .neq 28 true t13 (.int .i64 0) w fun t14 w =>
 If t14
 (dL P 28 t9 w.drew fun t15 =>
 Sto P 28 t9 t15 w.drew fun w =>
 Rc P 28 t9 w fun r1 =>
 R (.returned (.tuple #[(.slice none 0 0), r1])) w)
 (Sto P 28 t9 (.int .i64 0) w fun w =>
 Rc P 28 t9 w fun r1 =>
 R (.returned (.tuple #[t12, r1])) w)
theorem e_sample_kept (h : s_sample_kept Tryz.prog t0 t1 t2 t3 w R) : Calls Tryz.prog 38 #[t0, t1, t2, t3] w R :=
 en1 (.sq .z (.sq .z (.sq (.sq .z (.cd (.sq (.dr (.pur false 0 (.pur true 1 (.eff 2 [] .done)))) .z) .z)) (.sq .z .z)))) [t0, t1, t2, t3] Tryz.func38 (by kernel_rfl) (by kernel_rfl) h
theorem n_sample_kept : Enters Tryz.prog 38 := enters_of Tryz.func38 (by kernel_rfl) rfl
def s_sample_divisor (P : Program) (t0 : Value) (w : World) (R : Ending → World → Prop) : Prop :=
 Bx P 50 t0 w fun t1 w =>
 Fa P 50 t1 1 w fun t6 w =>
 Ld P 9 t6 w fun t7 w =>
 Cl P 60 #[t7] w (Pk R) fun t8 w =>
 Ex t8 0 w fun t9 w =>
 Ex t8 1 w fun t10 w =>
 Dv P false (bn .neq 102 true t10 .nilIface) w.drew fun t12 =>
 GdP t12 false (fun k => k t9) fun t14 =>
 Gd t12 false (fun k => Cl P 31 #[t14, (.int .i64 1), (.int .i64 1000)] w.drew (Pk R) k) w.drew fun t15 w =>
 GdP t12 false (fun k => Dv P true (Op.unary .not t15) w k) fun t16 =>
 PickP t12 (.bool true) t16 fun t17 =>
 GdP t17 false (fun k => dL P 50 t1 w k) fun t19 =>
 GdP t17 false (fun k => k t9) fun t20 =>
 Gd t17 false (fun k => Cl P 59 #[t20] w (Pk R) k) w fun t21 w =>
 Kg t17 false P (Instr.loadAt 50 t1) t19 w <|
 GdP t17 false (fun k => Dv P false (bn .neq 50 false t19 t21) w k) fun t22 =>
 PickP t17 (.bool true) t22 fun t23 =>
 If t23
 (R (.returned (.int .i64 0)) w)
 (R (.returned t9) w)
theorem e_sample_divisor (h : s_sample_divisor Tryz.prog t0 w R) : Calls Tryz.prog 39 #[t0] w R :=
 en1 (.sq .z (.sq .z (.sq (.sq (.dr (.pur true 0 (.pur false 1 (.pur true 2 (.pur true 3 (.eff 4 [] (.pur true 5 (.pur true 6 (.pur true 7 (.pur false 8 (.pur true 9 (.eff 10 [8] (.pur false 11 (.pur true 12 .done)))))))))))))) (.cd (.sq .z .z) .z)) (.sq .z .z)))) [t0] Tryz.func39 (by kernel_rfl) (by kernel_rfl) h
theorem n_sample_divisor : Enters Tryz.prog 39 := enters_of Tryz.func39 (by kernel_rfl) rfl
def s_trace_ValidFacts (P : Program) (t0 : Value) (w : World) (R : Ending → World → Prop) : Prop :=
 Bt P .len #[34] 3 #[t0] w fun t6 w =>
 Lp1 (.int .i64 0) w (fun t7 w k1 =>
 Bn P .lss 3 false t7 t6 w fun t8 w =>
 If t8
 (Ia P 34 t0 t7 w fun t10 w =>
 Ld P 46 t10 w fun t11 w =>
 Al P 46 w fun t4 w =>
 Sto P 46 t4 t11 w fun w =>
 dL P 46 t4 w.drew fun t12 =>
 Cl P 61 #[t12] w.drew (Pk R) fun t13 w =>
 Dv P true (Op.unary .not t13) w fun t14 =>
 GdP t14 false (fun k => k t7) fun t16 =>
 GdP t14 false (fun k => Dv P true (bn .gtr 3 true t16 (.int .i64 0)) w k) fun t17 =>
 GdP t14 false (fun k => k t17) fun t18 =>
 GdP t18 true (fun k => k t0) fun t19 =>
 GdP t18 true (fun k => k t7) fun t20 =>
 GdP t18 true (fun k => Dv P true (bn .sub 3 true t20 (.int .i64 1)) w k) fun t21 =>
 GdP t18 true (fun k => dIx P 34 t19 t21 w k) fun t22 =>
 GdP t18 true (fun k => dL P 46 t22 w k) fun t23 =>
 GdP t18 true (fun k => dL P 46 t4 w k) fun t24 =>
 Gd t18 true (fun k => Cl P 62 #[t23, t24] w (Pk R) k) w fun t25 w =>
 GdP t18 true (fun k => Dv P true (bn .geq 3 true t25 (.int .i64 0)) w k) fun t26 =>
 GdP t14 false (fun k => PickP t18 t26 (.bool false) k) fun t27 =>
 PickP t14 (.bool true) t27 fun t28 =>
 If t28
 (R (.returned (.bool false)) w)
 (Bn P .add 3 true t7 (.int .i64 1) w fun t29 w =>
 k1 t29 w))
 (Bt P .len #[34] 3 #[t0] w fun t31 w =>
 Bn P .leq 3 true t31 (.int .i64 400) w fun t32 w =>
 Gd t32 true (fun k => k t0 w) w fun t34 w =>
 Gd t32 true (fun k => Cl P 63 #[t34, (.func (.func 62) #[] #[])] w (Pk R) k) w fun t35 w =>
 Pick t32 t35 (.bool false) w fun t36 w =>
 R (.returned t36) w))
theorem e_trace_ValidFacts (h : s_trace_ValidFacts Tryz.prog t0 w R) : Calls Tryz.prog 40 #[t0] w R :=
 en1 (.sq .z (.sq (.sq .z (.bk (.lp [7] [2, 3, 4, 8, 9, 10, 11, 12, 13, 14, 15, 16, 17, 18, 19, 20, 21, 22, 23, 24, 25, 26, 27, 28, 29] (.sq .z (.sq (.cd .z .z) (.sq (.bk (.sq .z (.sq (.dr (.pur false 0 (.eff 1 [] (.pur true 2 (.pur true 3 (.pur true 4 (.pur true 5 (.pur true 6 (.pur true 7 (.pur true 8 (.pur true 9 (.pur true 10 (.pur false 11 (.pur false 12 (.eff 13 [] (.pur true 14 (.pur true 15 (.pur true 16 .done)))))))))))))))))) (.cd (.sq .z .z) .z)))) .z)))))) (.sq .z .z))) [t0] Tryz.func40 (by kernel_rfl) (by kernel_rfl) h
theorem n_trace_ValidFacts : Enters Tryz.prog 40 := enters_of Tryz.func40 (by kernel_rfl) rfl
def s_sample_facts (P : Program) (t0 : Value) (w : World) (R : Ending → World → Prop) : Prop :=
 Cl P 64 #[t0, (.func (.func 65) #[] #[])] w (Pk R) fun t4 w =>
 R (.returned t4) w
theorem e_sample_facts (h : s_sample_facts Tryz.prog t0 w R) : Calls Tryz.prog 41 #[t0] w R :=
 en1 (.sq .z (.sq .z .z)) [t0] Tryz.func41 (by kernel_rfl) (by kernel_rfl) h
theorem n_sample_facts : Enters Tryz.prog 41 := enters_of Tryz.func41 (by kernel_rfl) rfl
def s_seed_tries (P : Program) (t0 t1 : Value) (w : World) (R : Ending → World → Prop) : Prop :=
 Bx P 9 t0 w fun t2 w =>
 Bx P 3 t1 w fun t3 w =>
 R (.returned (.func (.func 66) #[] #[t2, t3])) w
theorem e_seed_tries (h : s_seed_tries Tryz.prog t0 t1 w R) : Calls Tryz.prog 42 #[t0, t1] w R :=
 en1 (.sq .z (.sq .z .z)) [t0, t1] Tryz.func42 (by kernel_rfl) (by kernel_rfl) h
theorem n_seed_tries : Enters Tryz.prog 42 := enters_of Tryz.func42 (by kernel_rfl) rfl
def s_seed_Reduce (P : Program) (t0 t1 : Value) (w : World) (R : Ending → World → Prop) : Prop :=
 Bn P .lss 3 true t1 (.int .i64 1) w fun t7 w =>
 Gd t7 false (fun k => k t1 w) w fun t9 w =>
 Gd t7 false (fun k => Bn P .gtr 3 true t9 (.int .i64 4611686018427387903) w k) w fun t10 w =>
 Pick t7 (.bool true) t10 w fun t11 w =>
 Gd t11 false (fun k => k t0 w) w fun t13 w =>
 Gd t11 false (fun k => Bn P .lss 3 true t13 (.int .i64 0) w k) w fun t14 w =>
 Pick t11 (.bool true) t14 w fun t15 w =>
 Gd t15 false (fun k => k t0 w) w fun t17 w =>
 Gd t15 false (fun k => k t1 w) w fun t18 w =>
 Gd t15 false (fun k => Bn P .rem 3 true (.int .i64 4611686018427387904) t18 w k) w fun t19 w =>
 Gd t15 false (fun k => Bn P .sub 3 true (.int .i64 4611686018427387904) t19 w k) w fun t20 w =>
 Gd t15 false (fun k => Bn P .geq 3 false t17 t20 w k) w fun t21 w =>
 Pick t15 (.bool true) t21 w fun t22 w =>
 If t22
 (R (.returned (.tuple #[(.int .i64 0), (.bool false)])) w)
 (Bn P .rem 3 false t0 t1 w fun t25 w =>
 R (.returned (.tuple #[t25, (.bool true)])) w)
theorem e_seed_Reduce (h : s_seed_Reduce Tryz.prog t0 t1 w R) : Calls Tryz.prog 43 #[t0, t1] w R :=
 en1 (.sq .z (.sq (.sq .z (.cd (.sq .z .z) .z)) (.sq .z .z))) [t0, t1] Tryz.func43 (by kernel_rfl) (by kernel_rfl) h
theorem n_seed_Reduce : Enters Tryz.prog 43 := enters_of Tryz.func43 (by kernel_rfl) rfl
def s_rational_Make (P : Program) (t0 t1 : Value) (w : World) (R : Ending → World → Prop) : Prop :=
 Al P 50 w fun t4 w =>
 Cl P 68 #[t0] w (Pk R) fun t8 w =>
 Un P .not t8 w fun t9 w =>
 Gd t9 false (fun k => k t1 w) w fun t11 w =>
 Gd t9 false (fun k => Cl P 68 #[t11] w (Pk R) k) w fun t12 w =>
 Gd t9 false (fun k => Un P .not t12 w k) w fun t13 w =>
 Pick t9 (.bool true) t13 w fun t14 w =>
 Bd P 113 [(0, t14)] w fun t15 w =>
 Bx P 113 t15 w fun t16 w =>
 Cl P 69 #[t16, t0, t1] w (Pk R) fun t20 w =>
 Ex t20 0 w fun t21 w =>
 Ex t20 1 w fun t22 w =>
 Sto P 50 t4 t21 w fun w =>
 Rc P 50 t4 w fun r0 =>
 R (.returned (.tuple #[r0, t22])) w
theorem e_rational_Make (h : s_rational_Make Tryz.prog t0 t1 w R) : Calls Tryz.prog 44 #[t0, t1] w R :=
 en1 (.sq .z (.sq .z (.sq .z .z))) [t0, t1] Tryz.func44 (by kernel_rfl) (by kernel_rfl) h
theorem n_rational_Make : Enters Tryz.prog 44 := enters_of Tryz.func44 (by kernel_rfl) rfl
def s_integer_FromInt (P : Program) (t0 : Value) (w : World) (R : Ending → World → Prop) : Prop :=
 Cl P 70 #[t0] w (Pk R) fun t4 w =>
 R (.returned t4) w
theorem e_integer_FromInt (h : s_integer_FromInt Tryz.prog t0 w R) : Calls Tryz.prog 45 #[t0] w R :=
 en1 (.sq .z (.sq .z .z)) [t0] Tryz.func45 (by kernel_rfl) (by kernel_rfl) h
theorem n_integer_FromInt : Enters Tryz.prog 45 := enters_of Tryz.func45 (by kernel_rfl) rfl
def s_sample_Thin_1 (P : Program) (t0 t1 : Value) (w : World) (R : Ending → World → Prop) : Prop :=
 Ld P 3 t1 w fun t4 w =>
 R (.returned t4) w
theorem e_sample_Thin_1 (h : s_sample_Thin_1 Tryz.prog t0 t1 w R) : Calls Tryz.prog 47 #[t0, t1] w R :=
 en1 (.sq .z (.sq .z .z)) [t0, t1] Tryz.func47 (by kernel_rfl) (by kernel_rfl) h
theorem n_sample_Thin_1 : Enters Tryz.prog 47 := enters_of Tryz.func47 (by kernel_rfl) rfl
def s_sample_Thin_2 (P : Program) (t0 t1 t2 : Value) (w : World) (R : Ending → World → Prop) : Prop :=
 dL P 38 t1 w.drew fun t5 =>
 dIx P 38 t5 t0 w.drew fun t7 =>
 dFl P 54 t7 1 w.drew fun t8 =>
 dL P 50 t8 w.drew fun t9 =>
 dL P 3 t2 w.drew fun t11 =>
 Cl P 39 #[t9] w.drew (Pk R) fun t10 w =>
 kLd P 3 t2 t11 w <|
 Dv P true (bn .mul 3 false t10 t11) w fun t12 =>
 R (.returned t12) w
theorem e_sample_Thin_2 (h : s_sample_Thin_2 Tryz.prog t0 t1 t2 w R) : Calls Tryz.prog 48 #[t0, t1, t2] w R :=
 en1 (.sq .z (.sq (.dr (.pur false 0 (.pur true 1 (.pur true 2 (.pur true 3 (.pur false 4 (.pur false 6 (.eff 5 [6] (.pur true 7 (.pur true 8 .done)))))))))) .z)) [t0, t1, t2] Tryz.func48 (by kernel_rfl) (by kernel_rfl) h
theorem n_sample_Thin_2 : Enters Tryz.prog 48 := enters_of Tryz.func48 (by kernel_rfl) rfl
def s_integer_Div (P : Program) (t0 t1 : Value) (w : World) (R : Ending → World → Prop) : Prop :=
 Cl P 75 #[t0, t1] w (Pk R) fun t19 w =>
 Ex t19 0 w fun t20 w =>
 Ex t19 1 w fun t21 w =>
 Ex t19 2 w fun t22 w =>
 Al P 119 w fun t7 w =>
 Al P 119 w fun t8 w =>
 Sto P 119 t7 t20 w fun w =>
 Sto P 119 t8 t21 w fun w =>
 Un P .not t22 w fun t24 w =>
 Gd t24 false (fun k => Fa P 119 t8 1 w k) w fun t26 w =>
 Gd t24 false (fun k => Ld P 117 t26 w k) w fun t27 w =>
 Gd t24 false (fun k => Bt P .len #[117] 3 #[t27] w k) w fun t28 w =>
 Gd t24 false (fun k => Bn P .eql 3 true t28 (.int .i64 0) w k) w fun t29 w =>
 Pick t24 (.bool true) t29 w fun t30 w =>
 If t30
 (R (.returned (.tuple #[(str []), (str []), (.int .i64 30)])) w)
 (Fa P 119 t7 1 w fun t32 w =>
 Ld P 117 t32 w fun t33 w =>
 Fa P 119 t8 1 w fun t34 w =>
 Ld P 117 t34 w fun t35 w =>
 Cl P 79 #[t33, t35] w (Pk R) fun t36 w =>
 Ex t36 0 w fun t37 w =>
 Ex t36 1 w fun t38 w =>
 Jn2 (fun k1 =>
 Fa P 119 t7 0 w fun t39 w =>
 Ld P 4 t39 w fun t40 w =>
 Gd t40 true (fun k => k t38 w) w fun t42 w =>
 Gd t40 true (fun k => Bt P .len #[117] 3 #[t42] w k) w fun t43 w =>
 Gd t40 true (fun k => Bn P .gtr 3 true t43 (.int .i64 0) w k) w fun t44 w =>
 Pick t40 t44 (.bool false) w fun t45 w =>
 If t45
 (dFl P 119 t8 1 w.drew fun t49 =>
 dL P 117 t49 w.drew fun t50 =>
 Cl P 81 #[] w.drew (Pk R) fun t47 w =>
 kLd P 117 t49 t50 w <|
 Cl P 80 #[t37, t47] w (Pk R) fun t48 w =>
 kLd P 117 t49 t50 w <|
 Cl P 82 #[t50, t38] w (Pk R) fun t52 w =>
 k1 t48 t52 w)
 (k1 t37 t38 w))
 (fun t10 t11 w =>
 Fa P 119 t7 0 w fun t54 w =>
 Ld P 4 t54 w fun t55 w =>
 Fa P 119 t8 0 w fun t56 w =>
 Ld P 4 t56 w fun t57 w =>
 Bn P .neq 4 false t55 t57 w fun t58 w =>
 Bd P 119 [(0, t58), (1, t10)] w fun t60 w =>
 Cl P 77 #[t60] w (Pk R) fun t61 w =>
 Ex t61 0 w fun t62 w =>
 Ex t61 1 w fun t63 w =>
 Bn P .neq 28 true t63 (.int .i64 0) w fun t65 w =>
 If t65
 (R (.returned (.tuple #[(str []), (str []), t63])) w)
 (Bd P 119 [(1, t11)] w fun t69 w =>
 Cl P 77 #[t69] w (Pk R) fun t70 w =>
 Ex t70 0 w fun t71 w =>
 Ex t70 1 w fun t72 w =>
 R (.returned (.tuple #[t62, t71, (.int .i64 0)])) w)))
theorem e_integer_Div (h : s_integer_Div Tryz.prog t0 t1 w R) : Calls Tryz.prog 52 #[t0, t1] w R :=
 en1 (.sq .z (.sq .z (.sq (.sq .z (.cd (.sq .z .z) .z)) (.sq .z (.jn [10, 11] [39, 40, 41, 42, 43, 44, 45, 46, 47, 48, 49, 50, 51, 52] (.sq .z (.cd (.dr (.pur true 0 (.pur true 3 (.pur false 4 (.pur true 5 (.eff 1 [4] (.eff 2 [4] (.eff 6 [] (.pur true 7 (.pur true 8 .done)))))))))) .z)) (.sq .z (.sq (.sq .z (.cd (.sq .z .z) .z)) (.sq .z (.sq .z .z))))))))) [t0, t1] Tryz.func52 (by kernel_rfl) (by kernel_rfl) h
theorem n_integer_Div : Enters Tryz.prog 52 := enters_of Tryz.func52 (by kernel_rfl) rfl
def s_integer_Compare (P : Program) (t0 t1 : Value) (w : World) (R : Ending → World → Prop) : Prop :=
 Cl P 75 #[t0, t1] w (Pk R) fun t11 w =>
 Ex t11 0 w fun t12 w =>
 Ex t11 1 w fun t13 w =>
 Ex t11 2 w fun t14 w =>
 Al P 119 w fun t5 w =>
 Al P 119 w fun t6 w =>
 Sto P 119 t5 t12 w fun w =>
 Sto P 119 t6 t13 w fun w =>
 Un P .not t14 w fun t17 w =>
 If t17
 (R (.returned (.int .i64 0)) w)
 (Fa P 119 t5 0 w fun t19 w =>
 Ld P 4 t19 w fun t20 w =>
 Gd t20 true (fun k => Fa P 119 t6 0 w k) w fun t22 w =>
 Gd t20 true (fun k => Ld P 4 t22 w k) w fun t23 w =>
 Pick t20 t23 (.bool false) w fun t24 w =>
 If t24
 (Fa P 119 t6 1 w fun t25 w =>
 Ld P 117 t25 w fun t26 w =>
 Fa P 119 t5 1 w fun t27 w =>
 Ld P 117 t27 w fun t28 w =>
 Cl P 83 #[t26, t28] w (Pk R) fun t29 w =>
 R (.returned t29) w)
 (Fa P 119 t5 0 w fun t31 w =>
 Ld P 4 t31 w fun t32 w =>
 If t32
 (R (.returned (.int .i64 (-1))) w)
 (Fa P 119 t6 0 w fun t34 w =>
 Ld P 4 t34 w fun t35 w =>
 If t35
 (R (.returned (.int .i64 1)) w)
 (Fa P 119 t5 1 w fun t36 w =>
 Ld P 117 t36 w fun t37 w =>
 Fa P 119 t6 1 w fun t38 w =>
 Ld P 117 t38 w fun t39 w =>
 Cl P 83 #[t37, t39] w (Pk R) fun t40 w =>
 R (.returned t40) w))))
theorem e_integer_Compare (h : s_integer_Compare Tryz.prog t0 t1 w R) : Calls Tryz.prog 53 #[t0, t1] w R :=
 en1 (.sq .z (.sq .z (.sq (.bk (.sq .z (.cd (.sq .z .z) (.sq .z (.cd (.sq .z .z) (.sq .z (.cd (.sq .z .z) (.sq .z (.cd (.sq .z .z) .z))))))))) (.sq .z .z)))) [t0, t1] Tryz.func53 (by kernel_rfl) (by kernel_rfl) h
theorem n_integer_Compare : Enters Tryz.prog 53 := enters_of Tryz.func53 (by kernel_rfl) rfl
def s_slices_ContainsFunc_int_int (P : Program) (t0 t1 : Value) (w : World) (R : Ending → World → Prop) : Prop :=
 Cl P 84 #[t0, t1] w (Pk R) fun t7 w =>
 Bn P .geq 3 true t7 (.int .i64 0) w fun t8 w =>
 R (.returned t8) w
theorem e_slices_ContainsFunc_int_int (h : s_slices_ContainsFunc_int_int Tryz.prog t0 t1 w R) : Calls Tryz.prog 54 #[t0, t1] w R :=
 en1 (.sq .z (.sq .z .z)) [t0, t1] Tryz.func54 (by kernel_rfl) (by kernel_rfl) h
theorem n_slices_ContainsFunc_int_int : Enters Tryz.prog 54 := enters_of Tryz.func54 (by kernel_rfl) rfl
def s_sample_areIn_1 (P : Program) (t0 t1 t2 : Value) (w : World) (R : Ending → World → Prop) : Prop :=
 Ld P 3 t1 w fun t6 w =>
 Ld P 3 t2 w fun t7 w =>
 Cl P 31 #[t0, t6, t7] w (Pk R) fun t8 w =>
 Un P .not t8 w fun t9 w =>
 R (.returned t9) w
theorem e_sample_areIn_1 (h : s_sample_areIn_1 Tryz.prog t0 t1 t2 w R) : Calls Tryz.prog 55 #[t0, t1, t2] w R :=
 en1 (.sq .z (.sq .z .z)) [t0, t1, t2] Tryz.func55 (by kernel_rfl) (by kernel_rfl) h
theorem n_sample_areIn_1 : Enters Tryz.prog 55 := enters_of Tryz.func55 (by kernel_rfl) rfl
def s_sample_traces (P : Program) (t0 : Value) (w : World) (R : Ending → World → Prop) : Prop :=
 Bx P 34 t0 w fun t1 w =>
 R (.returned (.func (.func 85) #[] #[t1])) w
theorem e_sample_traces (h : s_sample_traces Tryz.prog t0 w R) : Calls Tryz.prog 56 #[t0] w R :=
 en1 (.sq .z (.sq .z .z)) [t0] Tryz.func56 (by kernel_rfl) (by kernel_rfl) h
theorem n_sample_traces : Enters Tryz.prog 56 := enters_of Tryz.func56 (by kernel_rfl) rfl
def s_sample_filtered_api_Fact_api_Kept (P : Program) (t0 t1 : Value) (w : World) (R : Ending → World → Prop) : Prop :=
 Bt P .len #[34] 3 #[t0] w fun t10 w =>
 Lp2 (.slice none 0 0) (.int .i64 0) w (fun t4 t11 w k1 =>
 Bn P .lss 3 false t11 t10 w fun t12 w =>
 If t12
 (Ia P 34 t0 t11 w fun t14 w =>
 Ld P 46 t14 w fun t15 w =>
 Al P 46 w fun t6 w =>
 Sto P 46 t6 t15 w fun w =>
 Ld P 46 t6 w fun t19 w =>
 Cw P t1 #[t11, t19] w (Pk R) fun t20 w =>
 Ex t20 0 w fun t21 w =>
 Ex t20 1 w fun t22 w =>
 Al P 54 w fun t7 w =>
 Sto P 54 t7 t21 w fun w =>
 If t22
 (Ld P 54 t7 w fun t25 w =>
 Bs P 38 1 [(0, t25)] w fun t26 w =>
 Bt P .append #[38, 38] 38 #[t4, t26] w fun t27 w =>
 Bn P .add 3 true t11 (.int .i64 1) w fun t28 w =>
 k1 t27 t28 w)
 (Bn P .add 3 true t11 (.int .i64 1) w fun t28x1 w =>
 k1 t4 t28x1 w))
 (R (.returned t4) w))
theorem e_sample_filtered_api_Fact_api_Kept (h : s_sample_filtered_api_Fact_api_Kept Tryz.prog t0 t1 w R) : Calls Tryz.prog 57 #[t0, t1] w R :=
 en1 (.sq .z (.sq (.sq .z (.bk (.lp [4, 11] [5, 6, 7, 8, 12, 13, 14, 15, 16, 17, 18, 19, 20, 21, 22, 23, 24, 25, 26, 27, 28] (.sq .z (.sq (.cd .z .z) (.sq (.bk (.sq .z (.sq .z (.sq .z (.cd .z .z))))) .z)))))) (.sq .z .z))) [t0, t1] Tryz.func57 (by kernel_rfl) (by kernel_rfl) h
theorem n_sample_filtered_api_Fact_api_Kept : Enters Tryz.prog 57 := enters_of Tryz.func57 (by kernel_rfl) rfl
def s_sample_kept_1 (P : Program) (t0 t1 t2 t3 t4 t5 : Value) (w : World) (R : Ending → World → Prop) : Prop :=
 Bx P 46 t1 w fun t7 w =>
 Al P 54 w fun t8 w =>
 dL P 9 t2 w.drew fun t13 =>
 dFl P 46 t7 0 w.drew fun t14 =>
 dL P 3 t14 w.drew fun t15 =>
 dL P 78 t3 w.drew fun t16 =>
 Cw P t16 #[t0] w.drew (Pk R) fun t18 w =>
 kLd P 9 t2 t13 w <|
 kLd P 3 t14 t15 w <|
 Cl P 20 #[t13, t15, t18] w (Pk R) fun t19 w =>
 ExP t19 0 fun t20 =>
 ExP t19 1 fun t21 =>
 Jn0 (fun k1 =>
 Bn P .neq 28 true t21 (.int .i64 0) w fun t23 w =>
 Gd t23 false (fun k => Ld P 78 t4 w k) w fun t25 w =>
 Gd t23 false (fun k => k t0 w) w fun t26 w =>
 Gd t23 false (fun k => Cw P t25 #[t26] w (Pk R) k) w fun t27 w =>
 Gd t23 false (fun k => Bn P .gtr 3 true t27 (.int .i64 1000) w k) w fun t28 w =>
 Pick t23 (.bool true) t28 w fun t29 w =>
 If t29
 (Sto P 28 t5 (.int .i64 150) w fun w =>
 k1 w)
 (k1 w))
 (fun w =>
 dL P 46 t7 w.drew fun t30 =>
 dL P 78 t4 w.drew fun t31 =>
 Cw P t31 #[t0] w.drew (Pk R) fun t33 w =>
 kLd P 46 t7 t30 w <|
 Cl P 59 #[t33] w (Pk R) fun t34 w =>
 kLd P 46 t7 t30 w <|
 Dv P true (Instr.build 54 #[(0, t30), (1, t34)]) w fun t35 =>
 Sto P 54 t8 t35 w fun w =>
 Rc P 54 t8 w fun r0 =>
 R (.returned (.tuple #[r0, t20])) w)
theorem e_sample_kept_1 (h : s_sample_kept_1 Tryz.prog t0 t1 t2 t3 t4 t5 w R) : Calls Tryz.prog 58 #[t0, t1, t2, t3, t4, t5] w R :=
 en1 (.sq .z (.sq (.dr (.pur false 0 (.pur true 1 (.pur false 2 (.pur false 3 (.pur true 4 (.eff 5 [0, 2] (.eff 6 [] (.pur true 7 (.pur true 8 (.pur true 9 (.pur true 10 (.pur true 11 .done))))))))))))) (.jn [] [22, 23, 24, 25, 26, 27, 28, 29] (.sq .z (.cd .z .z)) (.sq (.dr (.pur false 0 (.pur false 1 (.pur true 2 (.pur true 6 (.eff 3 [0] (.eff 4 [0] (.pur true 5 (.eff 7 [] (.pur true 8 .done)))))))))) .z)))) [t0, t1, t2, t3, t4, t5] Tryz.func58 (by kernel_rfl) (by kernel_rfl) h
theorem n_sample_kept_1 : Enters Tryz.prog 58 := enters_of Tryz.func58 (by kernel_rfl) rfl
def s_sample_one (P : Program) (t0 : Value) (w : World) (R : Ending → World → Prop) : Prop :=
 Al P 50 w fun t2 w =>
 Cl P 21 #[(.int .i64 1), t0] w (Pk R) fun t7 w =>
 Ex t7 0 w fun t8 w =>
 Ex t7 1 w fun t9 w =>
 Al P 50 w fun t3 w =>
 Sto P 50 t3 t8 w fun w =>
 Ld P 50 t3 w fun t10 w =>
 Sto P 50 t2 t10 w fun w =>
 Rc P 50 t2 w fun r0 =>
 R (.returned r0) w
theorem e_sample_one (h : s_sample_one Tryz.prog t0 w R) : Calls Tryz.prog 59 #[t0] w R :=
 en1 (.sq .z (.sq .z (.sq .z .z))) [t0] Tryz.func59 (by kernel_rfl) (by kernel_rfl) h
theorem n_sample_one : Enters Tryz.prog 59 := enters_of Tryz.func59 (by kernel_rfl) rfl
theorem n_strconv_Atoi : Enters Tryz.prog 60 := enters_of Tryz.func60 (by kernel_rfl) rfl
def s_trace_ValidFact (P : Program) (t0 : Value) (w : World) (R : Ending → World → Prop) : Prop :=
 Bx P 46 t0 w fun t1 w =>
 Fa P 46 t1 0 w fun t3 w =>
 Ld P 3 t3 w fun t4 w =>
 Cl P 88 #[t4, (.int .i64 0), (.int .i64 999)] w (Pk R) fun t5 w =>
 Gd t5 true (fun k => Fa P 46 t1 1 w k) w fun t7 w =>
 Gd t5 true (fun k => Ld P 3 t7 w k) w fun t8 w =>
 Gd t5 true (fun k => Cl P 88 #[t8, (.int .i64 0), (.int .i64 9)] w (Pk R) k) w fun t9 w =>
 Pick t5 t9 (.bool false) w fun t10 w =>
 Gd t10 true (fun k => Fa P 46 t1 2 w k) w fun t12 w =>
 Gd t10 true (fun k => Ld P 3 t12 w k) w fun t13 w =>
 Gd t10 true (fun k => Cl P 88 #[t13, (.int .i64 0), (.int .i64 7)] w (Pk R) k) w fun t14 w =>
 Pick t10 t14 (.bool false) w fun t15 w =>
 Gd t15 true (fun k => Fa P 46 t1 3 w k) w fun t17 w =>
 Gd t15 true (fun k => Ld P 3 t17 w k) w fun t18 w =>
 Gd t15 true (fun k => Cl P 88 #[t18, (.int .i64 0), (.int .i64 9)] w (Pk R) k) w fun t19 w =>
 Pick t15 t19 (.bool false) w fun t20 w =>
 Gd t20 true (fun k => Fa P 46 t1 4 w k) w fun t22 w =>
 Gd t20 true (fun k => Ld P 3 t22 w k) w fun t23 w =>
 Gd t20 true (fun k => Cl P 88 #[t23, (.int .i64 0), (.int .i64 11)] w (Pk R) k) w fun t24 w =>
 Pick t20 t24 (.bool false) w fun t25 w =>
 Gd t25 true (fun k => Fa P 46 t1 5 w k) w fun t27 w =>
 Gd t25 true (fun k => Ld P 3 t27 w k) w fun t28 w =>
 Gd t25 true (fun k => Cl P 88 #[t28, (.int .i64 (-1)), (.int .i64 19)] w (Pk R) k) w fun t29 w =>
 Pick t25 t29 (.bool false) w fun t30 w =>
 Gd t30 true (fun k => Fa P 46 t1 6 w k) w fun t32 w =>
 Gd t30 true (fun k => Ld P 3 t32 w k) w fun t33 w =>
 Gd t30 true (fun k => Fa P 46 t1 0 w k) w fun t34 w =>
 Gd t30 true (fun k => Ld P 3 t34 w k) w fun t35 w =>
 Gd t30 true (fun k => Bn P .quo 3 true t35 (.int .i64 10) w k) w fun t36 w =>
 Gd t30 true (fun k => Bn P .eql 3 false t33 t36 w k) w fun t37 w =>
 Pick t30 t37 (.bool false) w fun t38 w =>
 Gd t38 true (fun k => Fa P 46 t1 7 w k) w fun t40 w =>
 Gd t38 true (fun k => Ld P 3 t40 w k) w fun t41 w =>
 Gd t38 true (fun k => Fa P 46 t1 8 w k) w fun t42 w =>
 Gd t38 true (fun k => Ld P 3 t42 w k) w fun t43 w =>
 Gd t38 true (fun k => Cl P 88 #[t41, (.int .i64 0), t43] w (Pk R) k) w fun t44 w =>
 Pick t38 t44 (.bool false) w fun t45 w =>
 Gd t45 true (fun k => Fa P 46 t1 8 w k) w fun t47 w =>
 Gd t45 true (fun k => Ld P 3 t47 w k) w fun t48 w =>
 Gd t45 true (fun k => Bn P .leq 3 true t48 (.int .i64 4398046511104) w k) w fun t49 w =>
 Pick t45 t49 (.bool false) w fun t50 w =>
 Gd t50 true (fun k => Fa P 46 t1 9 w k) w fun t52 w =>
 Gd t50 true (fun k => Ld P 3 t52 w k) w fun t53 w =>
 Gd t50 true (fun k => Cl P 88 #[t53, (.int .i64 0), (.int .i64 24000)] w (Pk R) k) w fun t54 w =>
 Pick t50 t54 (.bool false) w fun t55 w =>
 R (.returned t55) w
theorem e_trace_ValidFact (h : s_trace_ValidFact Tryz.prog t0 w R) : Calls Tryz.prog 61 #[t0] w R :=
 en1 (.sq .z (.sq .z .z)) [t0] Tryz.func61 (by kernel_rfl) (by kernel_rfl) h
theorem n_trace_ValidFact : Enters Tryz.prog 61 := enters_of Tryz.func61 (by kernel_rfl) rfl
def s_trace_byPlace (P : Program) (t0 t1 : Value) (w : World) (R : Ending → World → Prop) : Prop :=
 Bx P 46 t0 w fun t2 w =>
 Bx P 46 t1 w fun t3 w =>
 dFl P 46 t2 0 w.drew fun t5 =>
 dL P 3 t5 w.drew fun t6 =>
 dFl P 46 t3 0 w.drew fun t7 =>
 dL P 3 t7 w.drew fun t8 =>
 dFl P 46 t2 1 w.drew fun t10 =>
 dL P 3 t10 w.drew fun t11 =>
 dFl P 46 t3 1 w.drew fun t12 =>
 dL P 3 t12 w.drew fun t13 =>
 Cl P 90 #[t6, t8] w.drew (Pk R) fun t9 w =>
 kLd P 3 t10 t11 w <|
 kLd P 3 t12 t13 w <|
 Cl P 90 #[t11, t13] w (Pk R) fun t14 w =>
 Bs P 24 2 [(0, t9), (1, t14)] w fun t15 w =>
 Cl P 89 #[t15] w (Pk R) fun t16 w =>
 R (.returned t16) w
theorem e_trace_byPlace (h : s_trace_byPlace Tryz.prog t0 t1 w R) : Calls Tryz.prog 62 #[t0, t1] w R :=
 en1 (.sq .z (.sq (.dr (.pur true 0 (.pur false 1 (.pur true 2 (.pur false 3 (.pur true 5 (.pur false 6 (.pur true 7 (.pur false 8 (.eff 4 [6, 8] (.eff 9 [] (.eff 10 [] (.eff 11 [] (.pur true 12 .done)))))))))))))) .z)) [t0, t1] Tryz.func62 (by kernel_rfl) (by kernel_rfl) h
theorem n_trace_byPlace : Enters Tryz.prog 62 := enters_of Tryz.func62 (by kernel_rfl) rfl
def s_slices_IsSortedFunc_api_Fact_api_Fact (P : Program) (t0 t1 : Value) (w : World) (R : Ending → World → Prop) : Prop :=
 Bt P .len #[34] 3 #[t0] w fun t7 w =>
 Bn P .sub 3 true t7 (.int .i64 1) w fun t8 w =>
 Lp1 t8 w (fun t5 w k1 =>
 Bn P .gtr 3 true t5 (.int .i64 0) w fun t10 w =>
 If t10
 (dIx P 34 t0 t5 w.drew fun t16 =>
 dL P 46 t16 w.drew fun t17 =>
 Dv P true (bn .sub 3 true t5 (.int .i64 1)) w.drew fun t20 =>
 dIx P 34 t0 t20 w.drew fun t21 =>
 dL P 46 t21 w.drew fun t22 =>
 Cw P t1 #[t17, t22] w.drew (Pk R) fun t23 w =>
 Dv P true (bn .lss 3 true t23 (.int .i64 0)) w fun t24 =>
 If t24
 (R (.returned (.bool false)) w)
 (Bn P .sub 3 true t5 (.int .i64 1) w fun t12 w =>
 k1 t12 w))
 (R (.returned (.bool true)) w))
theorem e_slices_IsSortedFunc_api_Fact_api_Fact (h : s_slices_IsSortedFunc_api_Fact_api_Fact Tryz.prog t0 t1 w R) : Calls Tryz.prog 63 #[t0, t1] w R :=
 en1 (.sq .z (.sq (.sq .z (.bk (.lp [5] [4, 9, 10, 11, 12, 13, 14, 15, 16, 17, 18, 19, 20, 21, 22, 23, 24] (.sq (.sq .z (.cd .z .z)) (.sq (.bk (.sq (.dr (.pur true 0 (.pur true 1 (.pur true 2 (.pur true 3 (.pur false 4 (.pur true 5 (.pur true 6 (.pur true 7 (.pur true 8 (.pur false 9 (.eff 10 [] (.pur true 11 .done))))))))))))) (.cd (.sq .z .z) .z))) .z))))) (.sq .z .z))) [t0, t1] Tryz.func63 (by kernel_rfl) (by kernel_rfl) h
theorem n_slices_IsSortedFunc_api_Fact_api_Fact : Enters Tryz.prog 63 := enters_of Tryz.func63 (by kernel_rfl) rfl
def s_sample_filtered_api_Kept_api_Fact (P : Program) (t0 t1 : Value) (w : World) (R : Ending → World → Prop) : Prop :=
 Bt P .len #[38] 3 #[t0] w fun t10 w =>
 Lp2 (.slice none 0 0) (.int .i64 0) w (fun t4 t11 w k1 =>
 Bn P .lss 3 false t11 t10 w fun t12 w =>
 If t12
 (Ia P 38 t0 t11 w fun t14 w =>
 Ld P 54 t14 w fun t15 w =>
 Al P 54 w fun t6 w =>
 Sto P 54 t6 t15 w fun w =>
 Ld P 54 t6 w fun t19 w =>
 Cw P t1 #[t11, t19] w (Pk R) fun t20 w =>
 Ex t20 0 w fun t21 w =>
 Ex t20 1 w fun t22 w =>
 Al P 46 w fun t7 w =>
 Sto P 46 t7 t21 w fun w =>
 If t22
 (Ld P 46 t7 w fun t25 w =>
 Bs P 34 1 [(0, t25)] w fun t26 w =>
 Bt P .append #[34, 34] 34 #[t4, t26] w fun t27 w =>
 Bn P .add 3 true t11 (.int .i64 1) w fun t28 w =>
 k1 t27 t28 w)
 (Bn P .add 3 true t11 (.int .i64 1) w fun t28x1 w =>
 k1 t4 t28x1 w))
 (R (.returned t4) w))
theorem e_sample_filtered_api_Kept_api_Fact (h : s_sample_filtered_api_Kept_api_Fact Tryz.prog t0 t1 w R) : Calls Tryz.prog 64 #[t0, t1] w R :=
 en1 (.sq .z (.sq (.sq .z (.bk (.lp [4, 11] [5, 6, 7, 8, 12, 13, 14, 15, 16, 17, 18, 19, 20, 21, 22, 23, 24, 25, 26, 27, 28] (.sq .z (.sq (.cd .z .z) (.sq (.bk (.sq .z (.sq .z (.sq .z (.cd .z .z))))) .z)))))) (.sq .z .z))) [t0, t1] Tryz.func64 (by kernel_rfl) (by kernel_rfl) h
theorem n_sample_filtered_api_Kept_api_Fact : Enters Tryz.prog 64 := enters_of Tryz.func64 (by kernel_rfl) rfl
def s_sample_facts_1 (P : Program) (t0 t1 : Value) (w : World) (R : Ending → World → Prop) : Prop :=
 Bx P 54 t1 w fun t3 w =>
 Al P 46 w fun t4 w =>
 Fa P 54 t3 0 w fun t6 w =>
 Ld P 46 t6 w fun t7 w =>
 Sto P 46 t4 t7 w fun w =>
 Rc P 46 t4 w fun r0 =>
 R (.returned (.tuple #[r0, (.bool true)])) w
theorem e_sample_facts_1 (h : s_sample_facts_1 Tryz.prog t0 t1 w R) : Calls Tryz.prog 65 #[t0, t1] w R :=
 en1 (.sq .z (.sq .z .z)) [t0, t1] Tryz.func65 (by kernel_rfl) (by kernel_rfl) h
theorem n_sample_facts_1 : Enters Tryz.prog 65 := enters_of Tryz.func65 (by kernel_rfl) rfl
def s_seed_tries_1 (P : Program) (t0 t1 t2 : Value) (w : World) (R : Ending → World → Prop) : Prop :=
 Lp1 (.int .i64 0) w (fun t7 w k1 =>
 Bn P .lss 3 true t7 (.int .i64 64) w fun t8 w =>
 If t8
 (Ld P 9 t1 w fun t11 w =>
 Ld P 3 t2 w fun t12 w =>
 Cl P 67 #[t11, t12, t7] w (Pk R) fun t14 w =>
 Ex t14 0 w fun t15 w =>
 Ex t14 1 w fun t16 w =>
 Bn P .neq 28 true t16 (.int .i64 0) w fun t18 w =>
 Gd t18 false (fun k => k t0 w) w fun t20 w =>
 Gd t18 false (fun k => k t15 w) w fun t21 w =>
 Gd t18 false (fun k => Cw P t20 #[t21] w (Pk R) k) w fun t22 w =>
 Gd t18 false (fun k => Un P .not t22 w k) w fun t23 w =>
 Pick t18 (.bool true) t23 w fun t24 w =>
 If t24
 (R (.returned (.tuple #[])) w)
 (Bn P .add 3 true t7 (.int .i64 1) w fun t25 w =>
 k1 t25 w))
 (R (.returned (.tuple #[])) w))
theorem e_seed_tries_1 (h : s_seed_tries_1 Tryz.prog t0 t1 t2 w R) : Calls Tryz.prog 66 #[t0, t1, t2] w R :=
 en1 (.sq .z (.bk (.lp [7] [4, 5, 6, 8, 9, 10, 11, 12, 13, 14, 15, 16, 17, 18, 19, 20, 21, 22, 23, 24, 25] (.sq .z (.sq (.cd .z .z) (.sq (.bk (.sq .z (.sq .z (.sq .z (.cd .z .z))))) .z)))))) [t0, t1, t2] Tryz.func66 (by kernel_rfl) (by kernel_rfl) h
theorem n_seed_tries_1 : Enters Tryz.prog 66 := enters_of Tryz.func66 (by kernel_rfl) rfl
def s_seed_Raw (P : Program) (t0 t1 t2 : Value) (w : World) (R : Ending → World → Prop) : Prop :=
 Cl P 91 #[t0, t1] w (Pk R) fun t20 w =>
 Un P .not t20 w fun t21 w =>
 Gd t21 false (fun k => k t2 w) w fun t23 w =>
 Gd t21 false (fun k => Bn P .lss 3 true t23 (.int .i64 0) w k) w fun t24 w =>
 Pick t21 (.bool true) t24 w fun t25 w =>
 Gd t25 false (fun k => k t2 w) w fun t27 w =>
 Gd t25 false (fun k => Bn P .geq 3 true t27 (.int .i64 64) w k) w fun t28 w =>
 Pick t25 (.bool true) t28 w fun t29 w =>
 If t29
 (R (.returned (.tuple #[(.int .i64 0), (.int .i64 60)])) w)
 (Cl P 92 #[t0] w (Pk R) fun t32 w =>
 Ex t32 0 w fun t33 w =>
 Ex t32 1 w fun t34 w =>
 Bs P 24 2 [(0, t1), (1, t2)] w fun t37 w =>
 Bt P .len #[24] 3 #[t37] w fun t38 w =>
 Lp2 t33 (.int .i64 0) w (fun t8 t39 w k1 =>
 Bn P .lss 3 false t39 t38 w fun t40 w =>
 If t40
 (Ia P 24 t37 t39 w fun t41 w =>
 Ld P 3 t41 w fun t42 w =>
 Cl P 93 #[t42] w (Pk R) fun t45 w =>
 Ex t45 0 w fun t46 w =>
 Ex t45 1 w fun t47 w =>
 Bn P .add 9 false t8 t46 w fun t50 w =>
 Bn P .add 3 true t39 (.int .i64 1) w fun t51 w =>
 k1 t50 t51 w)
 (Cl P 94 #[t8] w (Pk R) fun t53 w =>
 Bt P .len #[9] 3 #[t53] w fun t55 w =>
 Bn P .lss 3 true t55 (.int .i64 8) w fun t56 w =>
 If t56
 (R (.returned (.tuple #[(.int .i64 0), (.int .i64 60)])) w)
 (Sc P 9 t53 none (some (.int .i64 8)) none w fun t58 w =>
 Cv P 9 139 t58 w fun t59 w =>
 Bt P .len #[139] 3 #[t59] w fun t60 w =>
 Lp2 (.int .u64 0) (.int .i64 0) w (fun t15 t61 w k2 =>
 Bn P .lss 3 false t61 t60 w fun t62 w =>
 If t62
 (Ia P 139 t59 t61 w fun t63 w =>
 Ld P 5 t63 w fun t64 w =>
 Bn P .shl 138 true t15 (.int .u64 8) w fun t66 w =>
 Cv P 5 138 t64 w fun t68 w =>
 Bn P .or 138 false t66 t68 w fun t69 w =>
 Bn P .add 3 true t61 (.int .i64 1) w fun t70 w =>
 k2 t69 t70 w)
 (Bn P .shr 138 true t15 (.int .u64 2) w fun t72 w =>
 Cv P 138 3 t72 w fun t73 w =>
 R (.returned (.tuple #[t73, (.int .i64 0)])) w))))))
theorem e_seed_Raw (h : s_seed_Raw Tryz.prog t0 t1 t2 w R) : Calls Tryz.prog 67 #[t0, t1, t2] w R :=
 en1 (.sq .z (.sq (.sq .z (.cd (.sq .z .z) .z)) (.sq .z (.sq (.sq .z (.bk (.lp [8, 39] [11, 12, 13, 40, 41, 42, 43, 44, 45, 46, 47, 48, 49, 50, 51] (.sq .z (.sq (.cd .z .z) (.sq (.bk (.sq .z (.sq .z .z))) .z)))))) (.sq .z (.sq (.sq .z (.cd (.sq .z .z) .z)) (.sq .z (.sq (.sq .z (.bk (.lp [15, 61] [17, 62, 63, 64, 65, 66, 67, 68, 69, 70] (.sq .z (.sq (.cd .z .z) (.sq (.bk (.sq .z .z)) .z)))))) (.sq .z .z))))))))) [t0, t1, t2] Tryz.func67 (by kernel_rfl) (by kernel_rfl) h
theorem n_seed_Raw : Enters Tryz.prog 67 := enters_of Tryz.func67 (by kernel_rfl) rfl
def s_integer_Valid (P : Program) (t0 : Value) (w : World) (R : Ending → World → Prop) : Prop :=
 Cl P 95 #[t0] w (Pk R) fun t4 w =>
 R (.returned t4) w
theorem e_integer_Valid (h : s_integer_Valid Tryz.prog t0 w R) : Calls Tryz.prog 68 #[t0] w R :=
 en1 (.sq .z (.sq .z .z)) [t0] Tryz.func68 (by kernel_rfl) (by kernel_rfl) h
theorem n_integer_Valid : Enters Tryz.prog 68 := enters_of Tryz.func68 (by kernel_rfl) rfl
def s_rational_work_reduced (P : Program) (t0 t1 t2 : Value) (w : World) (R : Ending → World → Prop) : Prop :=
 Al P 50 w fun t6 w =>
 Nc t0 w fun t11 w =>
 Fa P 113 t11 0 w fun t12 w =>
 Ld P 4 t12 w fun t13 w =>
 Gd t13 false (fun k => k t2 w) w fun t15 w =>
 Gd t13 false (fun k => Bn P .eql 9 true t15 (str [48]) w k) w fun t16 w =>
 Pick t13 (.bool true) t16 w fun t17 w =>
 If t17
 (Bd P 50 [] w fun t18 w =>
 Sto P 50 t6 t18 w fun w =>
 Rc P 50 t6 w fun r0 =>
 R (.returned (.tuple #[r0, (.int .i64 40)])) w)
 (Jn2 (fun k1 =>
 Cl P 53 #[t2, (str [48])] w (Pk R) fun t20 w =>
 Bn P .lss 3 true t20 (.int .i64 0) w fun t21 w =>
 If t21
 (Cl P 73 #[t0, (.func (.func 96) #[] #[]), (str [48]), t1] w (Pk R) fun t24 w =>
 Cl P 73 #[t0, (.func (.func 96) #[] #[]), (str [48]), t2] w (Pk R) fun t27 w =>
 k1 t24 t27 w)
 (k1 t1 t2 w))
 (fun t1x1 t2x1 w =>
 Cl P 73 #[t0, (.func (.func 78) #[] #[]), t1x1, t2x1] w (Pk R) fun t31 w =>
 Cl P 97 #[t0, t1x1, t31] w (Pk R) fun t35 w =>
 Cl P 97 #[t0, t2x1, t31] w (Pk R) fun t39 w =>
 Bd P 50 [(0, t35), (1, t39)] w fun t40 w =>
 Al P 50 w fun t9 w =>
 Sto P 50 t9 t40 w fun w =>
 Nc t0 w fun t42 w =>
 Fa P 113 t42 0 w fun t43 w =>
 Ld P 4 t43 w fun t44 w =>
 If t44
 (Bd P 50 [] w fun t45 w =>
 Sto P 50 t6 t45 w fun w =>
 Rc P 50 t6 w fun r0 =>
 R (.returned (.tuple #[r0, (.int .i64 40)])) w)
 (Ld P 50 t9 w fun t46 w =>
 Sto P 50 t6 t46 w fun w =>
 Rc P 50 t6 w fun r0 =>
 R (.returned (.tuple #[r0, (.int .i64 0)])) w)))
theorem e_rational_work_reduced (h : s_rational_work_reduced Tryz.prog t0 t1 t2 w R) : Calls Tryz.prog 69 #[t0, t1, t2] w R :=
 en1 (.sq .z (.sq (.sq .z (.cd (.sq .z .z) .z)) (.jn [1, 2] [19, 20, 21, 22, 23, 24, 25, 26, 27] (.sq .z (.cd .z .z)) (.sq .z (.sq .z (.sq (.sq .z (.cd (.sq .z .z) .z)) (.sq .z .z))))))) [t0, t1, t2] Tryz.func69 (by kernel_rfl) (by kernel_rfl) h
theorem n_rational_work_reduced : Enters Tryz.prog 69 := enters_of Tryz.func69 (by kernel_rfl) rfl
theorem n_strconv_Itoa : Enters Tryz.prog 70 := enters_of Tryz.func70 (by kernel_rfl) rfl
def s_rational_work_do (P : Program) (t0 t1 t2 t3 : Value) (w : World) (R : Ending → World → Prop) : Prop :=
 Nc t0 w fun t12 w =>
 Fa P 113 t12 0 w fun t13 w =>
 Ld P 4 t13 w fun t14 w =>
 If t14
 (R (.returned (str [])) w)
 (Cw P t1 #[t2, t3] w (Pk R) fun t19 w =>
 Ex t19 0 w fun t20 w =>
 Ex t19 1 w fun t21 w =>
 Bn P .neq 28 true t21 (.int .i64 0) w fun t24 w =>
 Nc t0 w fun t25 w =>
 Fa P 113 t25 0 w fun t26 w =>
 Sto P 4 t26 t24 w fun w =>
 R (.returned t20) w)
theorem e_rational_work_do (h : s_rational_work_do Tryz.prog t0 t1 t2 t3 w R) : Calls Tryz.prog 73 #[t0, t1, t2, t3] w R :=
 en1 (.sq .z (.sq (.sq .z (.cd (.sq .z .z) .z)) (.sq .z (.sq .z (.sq .z .z))))) [t0, t1, t2, t3] Tryz.func73 (by kernel_rfl) (by kernel_rfl) h
theorem n_rational_work_do : Enters Tryz.prog 73 := enters_of Tryz.func73 (by kernel_rfl) rfl
def s_integer_both (P : Program) (t0 t1 : Value) (w : World) (R : Ending → World → Prop) : Prop :=
 Al P 119 w fun t4 w =>
 Al P 119 w fun t5 w =>
 Cl P 95 #[t0] w (Pk R) fun t8 w =>
 Un P .not t8 w fun t9 w =>
 Gd t9 false (fun k => k t1 w) w fun t11 w =>
 Gd t9 false (fun k => Cl P 95 #[t11] w (Pk R) k) w fun t12 w =>
 Gd t9 false (fun k => Un P .not t12 w k) w fun t13 w =>
 Pick t9 (.bool true) t13 w fun t14 w =>
 If t14
 (Bd P 119 [] w fun t15 w =>
 Bd P 119 [] w fun t16 w =>
 Sto P 119 t4 t15 w fun w =>
 Sto P 119 t5 t16 w fun w =>
 Rc P 119 t4 w fun r0 =>
 Rc P 119 t5 w fun r1 =>
 R (.returned (.tuple #[r0, r1, (.bool false)])) w)
 (Cl P 102 #[t0] w (Pk R) fun t18 w =>
 Cl P 102 #[t1] w (Pk R) fun t20 w =>
 Sto P 119 t4 t18 w fun w =>
 Sto P 119 t5 t20 w fun w =>
 Rc P 119 t4 w fun r0 =>
 Rc P 119 t5 w fun r1 =>
 R (.returned (.tuple #[r0, r1, (.bool true)])) w)
theorem e_integer_both (h : s_integer_both Tryz.prog t0 t1 w R) : Calls Tryz.prog 75 #[t0, t1] w R :=
 en1 (.sq .z (.sq (.sq .z (.cd (.sq .z .z) .z)) (.sq .z .z))) [t0, t1] Tryz.func75 (by kernel_rfl) (by kernel_rfl) h
theorem n_integer_both : Enters Tryz.prog 75 := enters_of Tryz.func75 (by kernel_rfl) rfl
def s_integer_signed_plus (P : Program) (t0 t1 : Value) (w : World) (R : Ending → World → Prop) : Prop :=
 Bx P 119 t0 w fun t2 w =>
 Bx P 119 t1 w fun t3 w =>
 Al P 119 w fun t4 w =>
 Fa P 119 t2 0 w fun t6 w =>
 Ld P 4 t6 w fun t7 w =>
 Fa P 119 t3 0 w fun t8 w =>
 Ld P 4 t8 w fun t9 w =>
 Bn P .eql 4 false t7 t9 w fun t10 w =>
 If t10
 (dFl P 119 t2 0 w.drew fun t11 =>
 dL P 4 t11 w.drew fun t12 =>
 dFl P 119 t2 1 w.drew fun t13 =>
 dL P 117 t13 w.drew fun t14 =>
 dFl P 119 t3 1 w.drew fun t15 =>
 dL P 117 t15 w.drew fun t16 =>
 Cl P 80 #[t14, t16] w.drew (Pk R) fun t17 w =>
 kLd P 4 t11 t12 w <|
 Dv P true (Instr.build 119 #[(0, t12), (1, t17)]) w fun t18 =>
 Sto P 119 t4 t18 w fun w =>
 Rc P 119 t4 w fun r0 =>
 R (.returned r0) w)
 (Fa P 119 t2 1 w fun t20 w =>
 Ld P 117 t20 w fun t21 w =>
 Fa P 119 t3 1 w fun t22 w =>
 Ld P 117 t22 w fun t23 w =>
 Cl P 83 #[t21, t23] w (Pk R) fun t24 w =>
 Bn P .geq 3 true t24 (.int .i64 0) w fun t25 w =>
 If t25
 (dFl P 119 t2 0 w.drew fun t26 =>
 dL P 4 t26 w.drew fun t27 =>
 dFl P 119 t2 1 w.drew fun t28 =>
 dL P 117 t28 w.drew fun t29 =>
 dFl P 119 t3 1 w.drew fun t30 =>
 dL P 117 t30 w.drew fun t31 =>
 Cl P 82 #[t29, t31] w.drew (Pk R) fun t32 w =>
 kLd P 4 t26 t27 w <|
 Dv P true (Instr.build 119 #[(0, t27), (1, t32)]) w fun t33 =>
 Sto P 119 t4 t33 w fun w =>
 Rc P 119 t4 w fun r0 =>
 R (.returned r0) w)
 (dFl P 119 t3 0 w.drew fun t34 =>
 dL P 4 t34 w.drew fun t35 =>
 dFl P 119 t3 1 w.drew fun t36 =>
 dL P 117 t36 w.drew fun t37 =>
 dFl P 119 t2 1 w.drew fun t38 =>
 dL P 117 t38 w.drew fun t39 =>
 Cl P 82 #[t37, t39] w.drew (Pk R) fun t40 w =>
 kLd P 4 t34 t35 w <|
 Dv P true (Instr.build 119 #[(0, t35), (1, t40)]) w fun t41 =>
 Sto P 119 t4 t41 w fun w =>
 Rc P 119 t4 w fun r0 =>
 R (.returned r0) w))
theorem e_integer_signed_plus (h : s_integer_signed_plus Tryz.prog t0 t1 w R) : Calls Tryz.prog 76 #[t0, t1] w R :=
 en1 (.sq .z (.sq (.bk (.sq .z (.cd (.sq (.dr (.pur true 0 (.pur false 1 (.pur true 2 (.pur false 3 (.pur true 4 (.pur false 5 (.eff 6 [1] (.pur true 7 (.eff 8 [] .done)))))))))) .z) (.sq .z (.cd (.sq (.dr (.pur true 0 (.pur false 1 (.pur true 2 (.pur false 3 (.pur true 4 (.pur false 5 (.eff 6 [1] (.pur true 7 (.eff 8 [] .done)))))))))) .z) .z))))) (.sq (.dr (.pur true 0 (.pur false 1 (.pur true 2 (.pur false 3 (.pur true 4 (.pur false 5 (.eff 6 [1] (.pur true 7 (.eff 8 [] .done)))))))))) .z))) [t0, t1] Tryz.func76 (by kernel_rfl) (by kernel_rfl) h
theorem n_integer_signed_plus : Enters Tryz.prog 76 := enters_of Tryz.func76 (by kernel_rfl) rfl
def s_integer_signed_text (P : Program) (t0 : Value) (w : World) (R : Ending → World → Prop) : Prop :=
 Bx P 119 t0 w fun t1 w =>
 Fa P 119 t1 1 w fun t9 w =>
 Ld P 117 t9 w fun t10 w =>
 Bt P .len #[117] 3 #[t10] w fun t11 w =>
 Bn P .eql 3 true t11 (.int .i64 0) w fun t12 w =>
 If t12
 (R (.returned (.tuple #[(str [48]), (.int .i64 0)])) w)
 (Al P 145 w fun t4 w =>
 Fa P 119 t1 1 w fun t13 w =>
 Ld P 117 t13 w fun t14 w =>
 Cl P 103 #[t14] w (Pk R) fun t15 w =>
 Rf2 P t15 w (fun t16 t17 w next lv =>
 Cl P 70 #[t17] w (fun _ _ => False) fun t19 w =>
 Fa P 119 t1 1 w fun t21 w =>
 Ld P 117 t21 w fun t22 w =>
 Bt P .len #[117] 3 #[t22] w fun t23 w =>
 Bn P .sub 3 true t23 (.int .i64 1) w fun t24 w =>
 Bn P .lss 3 false t16 t24 w fun t25 w =>
 If t25
 (Bt P .len #[9] 3 #[t19] w fun t27 w =>
 Bn P .sub 3 true (.int .i64 4) t27 w fun t28 w =>
 Cl P 104 #[(str [48]), t28] w (fun _ _ => False) fun t29 w =>
 Bn P .add 9 false t29 t19 w fun t31 w =>
 Cl P 105 #[t4, t31] w (fun _ _ => False) fun t33 w =>
 next w)
 (Cl P 105 #[t4, t19] w (fun _ _ => False) fun t33x1 w =>
 next w))
 (fun D1 w =>
 Cl P 106 #[t4] w (fun c w => Tk P D1 w fun w => R (.panicked c) w) fun t34 w =>
 Bt P .len #[9] 3 #[t34] w fun t36 w =>
 Bn P .gtr 3 true t36 (.int .i64 200) w fun t37 w =>
 If t37
 (Tk P D1 w fun w =>
 R (.returned (.tuple #[(str []), (.int .i64 30)])) w)
 (Fa P 119 t1 0 w fun t38 w =>
 Ld P 4 t38 w fun t39 w =>
 If t39
 (Bn P .add 9 true (str [45]) t34 w fun t41 w =>
 Tk P D1 w fun w =>
 R (.returned (.tuple #[t41, (.int .i64 0)])) w)
 (Tk P D1 w fun w =>
 R (.returned (.tuple #[t34, (.int .i64 0)])) w)))
 (fun D1 w =>
 Tk P D1 w fun w =>
 R (.returned (.tuple #[(str []), (.int .i64 0)])) w) [])
theorem e_integer_signed_text (h : s_integer_signed_text Tryz.prog t0 w R) : Calls Tryz.prog 77 #[t0] w R :=
 en1 (.sq .z (.sq (.sq .z (.cd (.sq .z .z) .z)) (.sq .z (.sq (.sq .z (.bk (.rf (.bk (.sq .z (.sq (.sq .z (.cd .z .z)) .z))) []))) (.sq .z (.sq (.sq .z (.cd (.sq .z .z) .z)) (.sq (.sq .z (.cd (.sq .z .z) .z)) (.sq .z .z)))))))) [t0] Tryz.func77 (by kernel_rfl) (by kernel_rfl) h
theorem n_integer_signed_text : Enters Tryz.prog 77 := enters_of Tryz.func77 (by kernel_rfl) rfl
def s_integer_Gcd (P : Program) (t0 t1 : Value) (w : World) (R : Ending → World → Prop) : Prop :=
 Cl P 75 #[t0, t1] w (Pk R) fun t16 w =>
 Ex t16 0 w fun t17 w =>
 Ex t16 1 w fun t18 w =>
 Ex t16 2 w fun t19 w =>
 Al P 119 w fun t6 w =>
 Al P 119 w fun t7 w =>
 Sto P 119 t6 t17 w fun w =>
 Sto P 119 t7 t18 w fun w =>
 Un P .not t19 w fun t21 w =>
 If t21
 (R (.returned (.tuple #[(str []), (.int .i64 30)])) w)
 (dFl P 119 t6 1 w.drew fun t22 =>
 dL P 117 t22 w.drew fun t23 =>
 dFl P 119 t7 1 w.drew fun t24 =>
 dL P 117 t24 w.drew fun t25 =>
 Lp2 t23 t25 w.drew (fun t9 t10 w k1 =>
 Bt P .len #[117] 3 #[t10] w fun t27 w =>
 Bn P .gtr 3 true t27 (.int .i64 0) w fun t28 w =>
 If t28
 (Cl P 79 #[t9, t10] w (Pk R) fun t32 w =>
 Ex t32 0 w fun t33 w =>
 Ex t32 1 w fun t34 w =>
 k1 t10 t34 w)
 (Bd P 119 [(1, t9)] w fun t38 w =>
 Cl P 77 #[t38] w (Pk R) fun t39 w =>
 Ex t39 0 w fun t40 w =>
 Ex t39 1 w fun t41 w =>
 R (.returned (.tuple #[t40, t41])) w)))
theorem e_integer_Gcd (h : s_integer_Gcd Tryz.prog t0 t1 w R) : Calls Tryz.prog 78 #[t0, t1] w R :=
 en1 (.sq .z (.sq .z (.sq (.sq .z (.cd (.sq .z .z) .z)) (.sq (.dr (.pur true 0 (.pur false 1 (.pur true 2 (.pur false 3 (.pur true 4 (.pur true 5 .done))))))) (.sq (.bk (.lp [9, 10] [11, 12, 26, 27, 28, 29, 30, 31, 32, 33, 34, 35, 36] (.sq (.sq .z (.cd .z .z)) (.bk (.sq .z .z))))) (.sq .z .z)))))) [t0, t1] Tryz.func78 (by kernel_rfl) (by kernel_rfl) h
theorem n_integer_Gcd : Enters Tryz.prog 78 := enters_of Tryz.func78 (by kernel_rfl) rfl
def s_integer_number_over (P : Program) (t0 t1 : Value) (w : World) (R : Ending → World → Prop) : Prop :=
 Bx P 117 t1 w fun t3 w =>
 Al P 117 w fun t4 w =>
 Al P 117 w fun t5 w =>
 Bt P .len #[117] 3 #[t0] w fun t11 w =>
 Ms P 117 t11 t11 w fun t12 w =>
 Sto P 117 t4 t12 w fun w =>
 Cl P 103 #[t0] w (Pk R) fun t14 w =>
 Rf2 P t14 w (fun t15 t16 w next lv =>
 Bs P 117 1 [(0, t16)] w fun t18 w =>
 Ld P 117 t5 w fun t19 w =>
 Bt P .append #[117, 117] 117 #[t18, t19] w fun t20 w =>
 Cl P 107 #[t20] w (fun _ _ => False) fun t21 w =>
 Sto P 117 t5 t21 w fun w =>
 Ld P 117 t3 w fun t22 w =>
 Al P 151 w fun t8 w =>
 Sto P 151 t8 (.func (.func 108) #[t22] #[]) w fun w =>
 dL P 117 t4 w.drew fun t25 =>
 Cl P 110 #[(.int .i64 9999), (.func (.func 109) #[] #[t8, t5])] w.drew (fun _ _ => False) fun t28 w =>
 kLd P 117 t4 t25 w <|
 dIx P 117 t25 t15 w fun t29 =>
 Sto P 3 t29 t28 w fun w =>
 dL P 117 t5 w.drew fun t30 =>
 dL P 151 t8 w.drew fun t31 =>
 dL P 117 t4 w.drew fun t32 =>
 dIx P 117 t32 t15 w.drew fun t34 =>
 dL P 3 t34 w.drew fun t35 =>
 Cw P t31 #[t35] w.drew (fun _ _ => False) fun t36 w =>
 kLd P 117 t5 t30 w <|
 Cl P 82 #[t30, t36] w (fun _ _ => False) fun t37 w =>
 Sto P 117 t5 t37 w fun w =>
 next w)
 (fun D1 w =>
 dL P 117 t4 w.drew fun t38 =>
 dL P 117 t5 w.drew fun t40 =>
 Cl P 107 #[t38] w.drew (fun c w => Tk P D1 w fun w => R (.panicked c) w) fun t39 w =>
 kLd P 117 t5 t40 w <|
 Sto P 117 t4 t39 w fun w =>
 kLd P 117 t5 t40 w <|
 Sto P 117 t5 t40 w fun w =>
 Tk P D1 w fun w =>
 Rc P 117 t4 w fun r0 =>
 Rc P 117 t5 w fun r1 =>
 R (.returned (.tuple #[r0, r1])) w)
 (fun D1 w =>
 Tk P D1 w fun w =>
 Rc P 117 t4 w fun r0 =>
 Rc P 117 t5 w fun r1 =>
 R (.returned (.tuple #[r0, r1])) w) []
theorem e_integer_number_over (h : s_integer_number_over Tryz.prog t0 t1 w R) : Calls Tryz.prog 79 #[t0, t1] w R :=
 en1 (.sq .z (.sq .z (.sq (.sq .z (.bk (.rf (.bk (.sq .z (.sq .z (.sq .z (.sq (.dr (.pur false 0 (.pur true 1 (.pur true 2 (.eff 3 [0] (.pur true 4 (.eff 5 [] .done))))))) (.dr (.pur false 0 (.pur false 1 (.pur false 2 (.pur true 3 (.pur true 4 (.pur false 5 (.eff 6 [0] (.eff 7 [] (.eff 8 [] .done))))))))))))))) []))) (.sq (.dr (.pur false 0 (.pur false 2 (.eff 1 [2] (.eff 3 [2] (.eff 4 [] .done)))))) .z)))) [t0, t1] Tryz.func79 (by kernel_rfl) (by kernel_rfl) h
theorem n_integer_number_over : Enters Tryz.prog 79 := enters_of Tryz.func79 (by kernel_rfl) rfl
def s_integer_number_plus (P : Program) (t0 t1 : Value) (w : World) (R : Ending → World → Prop) : Prop :=
 Bx P 117 t0 w fun t2 w =>
 Bx P 117 t1 w fun t3 w =>
 Ld P 117 t2 w fun t5 w =>
 Bt P .len #[117] 3 #[t5] w fun t6 w =>
 Ld P 117 t3 w fun t7 w =>
 Bt P .len #[117] 3 #[t7] w fun t8 w =>
 Bt P .max #[3, 3] 3 #[t6, t8] w fun t9 w =>
 Cl P 111 #[t9, (.int .i64 0), (.func (.func 112) #[] #[t2, t3])] w (Pk R) fun t11 w =>
 Cl P 107 #[t11] w (Pk R) fun t12 w =>
 R (.returned t12) w
theorem e_integer_number_plus (h : s_integer_number_plus Tryz.prog t0 t1 w R) : Calls Tryz.prog 80 #[t0, t1] w R :=
 en1 (.sq .z (.sq .z .z)) [t0, t1] Tryz.func80 (by kernel_rfl) (by kernel_rfl) h
theorem n_integer_number_plus : Enters Tryz.prog 80 := enters_of Tryz.func80 (by kernel_rfl) rfl
def s_integer_one (P : Program) (w : World) (R : Ending → World → Prop) : Prop :=
 Bs P 117 1 [(0, (.int .i64 1))] w fun t1 w =>
 R (.returned t1) w
theorem e_integer_one (h : s_integer_one Tryz.prog  w R) : Calls Tryz.prog 81 #[] w R :=
 en1 (.sq .z (.sq .z .z)) [] Tryz.func81 (by kernel_rfl) (by kernel_rfl) h
theorem n_integer_one : Enters Tryz.prog 81 := enters_of Tryz.func81 (by kernel_rfl) rfl
def s_integer_number_minus (P : Program) (t0 t1 : Value) (w : World) (R : Ending → World → Prop) : Prop :=
 Bx P 117 t0 w fun t2 w =>
 Bx P 117 t1 w fun t3 w =>
 Ld P 117 t2 w fun t5 w =>
 Bt P .len #[117] 3 #[t5] w fun t6 w =>
 Cl P 111 #[t6, (.int .i64 0), (.func (.func 114) #[] #[t2, t3])] w (Pk R) fun t8 w =>
 Cl P 107 #[t8] w (Pk R) fun t9 w =>
 R (.returned t9) w
theorem e_integer_number_minus (h : s_integer_number_minus Tryz.prog t0 t1 w R) : Calls Tryz.prog 82 #[t0, t1] w R :=
 en1 (.sq .z (.sq .z .z)) [t0, t1] Tryz.func82 (by kernel_rfl) (by kernel_rfl) h
theorem n_integer_number_minus : Enters Tryz.prog 82 := enters_of Tryz.func82 (by kernel_rfl) rfl
def s_integer_number_compare (P : Program) (t0 t1 : Value) (w : World) (R : Ending → World → Prop) : Prop :=
 Bx P 117 t1 w fun t3 w =>
 Al P 3 w fun t4 w =>
 Bt P .len #[117] 3 #[t0] w fun t8 w =>
 Ld P 117 t3 w fun t9 w =>
 Bt P .len #[117] 3 #[t9] w fun t10 w =>
 Bn P .neq 3 false t8 t10 w fun t11 w =>
 If t11
 (Bt P .len #[117] 3 #[t0] w fun t13 w =>
 Ld P 117 t3 w fun t14 w =>
 Bt P .len #[117] 3 #[t14] w fun t15 w =>
 Cl P 90 #[t13, t15] w (Pk R) fun t16 w =>
 Sto P 3 t4 t16 w fun w =>
 Rc P 3 t4 w fun r0 =>
 R (.returned r0) w)
 (Cl P 103 #[t0] w (Pk R) fun t18 w =>
 Rf2 P t18 w (fun t19 t20 w next lv =>
 Ld P 117 t3 w fun t22 w =>
 Ia P 117 t22 t19 w fun t24 w =>
 Ld P 3 t24 w fun t25 w =>
 Bn P .neq 3 false t20 t25 w fun t26 w =>
 If t26
 (Ld P 117 t3 w fun t28 w =>
 Ia P 117 t28 t19 w fun t30 w =>
 Ld P 3 t30 w fun t31 w =>
 Cl P 90 #[t20, t31] w (fun _ _ => False) fun t32 w =>
 Sto P 3 t4 t32 w fun w =>
 lv .ret w)
 (next w))
 (fun D1 w =>
 Sto P 3 t4 (.int .i64 0) w fun w =>
 Tk P D1 w fun w =>
 Rc P 3 t4 w fun r0 =>
 R (.returned r0) w)
 (fun D1 w =>
 Tk P D1 w fun w =>
 Rc P 3 t4 w fun r0 =>
 R (.returned r0) w) [])
theorem e_integer_number_compare (h : s_integer_number_compare Tryz.prog t0 t1 w R) : Calls Tryz.prog 83 #[t0, t1] w R :=
 en1 (.sq .z (.sq (.sq .z (.cd (.sq .z .z) .z)) (.sq (.sq .z (.bk (.rf (.bk (.sq .z (.cd (.sq .z .z) .z))) []))) (.sq .z .z)))) [t0, t1] Tryz.func83 (by kernel_rfl) (by kernel_rfl) h
theorem n_integer_number_compare : Enters Tryz.prog 83 := enters_of Tryz.func83 (by kernel_rfl) rfl
def s_slices_IndexFunc_int_int (P : Program) (t0 t1 : Value) (w : World) (R : Ending → World → Prop) : Prop :=
 Bt P .len #[24] 3 #[t0] w fun t7 w =>
 Lp1 (.int .i64 0) w (fun t8 w k1 =>
 Bn P .lss 3 false t8 t7 w fun t9 w =>
 If t9
 (Ia P 24 t0 t8 w fun t14 w =>
 Ld P 3 t14 w fun t15 w =>
 Cw P t1 #[t15] w (Pk R) fun t16 w =>
 If t16
 (R (.returned t8) w)
 (Bn P .add 3 true t8 (.int .i64 1) w fun t18 w =>
 k1 t18 w))
 (R (.returned (.int .i64 (-1))) w))
theorem e_slices_IndexFunc_int_int (h : s_slices_IndexFunc_int_int Tryz.prog t0 t1 w R) : Calls Tryz.prog 84 #[t0, t1] w R :=
 en1 (.sq .z (.sq (.sq .z (.bk (.lp [8] [4, 5, 9, 10, 11, 12, 13, 14, 15, 16, 17, 18] (.sq .z (.sq (.cd .z .z) (.sq (.bk (.sq .z (.sq .z (.cd (.sq .z .z) .z)))) .z)))))) (.sq .z .z))) [t0, t1] Tryz.func84 (by kernel_rfl) (by kernel_rfl) h
theorem n_slices_IndexFunc_int_int : Enters Tryz.prog 84 := enters_of Tryz.func84 (by kernel_rfl) rfl
def s_sample_traces_1 (P : Program) (t0 t1 : Value) (w : World) (R : Ending → World → Prop) : Prop :=
 Lp1 (.int .i64 0) w (fun t3 w k1 =>
 Ld P 34 t1 w fun t6 w =>
 Bt P .len #[34] 3 #[t6] w fun t7 w =>
 Bn P .lss 3 false t3 t7 w fun t8 w =>
 If t8
 (Bn P .add 3 true t3 (.int .i64 1) w fun t10 w =>
 Lp1 t10 w (fun t4 w k2 =>
 dL P 34 t1 w.drew fun t12 =>
 Dv P true (bV .len #[34] 3 #[t12]) w.drew fun t13 =>
 Dv P true (bn .lss 3 false t4 t13) w.drew fun t14 =>
 GdP t14 true (fun k => dL P 34 t1 w.drew k) fun t16 =>
 GdP t14 true (fun k => k t4) fun t17 =>
 GdP t14 true (fun k => dIx P 34 t16 t17 w.drew k) fun t18 =>
 GdP t14 true (fun k => dFl P 46 t18 0 w.drew k) fun t19 =>
 GdP t14 true (fun k => dL P 3 t19 w.drew k) fun t20 =>
 GdP t14 true (fun k => dL P 34 t1 w.drew k) fun t21 =>
 GdP t14 true (fun k => k t3) fun t22 =>
 GdP t14 true (fun k => dIx P 34 t21 t22 w.drew k) fun t23 =>
 GdP t14 true (fun k => dFl P 46 t23 0 w.drew k) fun t24 =>
 GdP t14 true (fun k => dL P 3 t24 w.drew k) fun t25 =>
 GdP t14 true (fun k => Dv P true (bn .eql 3 false t20 t25) w.drew k) fun t26 =>
 PickP t14 t26 (.bool false) fun t27 =>
 If t27
 (Bn P .add 3 true t4 (.int .i64 1) w.drew fun t29 w =>
 k2 t29 w)
 (Ld P 34 t1 w.drew fun t31 w =>
 Sc P 34 t31 (some t3) (some t4) none w fun t34 w =>
 Cw P t0 #[t34] w (Pk R) fun t35 w =>
 Un P .not t35 w fun t36 w =>
 If t36
 (R (.returned (.tuple #[])) w)
 (k1 t4 w))))
 (R (.returned (.tuple #[])) w))
theorem e_sample_traces_1 (h : s_sample_traces_1 Tryz.prog t0 t1 w R) : Calls Tryz.prog 85 #[t0, t1] w R :=
 en1 (.sq .z (.bk (.lp [3] [4, 5, 6, 7, 8, 9, 10, 11, 12, 13, 14, 15, 16, 17, 18, 19, 20, 21, 22, 23, 24, 25, 26, 27, 28, 29, 30, 31, 32, 33, 34, 35, 36, 37] (.sq (.sq .z (.cd .z .z)) (.bk (.sq .z (.sq (.bk (.lp [4] [11, 12, 13, 14, 15, 16, 17, 18, 19, 20, 21, 22, 23, 24, 25, 26, 27, 28, 29] (.sq (.sq (.dr (.pur true 0 (.pur false 1 (.pur true 2 (.pur true 3 (.pur true 4 (.pur false 5 (.pur true 6 (.pur true 7 (.pur true 8 (.pur false 9 (.pur false 10 (.pur true 11 (.pur true 12 (.pur true 13 (.pur false 14 (.pur true 15 (.pur true 16 .done)))))))))))))))))) (.cd .z .z)) (.bk .z)))) (.sq (.sq .z (.cd .z .z)) .z)))))))) [t0, t1] Tryz.func85 (by kernel_rfl) (by kernel_rfl) h
theorem n_sample_traces_1 : Enters Tryz.prog 85 := enters_of Tryz.func85 (by kernel_rfl) rfl
def s_trace_within (P : Program) (t0 t1 t2 : Value) (w : World) (R : Ending → World → Prop) : Prop :=
 Bn P .geq 3 false t0 t1 w fun t9 w =>
 Gd t9 true (fun k => k t0 w) w fun t11 w =>
 Gd t9 true (fun k => k t2 w) w fun t12 w =>
 Gd t9 true (fun k => Bn P .leq 3 false t11 t12 w k) w fun t13 w =>
 Pick t9 t13 (.bool false) w fun t14 w =>
 R (.returned t14) w
theorem e_trace_within (h : s_trace_within Tryz.prog t0 t1 t2 w R) : Calls Tryz.prog 88 #[t0, t1, t2] w R :=
 en1 (.sq .z (.sq .z .z)) [t0, t1, t2] Tryz.func88 (by kernel_rfl) (by kernel_rfl) h
theorem n_trace_within : Enters Tryz.prog 88 := enters_of Tryz.func88 (by kernel_rfl) rfl
def s_cmp_Or_int (P : Program) (t0 : Value) (w : World) (R : Ending → World → Prop) : Prop :=
 Bt P .len #[24] 3 #[t0] w fun t7 w =>
 Lp1 (.int .i64 0) w (fun t8 w k1 =>
 Bn P .lss 3 false t8 t7 w fun t9 w =>
 If t9
 (Ia P 24 t0 t8 w fun t10 w =>
 Ld P 3 t10 w fun t11 w =>
 Bn P .neq 3 false t11 (.int .i64 0) w fun t14 w =>
 If t14
 (R (.returned t11) w)
 (Bn P .add 3 true t8 (.int .i64 1) w fun t16 w =>
 k1 t16 w))
 (R (.returned (.int .i64 0)) w))
theorem e_cmp_Or_int (h : s_cmp_Or_int Tryz.prog t0 w R) : Calls Tryz.prog 89 #[t0] w R :=
 en1 (.sq .z (.sq .z (.sq (.sq .z (.bk (.lp [8] [2, 5, 9, 10, 11, 12, 13, 14, 15, 16] (.sq .z (.sq (.cd .z .z) (.sq (.bk (.sq .z (.sq .z (.cd (.sq .z .z) .z)))) .z)))))) (.sq .z .z)))) [t0] Tryz.func89 (by kernel_rfl) (by kernel_rfl) h
theorem n_cmp_Or_int : Enters Tryz.prog 89 := enters_of Tryz.func89 (by kernel_rfl) rfl
def s_cmp_Compare_int (P : Program) (t0 t1 : Value) (w : World) (R : Ending → World → Prop) : Prop :=
 Cl P 120 #[t0] w (Pk R) fun t8 w =>
 Cl P 120 #[t1] w (Pk R) fun t10 w =>
 If t8
 (If t10
 (R (.returned (.int .i64 0)) w)
 (R (.returned (.int .i64 (-1))) w))
 (If t10
 (R (.returned (.int .i64 1)) w)
 (Bn P .lss 3 false t0 t1 w fun t16 w =>
 If t16
 (R (.returned (.int .i64 (-1))) w)
 (Bn P .gtr 3 false t0 t1 w fun t19 w =>
 If t19
 (R (.returned (.int .i64 1)) w)
 (R (.returned (.int .i64 0)) w))))
theorem e_cmp_Compare_int (h : s_cmp_Compare_int Tryz.prog t0 t1 w R) : Calls Tryz.prog 90 #[t0, t1] w R :=
 en1 (.sq .z (.sq .z (.sq .z (.sq (.sq .z (.cd (.sq (.sq .z (.cd (.sq .z .z) .z)) (.sq .z .z)) .z)) (.sq (.sq .z (.cd (.sq .z .z) .z)) (.sq (.sq .z (.cd (.sq .z .z) .z)) (.sq (.sq .z (.cd (.sq .z .z) .z)) (.sq .z .z)))))))) [t0, t1] Tryz.func90 (by kernel_rfl) (by kernel_rfl) h
theorem n_cmp_Compare_int : Enters Tryz.prog 90 := enters_of Tryz.func90 (by kernel_rfl) rfl
def s_seed_isNamed (P : Program) (t0 t1 : Value) (w : World) (R : Ending → World → Prop) : Prop :=
 Bn P .neq 9 true t0 (str []) w fun t6 w =>
 Gd t6 true (fun k => k t0 w) w fun t8 w =>
 Gd t6 true (fun k => Bt P .len #[9] 3 #[t8] w k) w fun t9 w =>
 Gd t6 true (fun k => Bn P .leq 3 true t9 (.int .i64 40) w k) w fun t10 w =>
 Pick t6 t10 (.bool false) w fun t11 w =>
 Gd t11 true (fun k => k t1 w) w fun t13 w =>
 Gd t11 true (fun k => Bn P .geq 3 true t13 (.int .i64 0) w k) w fun t14 w =>
 Pick t11 t14 (.bool false) w fun t15 w =>
 Gd t15 true (fun k => k t1 w) w fun t17 w =>
 Gd t15 true (fun k => Bn P .leq 3 true t17 (.int .i64 4611686018427387903) w k) w fun t18 w =>
 Pick t15 t18 (.bool false) w fun t19 w =>
 R (.returned t19) w
theorem e_seed_isNamed (h : s_seed_isNamed Tryz.prog t0 t1 w R) : Calls Tryz.prog 91 #[t0, t1] w R :=
 en1 (.sq .z (.sq .z .z)) [t0, t1] Tryz.func91 (by kernel_rfl) (by kernel_rfl) h
theorem n_seed_isNamed : Enters Tryz.prog 91 := enters_of Tryz.func91 (by kernel_rfl) rfl
def s_wire_PutString (P : Program) (t0 : Value) (w : World) (R : Ending → World → Prop) : Prop :=
 Bt P .len #[9] 3 #[t0] w fun t7 w =>
 Bn P .gtr 3 true t7 (.int .i64 65536) w fun t8 w =>
 If t8
 (R (.returned (.tuple #[(str []), (.int .i64 10)])) w)
 (Bt P .len #[9] 3 #[t0] w fun t11 w =>
 Cl P 93 #[t11] w (Pk R) fun t12 w =>
 Ex t12 0 w fun t13 w =>
 Ex t12 1 w fun t14 w =>
 Bn P .add 9 false t13 t0 w fun t17 w =>
 R (.returned (.tuple #[t17, (.int .i64 0)])) w)
theorem e_wire_PutString (h : s_wire_PutString Tryz.prog t0 w R) : Calls Tryz.prog 92 #[t0] w R :=
 en1 (.sq .z (.sq (.sq .z (.cd (.sq .z .z) .z)) (.sq .z (.sq .z .z)))) [t0] Tryz.func92 (by kernel_rfl) (by kernel_rfl) h
theorem n_wire_PutString : Enters Tryz.prog 92 := enters_of Tryz.func92 (by kernel_rfl) rfl
def s_wire_PutInt (P : Program) (t0 : Value) (w : World) (R : Ending → World → Prop) : Prop :=
 Bn P .lss 3 true t0 (.int .i64 (-4611686018427387903)) w fun t8 w =>
 Gd t8 false (fun k => k t0 w) w fun t10 w =>
 Gd t8 false (fun k => Bn P .gtr 3 true t10 (.int .i64 4611686018427387903) w k) w fun t11 w =>
 Pick t8 (.bool true) t11 w fun t12 w =>
 If t12
 (R (.returned (.tuple #[(str []), (.int .i64 10)])) w)
 (Al P 139 w fun t4 w =>
 Cv P 3 138 t0 w fun t14 w =>
 Bn P .shl 138 true t14 (.int .u64 1) w fun t15 w =>
 Bn P .shr 3 true t0 (.int .u64 63) w fun t17 w =>
 Cv P 3 138 t17 w fun t18 w =>
 Bn P .xor 138 false t15 t18 w fun t19 w =>
 Cl P 121 #[t19] w (Pk R) fun t20 w =>
 Rf2 P t20 w (fun t21 t22 w next lv =>
 Jn1 (fun k1 =>
 Un P .not t22 w fun t24 w =>
 If t24
 (Bn P .or 5 true t21 (.int .u8 128) w fun t26 w =>
 k1 t26 w)
 (k1 t21 w))
 (fun t5 w =>
 Ld P 139 t4 w fun t27 w =>
 Bs P 139 1 [(0, t5)] w fun t29 w =>
 Bt P .append #[139, 139] 139 #[t27, t29] w fun t30 w =>
 Sto P 139 t4 t30 w fun w =>
 next w))
 (fun D1 w =>
 Ld P 139 t4 w fun t31 w =>
 Cv P 139 9 t31 w fun t32 w =>
 Tk P D1 w fun w =>
 R (.returned (.tuple #[t32, (.int .i64 0)])) w)
 (fun D1 w =>
 Tk P D1 w fun w =>
 R (.returned (.tuple #[(str []), (.int .i64 0)])) w) [])
theorem e_wire_PutInt (h : s_wire_PutInt Tryz.prog t0 w R) : Calls Tryz.prog 93 #[t0] w R :=
 en1 (.sq .z (.sq (.sq .z (.cd (.sq .z .z) .z)) (.sq .z (.sq (.sq .z (.bk (.rf (.bk (.jn [5] [23, 24, 25, 26] (.sq .z (.cd .z .z)) .z)) []))) (.sq .z .z))))) [t0] Tryz.func93 (by kernel_rfl) (by kernel_rfl) h
theorem n_wire_PutInt : Enters Tryz.prog 93 := enters_of Tryz.func93 (by kernel_rfl) rfl
def s_digest_Sum (P : Program) (t0 : Value) (w : World) (R : Ending → World → Prop) : Prop :=
 Bd P 165 [(0, (.int .u32 1779033703)), (1, (.int .u32 3144134277)), (2, (.int .u32 1013904242)), (3, (.int .u32 2773480762)), (4, (.int .u32 1359893119)), (5, (.int .u32 2600822924)), (6, (.int .u32 528734635)), (7, (.int .u32 1541459225))] w fun t7 w =>
 Al P 165 w fun t3 w =>
 Sto P 165 t3 t7 w fun w =>
 Cv P 9 139 t0 w fun t9 w =>
 Bs P 139 1 [(0, (.int .u8 128))] w fun t10 w =>
 Bt P .append #[139, 139] 139 #[t9, t10] w fun t11 w =>
 Lp1 t11 w (fun t4 w k1 =>
 Bt P .len #[139] 3 #[t4] w fun t13 w =>
 Bn P .rem 3 true t13 (.int .i64 64) w fun t14 w =>
 Bn P .neq 3 true t14 (.int .i64 56) w fun t15 w =>
 If t15
 (Bs P 139 1 [(0, (.int .u8 0))] w fun t17 w =>
 Bt P .append #[139, 139] 139 #[t4, t17] w fun t18 w =>
 k1 t18 w)
 (Lp2 t4 (.int .i64 7) w (fun t4x1 t5 w k2 =>
 Bn P .geq 3 true t5 (.int .i64 0) w fun t20 w =>
 If t20
 (Bt P .len #[9] 3 #[t0] w fun t25 w =>
 Bn P .mul 3 true (.int .i64 8) t25 w fun t26 w =>
 Bn P .mul 3 true (.int .i64 8) t5 w fun t28 w =>
 Bn P .shr 3 false t26 t28 w fun t29 w =>
 Cv P 3 5 t29 w fun t30 w =>
 Bs P 139 1 [(0, t30)] w fun t31 w =>
 Bt P .append #[139, 139] 139 #[t4x1, t31] w fun t32 w =>
 Bn P .sub 3 true t5 (.int .i64 1) w fun t22 w =>
 k2 t32 t22 w)
 (Cl P 122 #[t4x1, (.int .i64 64)] w (Pk R) fun t34 w =>
 Rf1 P t34 w (fun t35 w next lv =>
 Cl P 123 #[t3, t35] w (fun _ _ => False) fun t37 w =>
 next w)
 (fun D1 w =>
 Ld P 165 t3 w fun t38 w =>
 Cl P 124 #[t38] w (fun c w => Tk P D1 w fun w => R (.panicked c) w) fun t39 w =>
 Tk P D1 w fun w =>
 R (.returned t39) w)
 (fun D1 w =>
 Tk P D1 w fun w =>
 R (.returned (str [])) w) []))))
theorem e_digest_Sum (h : s_digest_Sum Tryz.prog t0 w R) : Calls Tryz.prog 94 #[t0] w R :=
 en1 (.sq .z (.sq .z (.sq .z (.sq (.bk (.lp [4] [12, 13, 14, 15, 16, 17, 18] (.sq (.sq .z (.cd .z .z)) (.bk .z)))) (.sq (.sq .z (.bk (.lp [4, 5] [19, 20, 21, 22, 23, 24, 25, 26, 27, 28, 29, 30, 31, 32] (.sq (.sq .z (.cd .z .z)) (.sq (.bk .z) .z))))) (.sq (.sq .z (.bk (.rf (.bk .z) []))) (.sq .z .z))))))) [t0] Tryz.func94 (by kernel_rfl) (by kernel_rfl) h
theorem n_digest_Sum : Enters Tryz.prog 94 := enters_of Tryz.func94 (by kernel_rfl) rfl
def s_integer_isValid (P : Program) (t0 : Value) (w : World) (R : Ending → World → Prop) : Prop :=
 Cl P 125 #[t0, (str [45])] w (Pk R) fun t5 w =>
 Bn P .eql 9 true t5 (str []) w fun t7 w =>
 Gd t7 false (fun k => k t5 w) w fun t9 w =>
 Gd t7 false (fun k => Bt P .len #[9] 3 #[t9] w k) w fun t10 w =>
 Gd t7 false (fun k => Bn P .gtr 3 true t10 (.int .i64 200) w k) w fun t11 w =>
 Pick t7 (.bool true) t11 w fun t12 w =>
 Gd t12 false (fun k => k t5 w) w fun t14 w =>
 Gd t12 false (fun k => Cl P 126 #[t14, (str [48, 49, 50, 51, 52, 53, 54, 55, 56, 57])] w (Pk R) k) w fun t15 w =>
 Gd t12 false (fun k => Bn P .neq 9 true t15 (str []) w k) w fun t16 w =>
 Pick t12 (.bool true) t16 w fun t17 w =>
 If t17
 (R (.returned (.bool false)) w)
 (Bn P .eql 9 true t0 (str [48]) w fun t19 w =>
 Gd t19 false (fun k => k t5 w) w fun t21 w =>
 Gd t19 false (fun k => Ix P 9 t21 (.int .i64 0) w k) w fun t22 w =>
 Gd t19 false (fun k => Bn P .neq 5 true t22 (.int .u8 48) w k) w fun t23 w =>
 Pick t19 (.bool true) t23 w fun t24 w =>
 R (.returned t24) w)
theorem e_integer_isValid (h : s_integer_isValid Tryz.prog t0 w R) : Calls Tryz.prog 95 #[t0] w R :=
 en1 (.sq .z (.sq .z (.sq (.sq .z (.cd (.sq .z .z) .z)) (.sq .z .z)))) [t0] Tryz.func95 (by kernel_rfl) (by kernel_rfl) h
theorem n_integer_isValid : Enters Tryz.prog 95 := enters_of Tryz.func95 (by kernel_rfl) rfl
def s_integer_Sub (P : Program) (t0 t1 : Value) (w : World) (R : Ending → World → Prop) : Prop :=
 Cl P 75 #[t0, t1] w (Pk R) fun t12 w =>
 Ex t12 0 w fun t13 w =>
 Ex t12 1 w fun t14 w =>
 Ex t12 2 w fun t15 w =>
 Al P 119 w fun t6 w =>
 Al P 119 w fun t7 w =>
 Sto P 119 t6 t13 w fun w =>
 Sto P 119 t7 t14 w fun w =>
 Un P .not t15 w fun t17 w =>
 If t17
 (R (.returned (.tuple #[(str []), (.int .i64 30)])) w)
 (Fa P 119 t7 0 w fun t18 w =>
 Ld P 4 t18 w fun t19 w =>
 Un P .not t19 w fun t20 w =>
 Fa P 119 t7 0 w fun t21 w =>
 Sto P 4 t21 t20 w fun w =>
 Ld P 119 t6 w fun t22 w =>
 Ld P 119 t7 w fun t23 w =>
 Cl P 76 #[t22, t23] w (Pk R) fun t24 w =>
 Cl P 77 #[t24] w (Pk R) fun t25 w =>
 Ex t25 0 w fun t26 w =>
 Ex t25 1 w fun t27 w =>
 R (.returned (.tuple #[t26, t27])) w)
theorem e_integer_Sub (h : s_integer_Sub Tryz.prog t0 t1 w R) : Calls Tryz.prog 96 #[t0, t1] w R :=
 en1 (.sq .z (.sq .z (.sq (.sq .z (.cd (.sq .z .z) .z)) (.sq .z (.sq .z .z))))) [t0, t1] Tryz.func96 (by kernel_rfl) (by kernel_rfl) h
theorem n_integer_Sub : Enters Tryz.prog 96 := enters_of Tryz.func96 (by kernel_rfl) rfl
def s_rational_work_quotient (P : Program) (t0 t1 t2 : Value) (w : World) (R : Ending → World → Prop) : Prop :=
 Cl P 73 #[t0, (.func (.func 127) #[] #[]), t1, t2] w (Pk R) fun t10 w =>
 R (.returned t10) w
theorem e_rational_work_quotient (h : s_rational_work_quotient Tryz.prog t0 t1 t2 w R) : Calls Tryz.prog 97 #[t0, t1, t2] w R :=
 en1 (.sq .z (.sq .z .z)) [t0, t1, t2] Tryz.func97 (by kernel_rfl) (by kernel_rfl) h
theorem n_rational_work_quotient : Enters Tryz.prog 97 := enters_of Tryz.func97 (by kernel_rfl) rfl
def s_integer_parse (P : Program) (t0 : Value) (w : World) (R : Ending → World → Prop) : Prop :=
 Al P 119 w fun t2 w =>
 Cl P 125 #[t0, (str [45])] w (Pk R) fun t9 w =>
 Bt P .len #[9] 3 #[t9] w fun t11 w =>
 Bt P .len #[9] 3 #[t0] w fun t13 w =>
 Bn P .lss 3 false t11 t13 w fun t14 w =>
 Bd P 119 [(0, t14)] w fun t15 w =>
 Al P 119 w fun t4 w =>
 Sto P 119 t4 t15 w fun w =>
 Lp1 t9 w (fun t3 w k1 =>
 Bt P .len #[9] 3 #[t3] w fun t17 w =>
 Bn P .gtr 3 true t17 (.int .i64 0) w fun t18 w =>
 If t18
 (Bt P .len #[9] 3 #[t3] w fun t20 w =>
 Bn P .sub 3 true t20 (.int .i64 4) w fun t21 w =>
 Bt P .max #[3, 3] 3 #[(.int .i64 0), t21] w fun t22 w =>
 Sc P 9 t3 (some t22) none none w fun t26 w =>
 Cl P 60 #[t26] w (Pk R) fun t27 w =>
 Ex t27 0 w fun t28 w =>
 Ex t27 1 w fun t29 w =>
 Fa P 119 t4 1 w fun t30 w =>
 Ld P 117 t30 w fun t31 w =>
 Bs P 117 1 [(0, t28)] w fun t33 w =>
 Bt P .append #[117, 117] 117 #[t31, t33] w fun t34 w =>
 Fa P 119 t4 1 w fun t35 w =>
 Sto P 117 t35 t34 w fun w =>
 Sc P 9 t3 none (some t22) none w fun t38 w =>
 k1 t38 w)
 (Fa P 119 t4 1 w fun t39 w =>
 Ld P 117 t39 w fun t40 w =>
 Cl P 107 #[t40] w (Pk R) fun t41 w =>
 Fa P 119 t4 1 w fun t42 w =>
 Sto P 117 t42 t41 w fun w =>
 Ld P 119 t4 w fun t43 w =>
 Sto P 119 t2 t43 w fun w =>
 Rc P 119 t2 w fun r0 =>
 R (.returned r0) w))
theorem e_integer_parse (h : s_integer_parse Tryz.prog t0 w R) : Calls Tryz.prog 102 #[t0] w R :=
 en1 (.sq .z (.sq .z (.sq .z (.sq (.bk (.lp [3] [5, 6, 7, 16, 17, 18, 19, 20, 21, 22, 23, 24, 25, 26, 27, 28, 29, 30, 31, 32, 33, 34, 35, 36, 37, 38] (.sq (.sq .z (.cd .z .z)) (.bk (.sq .z (.sq .z (.sq .z .z))))))) (.sq .z (.sq .z .z)))))) [t0] Tryz.func102 (by kernel_rfl) (by kernel_rfl) h
theorem n_integer_parse : Enters Tryz.prog 102 := enters_of Tryz.func102 (by kernel_rfl) rfl
def s_slices_Backward_integer_number_int (P : Program) (t0 : Value) (w : World) (R : Ending → World → Prop) : Prop :=
 Bx P 117 t0 w fun t1 w =>
 R (.returned (.func (.func 136) #[] #[t1])) w
theorem e_slices_Backward_integer_number_int (h : s_slices_Backward_integer_number_int Tryz.prog t0 w R) : Calls Tryz.prog 103 #[t0] w R :=
 en1 (.sq .z (.sq .z .z)) [t0] Tryz.func103 (by kernel_rfl) (by kernel_rfl) h
theorem n_slices_Backward_integer_number_int : Enters Tryz.prog 103 := enters_of Tryz.func103 (by kernel_rfl) rfl
theorem n_strings_Repeat : Enters Tryz.prog 104 := enters_of Tryz.func104 (by kernel_rfl) rfl
def s_strings_Builder_WriteString (P : Program) (t0 t1 : Value) (w : World) (R : Ending → World → Prop) : Prop :=
 Cl P 141 #[t0] w (Pk R) fun t7 w =>
 Nc t0 w fun t10 w =>
 Fa P 145 t10 1 w fun t11 w =>
 Ld P 139 t11 w fun t12 w =>
 Bt P .append #[139, 9] 139 #[t12, t1] w fun t14 w =>
 Nc t0 w fun t15 w =>
 Fa P 145 t15 1 w fun t16 w =>
 Sto P 139 t16 t14 w fun w =>
 Bt P .len #[9] 3 #[t1] w fun t18 w =>
 R (.returned (.tuple #[t18, .nilIface])) w
theorem e_strings_Builder_WriteString (h : s_strings_Builder_WriteString Tryz.prog t0 t1 w R) : Calls Tryz.prog 105 #[t0, t1] w R :=
 en1 (.sq .z (.sq .z (.sq .z (.sq .z .z)))) [t0, t1] Tryz.func105 (by kernel_rfl) (by kernel_rfl) h
theorem n_strings_Builder_WriteString : Enters Tryz.prog 105 := enters_of Tryz.func105 (by kernel_rfl) rfl
theorem n_strings_Builder_String : Enters Tryz.prog 106 := enters_of Tryz.func106 (by kernel_rfl) rfl
def s_integer_number_trimmed (P : Program) (t0 : Value) (w : World) (R : Ending → World → Prop) : Prop :=
 Lp1 t0 w (fun t0x1 w k1 =>
 Bt P .len #[117] 3 #[t0x1] w fun t4 w =>
 Bn P .gtr 3 true t4 (.int .i64 0) w fun t5 w =>
 Gd t5 true (fun k => k t0x1 w) w fun t7 w =>
 Gd t5 true (fun k => k t0x1 w) w fun t8 w =>
 Gd t5 true (fun k => Bt P .len #[117] 3 #[t8] w k) w fun t9 w =>
 Gd t5 true (fun k => Bn P .sub 3 true t9 (.int .i64 1) w k) w fun t10 w =>
 Gd t5 true (fun k => Ia P 117 t7 t10 w k) w fun t11 w =>
 Gd t5 true (fun k => Ld P 3 t11 w k) w fun t12 w =>
 Gd t5 true (fun k => Bn P .eql 3 true t12 (.int .i64 0) w k) w fun t13 w =>
 Pick t5 t13 (.bool false) w fun t14 w =>
 If t14
 (Bt P .len #[117] 3 #[t0x1] w fun t17 w =>
 Bn P .sub 3 true t17 (.int .i64 1) w fun t18 w =>
 Sc P 117 t0x1 none (some t18) none w fun t19 w =>
 k1 t19 w)
 (R (.returned t0x1) w))
theorem e_integer_number_trimmed (h : s_integer_number_trimmed Tryz.prog t0 w R) : Calls Tryz.prog 107 #[t0] w R :=
 en1 (.sq .z (.sq (.bk (.lp [0] [3, 4, 5, 6, 7, 8, 9, 10, 11, 12, 13, 14, 15, 16, 17, 18, 19] (.sq (.sq .z (.cd .z .z)) (.bk .z)))) (.sq .z .z))) [t0] Tryz.func107 (by kernel_rfl) (by kernel_rfl) h
theorem n_integer_number_trimmed : Enters Tryz.prog 107 := enters_of Tryz.func107 (by kernel_rfl) rfl
def s_integer_number_by (P : Program) (t0 t1 : Value) (w : World) (R : Ending → World → Prop) : Prop :=
 Bx P 117 t0 w fun t2 w =>
 Bx P 3 t1 w fun t3 w =>
 Ld P 117 t2 w fun t5 w =>
 Bt P .len #[117] 3 #[t5] w fun t6 w =>
 Cl P 111 #[t6, (.int .i64 0), (.func (.func 142) #[] #[t2, t3])] w (Pk R) fun t8 w =>
 Cl P 107 #[t8] w (Pk R) fun t9 w =>
 R (.returned t9) w
theorem e_integer_number_by (h : s_integer_number_by Tryz.prog t0 t1 w R) : Calls Tryz.prog 108 #[t0, t1] w R :=
 en1 (.sq .z (.sq .z .z)) [t0, t1] Tryz.func108 (by kernel_rfl) (by kernel_rfl) h
theorem n_integer_number_by : Enters Tryz.prog 108 := enters_of Tryz.func108 (by kernel_rfl) rfl
def s_integer_number_over_1 (P : Program) (t0 t1 t2 : Value) (w : World) (R : Ending → World → Prop) : Prop :=
 dL P 151 t1 w.drew fun t5 =>
 Dv P true (bn .add 3 true t0 (.int .i64 1)) w.drew fun t7 =>
 dL P 117 t2 w.drew fun t9 =>
 Cw P t5 #[t7] w.drew (Pk R) fun t8 w =>
 kLd P 117 t2 t9 w <|
 Cl P 83 #[t8, t9] w (Pk R) fun t10 w =>
 Dv P true (bn .gtr 3 true t10 (.int .i64 0)) w fun t11 =>
 R (.returned t11) w
theorem e_integer_number_over_1 (h : s_integer_number_over_1 Tryz.prog t0 t1 t2 w R) : Calls Tryz.prog 109 #[t0, t1, t2] w R :=
 en1 (.sq .z (.sq (.dr (.pur false 0 (.pur true 1 (.pur true 2 (.pur false 4 (.eff 3 [4] (.eff 5 [] (.pur true 6 (.pur true 7 .done))))))))) .z)) [t0, t1, t2] Tryz.func109 (by kernel_rfl) (by kernel_rfl) h
theorem n_integer_number_over_1 : Enters Tryz.prog 109 := enters_of Tryz.func109 (by kernel_rfl) rfl
def s_sort_Search (P : Program) (t0 t1 : Value) (w : World) (R : Ending → World → Prop) : Prop :=
 Lp2 (.int .i64 0) t0 w (fun t5 t6 w k1 =>
 Bn P .lss 3 false t5 t6 w fun t11 w =>
 If t11
 (Bn P .add 3 false t5 t6 w fun t14 w =>
 Cv P 3 140 t14 w fun t15 w =>
 Bn P .shr 140 true t15 (.int .u64 1) w fun t16 w =>
 Cv P 140 3 t16 w fun t17 w =>
 Cw P t1 #[t17] w (Pk R) fun t20 w =>
 Un P .not t20 w fun t21 w =>
 If t21
 (Bn P .add 3 true t17 (.int .i64 1) w fun t23 w =>
 k1 t23 t6 w)
 (k1 t5 t17 w))
 (R (.returned t5) w))
theorem e_sort_Search (h : s_sort_Search Tryz.prog t0 t1 w R) : Calls Tryz.prog 110 #[t0, t1] w R :=
 en1 (.sq .z (.sq .z (.sq (.bk (.lp [5, 6] [7, 9, 10, 11, 12, 13, 14, 15, 16, 17, 18, 19, 20, 21, 22, 23, 24] (.sq (.sq .z (.cd .z .z)) (.bk (.sq .z (.sq .z (.cd .z .z))))))) (.sq .z .z)))) [t0, t1] Tryz.func110 (by kernel_rfl) (by kernel_rfl) h
theorem n_sort_Search : Enters Tryz.prog 110 := enters_of Tryz.func110 (by kernel_rfl) rfl
def s_integer_fold_integer_number (P : Program) (t0 t1 t2 : Value) (w : World) (R : Ending → World → Prop) : Prop :=
 Bn P .add 3 true t0 (.int .i64 1) w fun t11 w =>
 Ms P 117 (.int .i64 0) t11 w fun t12 w =>
 Lp3 t1 t12 (.int .i64 0) w (fun t1x1 t7 t8 w k1 =>
 Bn P .lss 3 false t8 t0 w fun t15 w =>
 Gd t15 false (fun k => k t1x1 w) w fun t17 w =>
 Gd t15 false (fun k => Bn P .neq 3 true t17 (.int .i64 0) w k) w fun t18 w =>
 Pick t15 (.bool true) t18 w fun t19 w =>
 If t19
 (Cw P t2 #[t8] w (Pk R) fun t24 w =>
 Bn P .add 3 false t24 t1x1 w fun t26 w =>
 Bn P .lss 3 true t26 (.int .i64 0) w fun t28 w =>
 If t28
 (Bn P .add 3 true t26 (.int .i64 10000) w fun t30 w =>
 Bs P 117 1 [(0, t30)] w fun t39 w =>
 Bt P .append #[117, 117] 117 #[t7, t39] w fun t40 w =>
 Bn P .add 3 true t8 (.int .i64 1) w fun t21 w =>
 k1 (.int .i64 (-1)) t40 t21 w)
 (Bn P .geq 3 true t26 (.int .i64 10000) w fun t32 w =>
 If t32
 (Bn P .quo 3 true t26 (.int .i64 10000) w fun t34 w =>
 Bn P .rem 3 true t26 (.int .i64 10000) w fun t36 w =>
 Bs P 117 1 [(0, t36)] w fun t39x1 w =>
 Bt P .append #[117, 117] 117 #[t7, t39x1] w fun t40x1 w =>
 Bn P .add 3 true t8 (.int .i64 1) w fun t21x1 w =>
 k1 t34 t40x1 t21x1 w)
 (Bs P 117 1 [(0, t26)] w fun t39x2 w =>
 Bt P .append #[117, 117] 117 #[t7, t39x2] w fun t40x2 w =>
 Bn P .add 3 true t8 (.int .i64 1) w fun t21x2 w =>
 k1 (.int .i64 0) t40x2 t21x2 w)))
 (R (.returned t7) w))
theorem e_integer_fold_integer_number (h : s_integer_fold_integer_number Tryz.prog t0 t1 t2 w R) : Calls Tryz.prog 111 #[t0, t1, t2] w R :=
 en1 (.sq .z (.sq .z (.sq (.sq .z (.bk (.lp [1, 7, 8] [9, 13, 14, 15, 16, 17, 18, 19, 20, 21, 22, 23, 24, 25, 26, 27, 28, 29, 30, 31, 32, 33, 34, 35, 36, 37, 38, 39, 40] (.sq (.sq .z (.cd .z .z)) (.sq (.bk (.sq .z (.sq .z (.sq (.sq .z (.cd (.sq .z .z) (.sq .z (.cd (.sq .z .z) .z)))) .z)))) .z))))) (.sq .z .z)))) [t0, t1, t2] Tryz.func111 (by kernel_rfl) (by kernel_rfl) h
theorem n_integer_fold_integer_number : Enters Tryz.prog 111 := enters_of Tryz.func111 (by kernel_rfl) rfl
def s_integer_number_plus_1 (P : Program) (t0 t1 t2 : Value) (w : World) (R : Ending → World → Prop) : Prop :=
 dL P 117 t1 w.drew fun t5 =>
 dL P 117 t2 w.drew fun t8 =>
 Cl P 113 #[t5, t0] w.drew (Pk R) fun t7 w =>
 kLd P 117 t2 t8 w <|
 Cl P 113 #[t8, t0] w (Pk R) fun t10 w =>
 Dv P true (bn .add 3 false t7 t10) w fun t11 =>
 R (.returned t11) w
theorem e_integer_number_plus_1 (h : s_integer_number_plus_1 Tryz.prog t0 t1 t2 w R) : Calls Tryz.prog 112 #[t0, t1, t2] w R :=
 en1 (.sq .z (.sq (.dr (.pur false 0 (.pur true 1 (.pur false 3 (.pur true 4 (.eff 2 [3] (.eff 5 [] (.pur true 6 (.pur true 7 .done))))))))) .z)) [t0, t1, t2] Tryz.func112 (by kernel_rfl) (by kernel_rfl) h
theorem n_integer_number_plus_1 : Enters Tryz.prog 112 := enters_of Tryz.func112 (by kernel_rfl) rfl
def s_integer_number_at (P : Program) (t0 t1 : Value) (w : World) (R : Ending → World → Prop) : Prop :=
 Bt P .len #[117] 3 #[t0] w fun t7 w =>
 Bn P .lss 3 false t1 t7 w fun t8 w =>
 If t8
 (Ia P 117 t0 t1 w fun t11 w =>
 Ld P 3 t11 w fun t12 w =>
 R (.returned t12) w)
 (R (.returned (.int .i64 0)) w)
theorem e_integer_number_at (h : s_integer_number_at Tryz.prog t0 t1 w R) : Calls Tryz.prog 113 #[t0, t1] w R :=
 en1 (.sq .z (.sq (.sq .z (.cd (.sq .z .z) .z)) (.sq .z .z))) [t0, t1] Tryz.func113 (by kernel_rfl) (by kernel_rfl) h
theorem n_integer_number_at : Enters Tryz.prog 113 := enters_of Tryz.func113 (by kernel_rfl) rfl
def s_integer_number_minus_1 (P : Program) (t0 t1 t2 : Value) (w : World) (R : Ending → World → Prop) : Prop :=
 dL P 117 t1 w.drew fun t5 =>
 dL P 117 t2 w.drew fun t8 =>
 Cl P 113 #[t5, t0] w.drew (Pk R) fun t7 w =>
 kLd P 117 t2 t8 w <|
 Cl P 113 #[t8, t0] w (Pk R) fun t10 w =>
 Dv P true (bn .sub 3 false t7 t10) w fun t11 =>
 R (.returned t11) w
theorem e_integer_number_minus_1 (h : s_integer_number_minus_1 Tryz.prog t0 t1 t2 w R) : Calls Tryz.prog 114 #[t0, t1, t2] w R :=
 en1 (.sq .z (.sq (.dr (.pur false 0 (.pur true 1 (.pur false 3 (.pur true 4 (.eff 2 [3] (.eff 5 [] (.pur true 6 (.pur true 7 .done))))))))) .z)) [t0, t1, t2] Tryz.func114 (by kernel_rfl) (by kernel_rfl) h
theorem n_integer_number_minus_1 : Enters Tryz.prog 114 := enters_of Tryz.func114 (by kernel_rfl) rfl
def s_cmp_isNaN_int (P : Program) (t0 : Value) (w : World) (R : Ending → World → Prop) : Prop :=
 Bn P .neq 3 false t0 t0 w fun t5 w =>
 R (.returned t5) w
theorem e_cmp_isNaN_int (h : s_cmp_isNaN_int Tryz.prog t0 w R) : Calls Tryz.prog 120 #[t0] w R :=
 en1 (.sq .z (.sq .z .z)) [t0] Tryz.func120 (by kernel_rfl) (by kernel_rfl) h
theorem n_cmp_isNaN_int : Enters Tryz.prog 120 := enters_of Tryz.func120 (by kernel_rfl) rfl
def s_wire_groups (P : Program) (t0 : Value) (w : World) (R : Ending → World → Prop) : Prop :=
 Bx P 138 t0 w fun t1 w =>
 R (.returned (.func (.func 146) #[] #[t1])) w
theorem e_wire_groups (h : s_wire_groups Tryz.prog t0 w R) : Calls Tryz.prog 121 #[t0] w R :=
 en1 (.sq .z (.sq .z .z)) [t0] Tryz.func121 (by kernel_rfl) (by kernel_rfl) h
theorem n_wire_groups : Enters Tryz.prog 121 := enters_of Tryz.func121 (by kernel_rfl) rfl
def s_slices_Chunk_byte_byte (P : Program) (t0 t1 : Value) (w : World) (R : Ending → World → Prop) : Prop :=
 Bx P 139 t0 w fun t2 w =>
 Bx P 3 t1 w fun t3 w =>
 Ld P 3 t3 w fun t5 w =>
 Bn P .lss 3 true t5 (.int .i64 1) w fun t6 w =>
 If t6
 (Mi P 9 (str [99, 97, 110, 110, 111, 116, 32, 98, 101, 32, 108, 101, 115, 115, 32, 116, 104, 97, 110, 32, 49]) w fun t7 w =>
 Pn P t7 w (Pk R) fun _ w =>
 R (.returned (.func (.func 147) #[] #[t2, t3])) w)
 (R (.returned (.func (.func 147) #[] #[t2, t3])) w)
theorem e_slices_Chunk_byte_byte (h : s_slices_Chunk_byte_byte Tryz.prog t0 t1 w R) : Calls Tryz.prog 122 #[t0, t1] w R :=
 en1 (.sq .z (.sq (.sq .z (.cd .z .z)) (.sq .z .z))) [t0, t1] Tryz.func122 (by kernel_rfl) (by kernel_rfl) h
theorem n_slices_Chunk_byte_byte : Enters Tryz.prog 122 := enters_of Tryz.func122 (by kernel_rfl) rfl
def s_digest_words_add (P : Program) (t0 t1 : Value) (w : World) (R : Ending → World → Prop) : Prop :=
 Cl P 148 #[t1] w (Pk R) fun t14 w =>
 Al P 188 w fun t4 w =>
 Sto P 188 t4 t14 w fun w =>
 Nc t0 w fun t16 w =>
 Ld P 165 t16 w fun t17 w =>
 Al P 165 w fun t5 w =>
 Sto P 165 t5 t17 w fun w =>
 Ld P 188 (.pointer (some ⟨2, 0, none⟩)) w fun t18 w =>
 Lp1 (.int .i64 0) w (fun t19 w k1 =>
 Bn P .lss 3 true t19 (.int .i64 64) w fun t20 w =>
 If t20
 (Ix P 188 t18 t19 w fun t22 w =>
 Dv P true (Instr.indexAt 165 t5 (.int .i64 0)) w.drew fun t23 =>
 dL P 163 t23 w.drew fun t24 =>
 Dv P true (Instr.indexAt 165 t5 (.int .i64 4)) w.drew fun t25 =>
 dL P 163 t25 w.drew fun t26 =>
 Dv P true (Instr.indexAt 165 t5 (.int .i64 7)) w.drew.drew fun t27 =>
 Dv P false (Instr.loadAt 163 t27) w.drew.drew fun t28 =>
 Dv P true (Instr.indexAt 165 t5 (.int .i64 5)) w.drew.drew fun t34 =>
 Dv P false (Instr.loadAt 163 t34) w.drew.drew fun t35 =>
 Dv P true (bn .and 163 false t26 t35) w.drew.drew fun t36 =>
 Dv P true (Op.unary .xor t26) w.drew.drew fun t38 =>
 Dv P true (Instr.indexAt 165 t5 (.int .i64 6)) w.drew.drew fun t39 =>
 Dv P false (Instr.loadAt 163 t39) w.drew.drew fun t40 =>
 Dv P true (bn .and 163 false t38 t40) w.drew.drew fun t41 =>
 Dv P true (bn .xor 163 false t36 t41) w.drew.drew fun t42 =>
 Dv P true (Instr.indexAt 188 t4 t19) w.drew.drew fun t47 =>
 Dv P false (Instr.loadAt 163 t47) w.drew.drew fun t48 =>
 Bs P 24 3 [(0, (.int .i64 6)), (1, (.int .i64 11)), (2, (.int .i64 25))] w.drew.drew fun t30 w =>
 kLd P 163 t27 t28 w <|
 kLd P 163 t34 t35 w <|
 kLd P 163 t39 t40 w <|
 kLd P 163 t47 t48 w <|
 Cl P 149 #[t26, t30] w (Pk R) fun t31 w =>
 kLd P 163 t27 t28 w <|
 kLd P 163 t34 t35 w <|
 kLd P 163 t39 t40 w <|
 kLd P 163 t47 t48 w <|
 Dv P true (bn .add 163 false t28 t31) w fun t32 =>
 Dv P true (bn .add 163 false t32 t42) w fun t43 =>
 Dv P true (bn .add 163 false t43 t22) w fun t45 =>
 Dv P true (bn .add 163 false t45 t48) w fun t49 =>
 Dv P true (Instr.indexAt 165 t5 (.int .i64 1)) w.drew fun t54 =>
 dL P 163 t54 w.drew fun t55 =>
 Dv P true (bn .and 163 false t24 t55) w.drew fun t56 =>
 Dv P true (Instr.indexAt 165 t5 (.int .i64 2)) w.drew fun t58 =>
 dL P 163 t58 w.drew fun t59 =>
 Dv P true (bn .and 163 false t24 t59) w.drew fun t60 =>
 Dv P true (bn .xor 163 false t56 t60) w.drew fun t61 =>
 Dv P true (Instr.indexAt 165 t5 (.int .i64 1)) w.drew fun t62 =>
 dL P 163 t62 w.drew fun t63 =>
 Dv P true (Instr.indexAt 165 t5 (.int .i64 2)) w.drew fun t64 =>
 dL P 163 t64 w.drew fun t65 =>
 Dv P true (bn .and 163 false t63 t65) w.drew fun t66 =>
 Dv P true (bn .xor 163 false t61 t66) w.drew fun t67 =>
 Bs P 24 3 [(0, (.int .i64 2)), (1, (.int .i64 13)), (2, (.int .i64 22))] w.drew fun t51 w =>
 kLd P 163 t54 t55 w <|
 kLd P 163 t58 t59 w <|
 kLd P 163 t62 t63 w <|
 kLd P 163 t64 t65 w <|
 Cl P 149 #[t24, t51] w (Pk R) fun t52 w =>
 kLd P 163 t54 t55 w <|
 kLd P 163 t58 t59 w <|
 kLd P 163 t62 t63 w <|
 kLd P 163 t64 t65 w <|
 Dv P true (bn .add 163 false t52 t67) w fun t68 =>
 Dv P true (Instr.sliceAt 165 t5 (some (.int .i64 1)) none none) w.drew fun t69 =>
 Dv P true (Instr.sliceAt 165 t5 none (some (.int .i64 7)) none) w.drew fun t70 =>
 Bt P .copy #[191, 191] 3 #[t69, t70] w.drew fun t71 w =>
 Bn P .add 163 false t49 t68 w fun t74 w =>
 Ia P 165 t5 (.int .i64 4) w fun t75 w =>
 Ld P 163 t75 w fun t76 w =>
 Bn P .add 163 false t76 t49 w fun t78 w =>
 Ia P 165 t5 (.int .i64 0) w fun t79 w =>
 Sto P 163 t79 t74 w fun w =>
 Ia P 165 t5 (.int .i64 4) w fun t80 w =>
 Sto P 163 t80 t78 w fun w =>
 Bn P .add 3 true t19 (.int .i64 1) w fun t81 w =>
 k1 t81 w)
 (Lp1 (.int .i64 0) w (fun t82 w k2 =>
 Bn P .lss 3 true t82 (.int .i64 8) w fun t83 w =>
 If t83
 (NcP t0 fun t87 =>
 dIx P 165 t87 t82 w.drew fun t88 =>
 dL P 163 t88 w.drew fun t89 =>
 dIx P 165 t5 t82 w.drew fun t91 =>
 dL P 163 t91 w.drew fun t92 =>
 Dv P true (bn .add 163 false t89 t92) w.drew fun t93 =>
 NcP t0 fun t94 =>
 dIx P 165 t94 t82 w.drew fun t95 =>
 Sto P 163 t95 t93 w.drew fun w =>
 Bn P .add 3 true t82 (.int .i64 1) w fun t96 w =>
 k2 t96 w)
 (R (.returned (.tuple #[])) w))))
theorem e_digest_words_add (h : s_digest_words_add Tryz.prog t0 t1 w R) : Calls Tryz.prog 123 #[t0, t1] w R :=
 en1 (.sq .z (.sq .z (.sq (.sq .z (.bk (.lp [19] [6, 7, 8, 9, 10, 11, 20, 21, 22, 23, 24, 25, 26, 27, 28, 29, 30, 31, 32, 33, 34, 35, 36, 37, 38, 39, 40, 41, 42, 43, 44, 45, 46, 47, 48, 49, 50, 51, 52, 53, 54, 55, 56, 57, 58, 59, 60, 61, 62, 63, 64, 65, 66, 67, 68, 69, 70, 71, 72, 73, 74, 75, 76, 77, 78, 79, 80, 81] (.sq .z (.sq (.cd .z .z) (.sq (.bk (.sq .z (.sq (.dr (.pur true 0 (.pur false 1 (.pur true 2 (.pur false 3 (.pur true 4 (.pur true 5 .done))))))) (.sq (.dr (.pur true 0 (.pur false 1 (.pur true 2 (.pur true 6 (.pur true 7 (.pur false 8 (.pur true 9 (.pur true 10 (.pur true 11 (.pur true 12 (.pur false 13 (.pur true 14 (.pur true 15 (.pur true 17 (.pur true 19 (.pur true 20 (.pur false 21 (.eff 3 [1, 8, 13, 21] (.eff 4 [1, 8, 13, 21] (.pur true 5 (.pur true 16 (.pur true 18 (.pur true 22 (.pur true 23 .done))))))))))))))))))))))))) (.sq (.dr (.pur true 0 (.pur true 3 (.pur true 4 (.pur false 5 (.pur true 6 (.pur true 7 (.pur true 8 (.pur false 9 (.pur true 10 (.pur true 11 (.pur true 12 (.pur false 13 (.pur true 14 (.pur false 15 (.pur true 16 (.pur true 17 (.eff 1 [5, 9, 13, 15] (.eff 2 [5, 9, 13, 15] (.pur true 18 (.pur true 19 .done))))))))))))))))))))) (.sq (.dr (.pur true 0 (.pur true 1 (.eff 2 [] .done)))) .z)))))) .z)))))) (.sq .z (.bk (.lp [82] [12, 83, 84, 85, 86, 87, 88, 89, 90, 91, 92, 93, 94, 95, 96] (.sq .z (.sq (.cd .z .z) (.sq (.bk (.sq .z (.dr (.pur true 0 (.pur true 1 (.pur true 2 (.pur true 3 (.pur false 4 (.pur true 5 (.pur true 6 (.pur false 7 (.pur true 8 (.pur true 9 (.pur true 10 (.eff 11 [] .done))))))))))))))) .z))))))))) [t0, t1] Tryz.func123 (by kernel_rfl) (by kernel_rfl) h
theorem n_digest_words_add : Enters Tryz.prog 123 := enters_of Tryz.func123 (by kernel_rfl) rfl
def s_digest_words_digest (P : Program) (t0 : Value) (w : World) (R : Ending → World → Prop) : Prop :=
 Bx P 165 t0 w fun t1 w =>
 Al P 192 w fun t3 w =>
 Ld P 165 t1 w fun t7 w =>
 Lp1 (.int .i64 0) w (fun t8 w k1 =>
 Bn P .lss 3 true t8 (.int .i64 8) w fun t9 w =>
 If t9
 (Ix P 165 t7 t8 w fun t11 w =>
 Lp1 (.int .i64 0) w (fun t12 w k2 =>
 Bn P .lss 3 true t12 (.int .i64 4) w fun t13 w =>
 If t13
 (Bn P .mul 3 true (.int .i64 4) t8 w fun t16 w =>
 Bn P .add 3 false t16 t12 w fun t18 w =>
 Bn P .mul 3 true (.int .i64 8) t12 w fun t21 w =>
 Bn P .sub 3 true (.int .i64 24) t21 w fun t22 w =>
 Bn P .shr 163 false t11 t22 w fun t23 w =>
 Cv P 163 5 t23 w fun t24 w =>
 Ia P 192 t3 t18 w fun t25 w =>
 Sto P 5 t25 t24 w fun w =>
 Bn P .add 3 true t12 (.int .i64 1) w fun t26 w =>
 k2 t26 w)
 (Bn P .add 3 true t8 (.int .i64 1) w fun t27 w =>
 k1 t27 w)))
 (Sc P 192 t3 none none none w fun t28 w =>
 Cv P 139 9 t28 w fun t29 w =>
 R (.returned t29) w))
theorem e_digest_words_digest (h : s_digest_words_digest Tryz.prog t0 w R) : Calls Tryz.prog 124 #[t0] w R :=
 en1 (.sq .z (.sq .z (.sq (.sq .z (.bk (.lp [8] [4, 5, 6, 9, 10, 11, 12, 13, 14, 15, 16, 17, 18, 19, 20, 21, 22, 23, 24, 25, 26, 27] (.sq .z (.sq (.cd .z .z) (.sq (.bk (.sq .z (.sq .z (.bk (.lp [12] [6, 13, 14, 15, 16, 17, 18, 19, 20, 21, 22, 23, 24, 25, 26] (.sq .z (.sq (.cd .z .z) (.sq (.bk (.sq .z .z)) .z)))))))) .z)))))) (.sq .z .z)))) [t0] Tryz.func124 (by kernel_rfl) (by kernel_rfl) h
theorem n_digest_words_digest : Enters Tryz.prog 124 := enters_of Tryz.func124 (by kernel_rfl) rfl
theorem n_strings_TrimPrefix : Enters Tryz.prog 125 := enters_of Tryz.func125 (by kernel_rfl) rfl
def s_strings_Trim (P : Program) (t0 t1 : Value) (w : World) (R : Ending → World → Prop) : Prop :=
 Bn P .eql 9 true t0 (str []) w fun t8 w =>
 Gd t8 false (fun k => k t1 w) w fun t10 w =>
 Gd t8 false (fun k => Bn P .eql 9 true t10 (str []) w k) w fun t11 w =>
 Pick t8 (.bool true) t11 w fun t12 w =>
 If t12
 (R (.returned t0) w)
 (Bt P .len #[9] 3 #[t1] w fun t15 w =>
 Bn P .eql 3 true t15 (.int .i64 1) w fun t16 w =>
 Gd t16 true (fun k => k t1 w) w fun t18 w =>
 Gd t16 true (fun k => Ix P 9 t18 (.int .i64 0) w k) w fun t19 w =>
 Gd t16 true (fun k => Bn P .lss 5 true t19 (.int .u8 128) w k) w fun t20 w =>
 Pick t16 t20 (.bool false) w fun t21 w =>
 If t21
 (Dv P true (Instr.index 9 t1 (.int .i64 0)) w.drew fun t24 =>
 Dv P true (Instr.index 9 t1 (.int .i64 0)) w.drew fun t27 =>
 Cl P 152 #[t0, t24] w.drew (Pk R) fun t25 w =>
 Cl P 151 #[t25, t27] w (Pk R) fun t28 w =>
 R (.returned t28) w)
 (Cl P 153 #[t1] w (Pk R) fun t31 w =>
 Ex t31 0 w fun t32 w =>
 Ex t31 1 w fun t33 w =>
 Al P 195 w fun t5 w =>
 Sto P 195 t5 t32 w fun w =>
 If t33
 (Cl P 155 #[t0, t5] w (Pk R) fun t36 w =>
 Cl P 154 #[t36, t5] w (Pk R) fun t37 w =>
 R (.returned t37) w)
 (Cl P 157 #[t0, t1] w (Pk R) fun t40 w =>
 Cl P 156 #[t40, t1] w (Pk R) fun t42 w =>
 R (.returned t42) w)))
theorem e_strings_Trim (h : s_strings_Trim Tryz.prog t0 t1 w R) : Calls Tryz.prog 126 #[t0, t1] w R :=
 en1 (.sq .z (.sq (.sq .z (.cd (.sq .z .z) .z)) (.sq (.sq .z (.cd (.sq (.dr (.pur true 0 (.pur true 1 (.pur true 2 (.pur true 4 (.pur true 5 (.eff 3 [] (.eff 6 [] (.pur true 7 .done))))))))) .z) .z)) (.sq (.sq .z (.sq .z (.cd (.sq .z .z) .z))) (.sq .z .z))))) [t0, t1] Tryz.func126 (by kernel_rfl) (by kernel_rfl) h
theorem n_strings_Trim : Enters Tryz.prog 126 := enters_of Tryz.func126 (by kernel_rfl) rfl
def s_rational_work_quotient_1 (P : Program) (t0 t1 : Value) (w : World) (R : Ending → World → Prop) : Prop :=
 Cl P 52 #[t0, t1] w (Pk R) fun t12 w =>
 Ex t12 0 w fun t13 w =>
 Ex t12 1 w fun t14 w =>
 Ex t12 2 w fun t15 w =>
 R (.returned (.tuple #[t13, t15])) w
theorem e_rational_work_quotient_1 (h : s_rational_work_quotient_1 Tryz.prog t0 t1 w R) : Calls Tryz.prog 127 #[t0, t1] w R :=
 en1 (.sq .z (.sq .z (.sq .z .z))) [t0, t1] Tryz.func127 (by kernel_rfl) (by kernel_rfl) h
theorem n_rational_work_quotient_1 : Enters Tryz.prog 127 := enters_of Tryz.func127 (by kernel_rfl) rfl
def s_slices_Backward_integer_number_int_1 (P : Program) (t0 t1 : Value) (w : World) (R : Ending → World → Prop) : Prop :=
 Ld P 117 t1 w fun t4 w =>
 Bt P .len #[117] 3 #[t4] w fun t5 w =>
 Bn P .sub 3 true t5 (.int .i64 1) w fun t6 w =>
 Lp1 t6 w (fun t3 w k1 =>
 Bn P .geq 3 true t3 (.int .i64 0) w fun t8 w =>
 If t8
 (Ld P 117 t1 w fun t13 w =>
 Ia P 117 t13 t3 w fun t15 w =>
 Ld P 3 t15 w fun t16 w =>
 Cw P t0 #[t3, t16] w (Pk R) fun t17 w =>
 Un P .not t17 w fun t18 w =>
 If t18
 (R (.returned (.tuple #[])) w)
 (Bn P .sub 3 true t3 (.int .i64 1) w fun t10 w =>
 k1 t10 w))
 (R (.returned (.tuple #[])) w))
theorem e_slices_Backward_integer_number_int_1 (h : s_slices_Backward_integer_number_int_1 Tryz.prog t0 t1 w R) : Calls Tryz.prog 136 #[t0, t1] w R :=
 en1 (.sq .z (.bk (.lp [3] [7, 8, 9, 10, 11, 12, 13, 14, 15, 16, 17, 18] (.sq (.sq .z (.cd .z .z)) (.sq (.bk (.sq .z (.cd .z .z))) .z))))) [t0, t1] Tryz.func136 (by kernel_rfl) (by kernel_rfl) h
theorem n_slices_Backward_integer_number_int_1 : Enters Tryz.prog 136 := enters_of Tryz.func136 (by kernel_rfl) rfl
def s_strings_Builder_copyCheck (P : Program) (t0 : Value) (w : World) (R : Ending → World → Prop) : Prop :=
 Nc t0 w fun t3 w =>
 Fa P 145 t3 0 w fun t4 w =>
 Ld P 143 t4 w fun t5 w =>
 Bn P .eql 143 true t5 (.pointer none) w fun t6 w =>
 If t6
 (Cv P 143 217 t0 w fun t9 w =>
 Cl P 173 #[t9] w (Pk R) fun t10 w =>
 Cv P 217 143 t10 w fun t11 w =>
 Nc t0 w fun t12 w =>
 Fa P 145 t12 0 w fun t13 w =>
 Sto P 143 t13 t11 w fun w =>
 R (.returned (.tuple #[])) w)
 (Nc t0 w fun t15 w =>
 Fa P 145 t15 0 w fun t16 w =>
 Ld P 143 t16 w fun t17 w =>
 Bn P .neq 143 false t17 t0 w fun t19 w =>
 If t19
 (False)
 (R (.returned (.tuple #[])) w))
theorem e_strings_Builder_copyCheck (h : s_strings_Builder_copyCheck Tryz.prog t0 w R) : Calls Tryz.prog 141 #[t0] w R :=
 en1 (.sq .z (.cd .z (.sq .z (.cd .z .z)))) [t0] Tryz.func141 (by kernel_rfl) (by kernel_rfl) h
theorem n_strings_Builder_copyCheck : Enters Tryz.prog 141 := enters_of Tryz.func141 (by kernel_rfl) rfl
def s_integer_number_by_1 (P : Program) (t0 t1 t2 : Value) (w : World) (R : Ending → World → Prop) : Prop :=
 dL P 117 t1 w.drew fun t5 =>
 dL P 3 t2 w.drew fun t8 =>
 Cl P 113 #[t5, t0] w.drew (Pk R) fun t7 w =>
 kLd P 3 t2 t8 w <|
 Dv P true (bn .mul 3 false t7 t8) w fun t9 =>
 R (.returned t9) w
theorem e_integer_number_by_1 (h : s_integer_number_by_1 Tryz.prog t0 t1 t2 w R) : Calls Tryz.prog 142 #[t0, t1, t2] w R :=
 en1 (.sq .z (.sq (.dr (.pur false 0 (.pur true 1 (.pur false 3 (.eff 2 [3] (.pur true 4 (.pur true 5 .done))))))) .z)) [t0, t1, t2] Tryz.func142 (by kernel_rfl) (by kernel_rfl) h
theorem n_integer_number_by_1 : Enters Tryz.prog 142 := enters_of Tryz.func142 (by kernel_rfl) rfl
def s_wire_groups_1 (P : Program) (t0 t1 : Value) (w : World) (R : Ending → World → Prop) : Prop :=
 Lp0 w (fun w k1 =>
 Ld P 138 t1 w fun t4 w =>
 Bn P .lss 138 true t4 (.int .u64 128) w fun t5 w =>
 Ld P 138 t1 w fun t7 w =>
 Bn P .and 138 true t7 (.int .u64 127) w fun t8 w =>
 Cv P 138 5 t8 w fun t9 w =>
 Cw P t0 #[t9, t5] w (Pk R) fun t11 w =>
 Un P .not t11 w fun t12 w =>
 Gd t12 false (fun k => k t5 w) w fun t14 w =>
 Pick t12 (.bool true) t14 w fun t15 w =>
 If t15
 (R (.returned (.tuple #[])) w)
 (Ld P 138 t1 w fun t16 w =>
 Bn P .shr 138 true t16 (.int .u64 7) w fun t17 w =>
 Sto P 138 t1 t17 w fun w =>
 k1 w))
theorem e_wire_groups_1 (h : s_wire_groups_1 Tryz.prog t0 t1 w R) : Calls Tryz.prog 146 #[t0, t1] w R :=
 en1 (.bk (.lp [] [3, 4, 5, 6, 7, 8, 9, 10, 11, 12, 13, 14, 15, 16, 17] (.bk (.sq .z (.sq (.sq .z (.cd .z .z)) .z))))) [t0, t1] Tryz.func146 (by kernel_rfl) (by kernel_rfl) h
theorem n_wire_groups_1 : Enters Tryz.prog 146 := enters_of Tryz.func146 (by kernel_rfl) rfl
def s_slices_Chunk_byte_byte_1 (P : Program) (t0 t1 t2 : Value) (w : World) (R : Ending → World → Prop) : Prop :=
 Lp1 (.int .i64 0) w (fun t4 w k1 =>
 Ld P 139 t1 w fun t7 w =>
 Bt P .len #[139] 3 #[t7] w fun t8 w =>
 Bn P .lss 3 false t4 t8 w fun t9 w =>
 If t9
 (dL P 3 t2 w.drew fun t13 =>
 dL P 139 t1 w.drew fun t14 =>
 Dv P true (Instr.sliceAt 139 t14 (some t4) none none) w.drew fun t16 =>
 Dv P true (bV .len #[139] 3 #[t16]) w.drew fun t17 =>
 Dv P true (bV .min #[3, 3] 3 #[t13, t17]) w.drew fun t18 =>
 Ld P 139 t1 w.drew fun t20 w =>
 Bn P .add 3 false t4 t18 w fun t24 w =>
 Bn P .add 3 false t4 t18 w fun t27 w =>
 Sc P 139 t20 (some t4) (some t24) (some t27) w fun t28 w =>
 Cw P t0 #[t28] w (Pk R) fun t29 w =>
 Un P .not t29 w fun t30 w =>
 If t30
 (R (.returned (.tuple #[])) w)
 (Ld P 3 t2 w fun t11 w =>
 Bn P .add 3 false t4 t11 w fun t12 w =>
 k1 t12 w))
 (R (.returned (.tuple #[])) w))
theorem e_slices_Chunk_byte_byte_1 (h : s_slices_Chunk_byte_byte_1 Tryz.prog t0 t1 t2 w R) : Calls Tryz.prog 147 #[t0, t1, t2] w R :=
 en1 (.sq .z (.bk (.lp [4] [5, 6, 7, 8, 9, 10, 11, 12, 13, 14, 15, 16, 17, 18, 19, 20, 21, 22, 23, 24, 25, 26, 27, 28, 29, 30] (.sq (.sq .z (.cd .z .z)) (.sq (.bk (.sq (.dr (.pur false 0 (.pur false 1 (.pur true 2 (.pur true 3 (.pur true 4 (.pur true 5 (.pur true 6 .done)))))))) (.sq .z (.cd .z .z)))) .z))))) [t0, t1, t2] Tryz.func147 (by kernel_rfl) (by kernel_rfl) h
theorem n_slices_Chunk_byte_byte_1 : Enters Tryz.prog 147 := enters_of Tryz.func147 (by kernel_rfl) rfl
def s_digest_schedule (P : Program) (t0 : Value) (w : World) (R : Ending → World → Prop) : Prop :=
 Al P 188 w fun t2 w =>
 Lp1 (.int .i64 0) w (fun t7 w k1 =>
 Bn P .lss 3 true t7 (.int .i64 16) w fun t8 w =>
 If t8
 (Dv P true (bn .mul 3 true (.int .i64 4) t7) w.drew fun t13 =>
 dIx P 139 t0 t13 w.drew fun t14 =>
 dL P 5 t14 w.drew fun t15 =>
 Dv P true (convert 5 163 t15) w.drew fun t16 =>
 Dv P true (bn .shl 163 true t16 (.int .u64 24)) w.drew fun t17 =>
 Dv P true (bn .mul 3 true (.int .i64 4) t7) w.drew fun t20 =>
 Dv P true (bn .add 3 true t20 (.int .i64 1)) w.drew fun t21 =>
 dIx P 139 t0 t21 w.drew fun t22 =>
 dL P 5 t22 w.drew fun t23 =>
 Dv P true (convert 5 163 t23) w.drew fun t24 =>
 Dv P true (bn .shl 163 true t24 (.int .u64 16)) w.drew fun t25 =>
 Dv P true (bn .or 163 false t17 t25) w.drew fun t26 =>
 Dv P true (bn .mul 3 true (.int .i64 4) t7) w.drew fun t29 =>
 Dv P true (bn .add 3 true t29 (.int .i64 2)) w.drew fun t30 =>
 dIx P 139 t0 t30 w.drew fun t31 =>
 dL P 5 t31 w.drew fun t32 =>
 Dv P true (convert 5 163 t32) w.drew fun t33 =>
 Dv P true (bn .shl 163 true t33 (.int .u64 8)) w.drew fun t34 =>
 Dv P true (bn .or 163 false t26 t34) w.drew fun t35 =>
 Dv P true (bn .mul 3 true (.int .i64 4) t7) w.drew fun t38 =>
 Dv P true (bn .add 3 true t38 (.int .i64 3)) w.drew fun t39 =>
 dIx P 139 t0 t39 w.drew fun t40 =>
 dL P 5 t40 w.drew fun t41 =>
 Dv P true (convert 5 163 t41) w.drew fun t42 =>
 Dv P true (bn .or 163 false t35 t42) w.drew fun t43 =>
 dIx P 188 t2 t7 w.drew fun t44 =>
 Sto P 163 t44 t43 w.drew fun w =>
 Bn P .add 3 true t7 (.int .i64 1) w fun t45 w =>
 k1 t45 w)
 (Lp1 (.int .i64 16) w (fun t4 w k2 =>
 Bn P .lss 3 true t4 (.int .i64 64) w fun t47 w =>
 If t47
 (Dv P true (bn .sub 3 true t4 (.int .i64 15)) w.drew fun t51 =>
 dIx P 188 t2 t51 w.drew fun t52 =>
 dL P 163 t52 w.drew fun t53 =>
 Dv P true (bn .sub 3 true t4 (.int .i64 2)) w.drew fun t55 =>
 dIx P 188 t2 t55 w.drew fun t56 =>
 dL P 163 t56 w.drew fun t57 =>
 Dv P true (bn .sub 3 true t4 (.int .i64 16)) w.drew.drew fun t60 =>
 Dv P true (Instr.indexAt 188 t2 t60) w.drew.drew fun t61 =>
 Dv P false (Instr.loadAt 163 t61) w.drew.drew fun t62 =>
 Dv P true (bn .shr 163 true t53 (.int .u64 3)) w.drew.drew fun t67 =>
 Dv P true (bn .sub 3 true t4 (.int .i64 7)) w.drew.drew fun t71 =>
 Dv P true (Instr.indexAt 188 t2 t71) w.drew.drew fun t72 =>
 Dv P false (Instr.loadAt 163 t72) w.drew.drew fun t73 =>
 Dv P true (bn .shr 163 true t57 (.int .u64 10)) w.drew.drew fun t79 =>
 (Bs P 24 2 [(0, (.int .i64 7)), (1, (.int .i64 18))] w.drew.drew fun t64 w =>
 kLd P 163 t61 t62 w <|
 kLd P 163 t72 t73 w <|
 (Cl P 149 #[t53, t64] w (Pk R) fun t65 w =>
 kLd P 163 t61 t62 w <|
 kLd P 163 t72 t73 w <|
 Dv P true (bn .xor 163 false t65 t67) w fun t68 =>
 Dv P true (bn .add 163 false t62 t68) w fun t69 =>
 Dv P true (bn .add 163 false t69 t73) w fun t74 =>
 Bs P 24 2 [(0, (.int .i64 17)), (1, (.int .i64 19))] w fun t76 w =>
 kLd P 163 t61 t62 w <|
 kLd P 163 t72 t73 w <|
 Cl P 149 #[t57, t76] w (Pk R) fun t77 w =>
 kLd P 163 t61 t62 w <|
 kLd P 163 t72 t73 w <|
 Dv P true (bn .xor 163 false t77 t79) w fun t80 =>
 Dv P true (bn .add 163 false t74 t80) w fun t81 =>
 dIx P 188 t2 t4 w fun t82 =>
 Sto P 163 t82 t81 w fun w =>
 Bn P .add 3 true t4 (.int .i64 1) w fun t49 w =>
 k2 t49 w) ∧
 (Bs P 24 2 [(0, (.int .i64 17)), (1, (.int .i64 19))] w fun t76x1 w =>
 kLd P 163 t61 t62 w <|
 kLd P 163 t72 t73 w <|
 Cl P 149 #[t53, t64] w (Pk R) fun t65x1 w =>
 kLd P 163 t61 t62 w <|
 kLd P 163 t72 t73 w <|
 Dv P true (bn .xor 163 false t65x1 t67) w fun t68x1 =>
 Dv P true (bn .add 163 false t62 t68x1) w fun t69x1 =>
 Dv P true (bn .add 163 false t69x1 t73) w fun t74x1 =>
 Cl P 149 #[t57, t76x1] w (Pk R) fun t77x1 w =>
 kLd P 163 t61 t62 w <|
 kLd P 163 t72 t73 w <|
 Dv P true (bn .xor 163 false t77x1 t79) w fun t80x1 =>
 Dv P true (bn .add 163 false t74x1 t80x1) w fun t81x1 =>
 dIx P 188 t2 t4 w fun t82x1 =>
 Sto P 163 t82x1 t81x1 w fun w =>
 Bn P .add 3 true t4 (.int .i64 1) w fun t49x1 w =>
 k2 t49x1 w)) ∧
 (Bs P 24 2 [(0, (.int .i64 17)), (1, (.int .i64 19))] w.drew.drew fun t76x2 w =>
 kLd P 163 t61 t62 w <|
 kLd P 163 t72 t73 w <|
 Bs P 24 2 [(0, (.int .i64 7)), (1, (.int .i64 18))] w fun t64x1 w =>
 kLd P 163 t61 t62 w <|
 kLd P 163 t72 t73 w <|
 Cl P 149 #[t53, t64x1] w (Pk R) fun t65x2 w =>
 kLd P 163 t61 t62 w <|
 kLd P 163 t72 t73 w <|
 Dv P true (bn .xor 163 false t65x2 t67) w fun t68x2 =>
 Dv P true (bn .add 163 false t62 t68x2) w fun t69x2 =>
 Dv P true (bn .add 163 false t69x2 t73) w fun t74x2 =>
 Cl P 149 #[t57, t76x2] w (Pk R) fun t77x2 w =>
 kLd P 163 t61 t62 w <|
 kLd P 163 t72 t73 w <|
 Dv P true (bn .xor 163 false t77x2 t79) w fun t80x2 =>
 Dv P true (bn .add 163 false t74x2 t80x2) w fun t81x2 =>
 dIx P 188 t2 t4 w fun t82x2 =>
 Sto P 163 t82x2 t81x2 w fun w =>
 Bn P .add 3 true t4 (.int .i64 1) w fun t49x2 w =>
 k2 t49x2 w))
 (Ld P 188 t2 w fun t83 w =>
 Sto P 188 t2 t83 w fun w =>
 Rc P 188 t2 w fun r0 =>
 R (.returned r0) w))))
theorem e_digest_schedule (h : s_digest_schedule Tryz.prog t0 w R) : Calls Tryz.prog 148 #[t0] w R :=
 en1 (.sq .z (.sq (.sq .z (.bk (.lp [7] [3, 8, 9, 10, 11, 12, 13, 14, 15, 16, 17, 18, 19, 20, 21, 22, 23, 24, 25, 26, 27, 28, 29, 30, 31, 32, 33, 34, 35, 36, 37, 38, 39, 40, 41, 42, 43, 44, 45] (.sq .z (.sq (.cd .z .z) (.sq (.bk (.sq .z (.dr (.pur true 0 (.pur true 1 (.pur true 2 (.pur true 3 (.pur true 4 (.pur false 5 (.pur true 6 (.pur true 7 (.pur true 8 (.pur true 9 (.pur true 10 (.pur true 11 (.pur true 12 (.pur false 13 (.pur true 14 (.pur true 15 (.pur true 16 (.pur true 17 (.pur true 18 (.pur true 19 (.pur true 20 (.pur true 21 (.pur false 22 (.pur true 23 (.pur true 24 (.pur true 25 (.pur true 26 (.pur true 27 (.pur true 28 (.pur true 29 (.pur true 30 (.pur false 31 (.pur true 32 (.pur true 33 (.pur true 34 (.eff 35 [] .done))))))))))))))))))))))))))))))))))))))) .z)))))) (.sq (.sq .z (.bk (.lp [4] [5, 6, 46, 47, 48, 49, 50, 51, 52, 53, 54, 55, 56, 57, 58, 59, 60, 61, 62, 63, 64, 65, 66, 67, 68, 69, 70, 71, 72, 73, 74, 75, 76, 77, 78, 79, 80, 81, 82] (.sq (.sq .z (.cd .z .z)) (.sq (.bk (.sq (.dr (.pur true 0 (.pur true 1 (.pur true 2 (.pur false 3 (.pur true 4 (.pur true 5 (.pur true 6 (.pur false 7 (.pur true 8 (.pur true 9 .done))))))))))) (.dr (.pur true 0 (.pur true 1 (.pur true 2 (.pur true 3 (.pur false 4 (.pur true 5 (.pur true 8 (.pur true 9 (.pur true 12 (.pur true 13 (.pur true 14 (.pur false 15 (.pur true 17 (.pur true 20 (.pur true 21 (.alt (.eff 6 [4, 15] (.alt (.eff 7 [4, 15] (.pur true 10 (.pur true 11 (.pur true 16 (.eff 18 [4, 15] (.eff 19 [4, 15] (.pur true 22 (.pur true 23 (.pur true 24 (.eff 25 [] .done)))))))))) (.eff 18 [4, 15] (.eff 7 [4, 15] (.pur true 10 (.pur true 11 (.pur true 16 (.eff 19 [4, 15] (.pur true 22 (.pur true 23 (.pur true 24 (.eff 25 [] .done)))))))))))) (.eff 18 [4, 15] (.eff 6 [4, 15] (.eff 7 [4, 15] (.pur true 10 (.pur true 11 (.pur true 16 (.eff 19 [4, 15] (.pur true 22 (.pur true 23 (.pur true 24 (.eff 25 [] .done)))))))))))))))))))))))))))))) .z))))) (.sq .z .z)))) [t0] Tryz.func148 (by kernel_rfl) (by kernel_rfl) h
theorem n_digest_schedule : Enters Tryz.prog 148 := enters_of Tryz.func148 (by kernel_rfl) rfl
def s_digest_mixed (P : Program) (t0 t1 : Value) (w : World) (R : Ending → World → Prop) : Prop :=
 Bt P .len #[24] 3 #[t1] w fun t9 w =>
 Lp2 (.int .u32 0) (.int .i64 0) w (fun t5 t10 w k1 =>
 Bn P .lss 3 false t10 t9 w fun t11 w =>
 If t11
 (Ia P 24 t1 t10 w fun t12 w =>
 Ld P 3 t12 w fun t13 w =>
 Un P .neg t13 w fun t17 w =>
 Cl P 176 #[t0, t17] w (Pk R) fun t18 w =>
 Bn P .xor 163 false t5 t18 w fun t19 w =>
 Bn P .add 3 true t10 (.int .i64 1) w fun t20 w =>
 k1 t19 t20 w)
 (R (.returned t5) w))
theorem e_digest_mixed (h : s_digest_mixed Tryz.prog t0 t1 w R) : Calls Tryz.prog 149 #[t0, t1] w R :=
 en1 (.sq .z (.sq .z (.sq (.sq .z (.bk (.lp [5, 10] [7, 11, 12, 13, 14, 15, 16, 17, 18, 19, 20] (.sq .z (.sq (.cd .z .z) (.sq (.bk (.sq .z .z)) .z)))))) (.sq .z .z)))) [t0, t1] Tryz.func149 (by kernel_rfl) (by kernel_rfl) h
theorem n_digest_mixed : Enters Tryz.prog 149 := enters_of Tryz.func149 (by kernel_rfl) rfl
theorem n_strings_makeASCIISet : Enters Tryz.prog 153 := enters_of Tryz.func153 (by kernel_rfl) rfl
def s_strings_trimLeftASCII (P : Program) (t0 t1 : Value) (w : World) (R : Ending → World → Prop) : Prop :=
 Lp1 t0 w (fun t0x1 w k1 =>
 Bt P .len #[9] 3 #[t0x1] w fun t6 w =>
 Bn P .gtr 3 true t6 (.int .i64 0) w fun t7 w =>
 If t7
 (Ix P 9 t0x1 (.int .i64 0) w fun t10 w =>
 Cl P 177 #[t1, t10] w (Pk R) fun t11 w =>
 Un P .not t11 w fun t12 w =>
 If t12
 (R (.returned t0x1) w)
 (Sc P 9 t0x1 (some (.int .i64 1)) none none w fun t14 w =>
 k1 t14 w))
 (R (.returned t0x1) w))
theorem e_strings_trimLeftASCII (h : s_strings_trimLeftASCII Tryz.prog t0 t1 w R) : Calls Tryz.prog 154 #[t0, t1] w R :=
 en1 (.sq .z (.sq (.bk (.lp [0] [5, 6, 7, 8, 9, 10, 11, 12, 13, 14] (.sq (.sq .z (.cd .z .z)) (.bk (.sq (.sq .z (.cd .z .z)) .z))))) (.sq .z .z))) [t0, t1] Tryz.func154 (by kernel_rfl) (by kernel_rfl) h
theorem n_strings_trimLeftASCII : Enters Tryz.prog 154 := enters_of Tryz.func154 (by kernel_rfl) rfl
def s_strings_trimRightASCII (P : Program) (t0 t1 : Value) (w : World) (R : Ending → World → Prop) : Prop :=
 Lp1 t0 w (fun t0x1 w k1 =>
 Bt P .len #[9] 3 #[t0x1] w fun t6 w =>
 Bn P .gtr 3 true t6 (.int .i64 0) w fun t7 w =>
 If t7
 (Bt P .len #[9] 3 #[t0x1] w fun t11 w =>
 Bn P .sub 3 true t11 (.int .i64 1) w fun t12 w =>
 Ix P 9 t0x1 t12 w fun t13 w =>
 Cl P 177 #[t1, t13] w (Pk R) fun t14 w =>
 Un P .not t14 w fun t15 w =>
 If t15
 (R (.returned t0x1) w)
 (Bt P .len #[9] 3 #[t0x1] w fun t18 w =>
 Bn P .sub 3 true t18 (.int .i64 1) w fun t19 w =>
 Sc P 9 t0x1 none (some t19) none w fun t20 w =>
 k1 t20 w))
 (R (.returned t0x1) w))
theorem e_strings_trimRightASCII (h : s_strings_trimRightASCII Tryz.prog t0 t1 w R) : Calls Tryz.prog 155 #[t0, t1] w R :=
 en1 (.sq .z (.sq (.bk (.lp [0] [5, 6, 7, 8, 9, 10, 11, 12, 13, 14, 15, 16, 17, 18, 19, 20] (.sq (.sq .z (.cd .z .z)) (.bk (.sq (.sq .z (.cd .z .z)) .z))))) (.sq .z .z))) [t0, t1] Tryz.func155 (by kernel_rfl) (by kernel_rfl) h
theorem n_strings_trimRightASCII : Enters Tryz.prog 155 := enters_of Tryz.func155 (by kernel_rfl) rfl
def s_math_bits_RotateLeft32 (P : Program) (t0 t1 : Value) (w : World) (R : Ending → World → Prop) : Prop :=
 Cv P 3 140 t1 w fun t7 w =>
 Bn P .and 140 true t7 (.int .u64 31) w fun t8 w =>
 Bn P .shl 163 false t0 t8 w fun t11 w =>
 Bn P .sub 140 true (.int .u64 32) t8 w fun t14 w =>
 Bn P .shr 163 false t0 t14 w fun t15 w =>
 Bn P .or 163 false t11 t15 w fun t16 w =>
 R (.returned t16) w
theorem e_math_bits_RotateLeft32 (h : s_math_bits_RotateLeft32 Tryz.prog t0 t1 w R) : Calls Tryz.prog 176 #[t0, t1] w R :=
 en1 (.sq .z (.sq .z (.sq .z .z))) [t0, t1] Tryz.func176 (by kernel_rfl) (by kernel_rfl) h
theorem n_math_bits_RotateLeft32 : Enters Tryz.prog 176 := enters_of Tryz.func176 (by kernel_rfl) rfl
theorem n_strings_asciiSet_contains : Enters Tryz.prog 177 := enters_of Tryz.func177 (by kernel_rfl) rfl
end Go.Proofs.YtjgjeccfhmlcnaaGreatDoor
