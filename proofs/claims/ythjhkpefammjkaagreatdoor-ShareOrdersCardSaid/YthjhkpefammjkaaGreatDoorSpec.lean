/-
  Formulas of functions. By an AI agent.
-/
import Derived.Test.YthjhkpefammjkaaGreatDoorEng
import Derived.Test.YthjhkpefammjkaaGreatDoorProg
set_option linter.unusedSimpArgs false
set_option linter.unusedVariables false
set_option linter.unusedSectionVars false
namespace Go.Proofs.YthjhkpefammjkaaGreatDoor
open Go Go.Eng Go.Shelf
set_option maxRecDepth 100000
variable {t0 t1 t2 t3 t4 t5 : Value} {w : World} {R : Ending → World → Prop}
def s_law25_sane (P : Program) (w : World) (R : Ending → World → Prop) : Prop :=
 Bs P 22 8 [(0, (.int .i64 0)), (1, (.int .i64 0)), (2, (.int .i64 0)), (3, (.int .i64 0)), (4, (.int .i64 0)), (5, (.int .i64 0)), (6, (.int .i64 0)), (7, (.int .i64 1))] w fun t24 w =>
 Bs P 22 4 [(0, (.int .i64 0)), (1, (.int .i64 6)), (2, (.int .i64 0)), (3, (.int .i64 10))] w fun t26 w =>
 Cl P 13 #[t26] w (Pk R) fun t27 w =>
 Ex t27 0 w fun t28 w =>
 Ex t27 1 w fun t29 w =>
 Bs P 22 1 [(0, (.int .i64 5))] w fun t31 w =>
 Cl P 13 #[t31] w (Pk R) fun t32 w =>
 Ex t32 0 w fun t33 w =>
 Ex t32 1 w fun t34 w =>
 Bs P 22 2 [(0, (.int .i64 5)), (1, (.int .i64 7))] w fun t36 w =>
 Cl P 13 #[t36] w (Pk R) fun t37 w =>
 Ex t37 0 w fun t38 w =>
 Ex t37 1 w fun t39 w =>
 Cl P 13 #[t24] w (Pk R) fun t42 w =>
 Ex t42 0 w fun t43 w =>
 Ex t42 1 w fun t44 w =>
 Cl P 15 #[t24] w (Pk R) fun t47 w =>
 Ex t47 0 w fun t48 w =>
 Ex t47 1 w fun t49 w =>
 Cl P 17 #[t24] w (Pk R) fun t52 w =>
 Ex t52 0 w fun t53 w =>
 Ex t52 1 w fun t54 w =>
 Ex t52 2 w fun t55 w =>
 Bs P 22 2 [(0, (.int .i64 1)), (1, (.int .i64 2))] w fun t57 w =>
 Bs P 22 6 [(0, (.int .i64 0)), (1, (.int .i64 6)), (2, (.int .i64 1)), (3, (.int .i64 7)), (4, (.int .i64 2)), (5, (.int .i64 8))] w fun t58 w =>
 Cl P 27 #[t57, t58] w (Pk R) fun t59 w =>
 Ex t59 0 w fun t60 w =>
 Ex t59 1 w fun t61 w =>
 Bs P 22 3 [(0, (.int .i64 1)), (1, (.int .i64 2)), (2, (.int .i64 3))] w fun t63 w =>
 Cl P 13 #[t63] w (Pk R) fun t64 w =>
 Ex t64 0 w fun t65 w =>
 Ex t64 1 w fun t66 w =>
 Bs P 22 1 [(0, (.int .i64 1))] w fun t68 w =>
 Bs P 22 1 [(0, (.int .i64 1))] w fun t69 w =>
 Cl P 27 #[t68, t69] w (Pk R) fun t70 w =>
 Ex t70 0 w fun t71 w =>
 Ex t70 1 w fun t72 w =>
 Bn P .eql 27 true t29 (.int .i64 0) w fun t74 w =>
 Gd t74 true (fun k => k t34 w) w fun t76 w =>
 Gd t74 true (fun k => Bn P .eql 27 true t76 (.int .i64 0) w k) w fun t77 w =>
 Pick t74 t77 (.bool false) w fun t78 w =>
 Gd t78 true (fun k => k t39 w) w fun t80 w =>
 Gd t78 true (fun k => Bn P .eql 27 true t80 (.int .i64 0) w k) w fun t81 w =>
 Pick t78 t81 (.bool false) w fun t82 w =>
 Gd t82 true (fun k => k t44 w) w fun t84 w =>
 Gd t82 true (fun k => Bn P .eql 27 true t84 (.int .i64 0) w k) w fun t85 w =>
 Pick t82 t85 (.bool false) w fun t86 w =>
 Gd t86 true (fun k => k t49 w) w fun t88 w =>
 Gd t86 true (fun k => Bn P .eql 27 true t88 (.int .i64 0) w k) w fun t89 w =>
 Pick t86 t89 (.bool false) w fun t90 w =>
 Gd t90 true (fun k => k t55 w) w fun t92 w =>
 Gd t90 true (fun k => Bn P .eql 27 true t92 (.int .i64 0) w k) w fun t93 w =>
 Pick t90 t93 (.bool false) w fun t94 w =>
 Gd t94 true (fun k => k t61 w) w fun t96 w =>
 Gd t94 true (fun k => Bn P .eql 27 true t96 (.int .i64 0) w k) w fun t97 w =>
 Pick t94 t97 (.bool false) w fun t98 w =>
 Gd t98 true (fun k => k t66 w) w fun t100 w =>
 Gd t98 true (fun k => Bn P .eql 27 true t100 (.int .i64 250) w k) w fun t101 w =>
 Pick t98 t101 (.bool false) w fun t102 w =>
 Gd t102 true (fun k => k t72 w) w fun t104 w =>
 Gd t102 true (fun k => Bn P .eql 27 true t104 (.int .i64 250) w k) w fun t105 w =>
 Pick t102 t105 (.bool false) w fun t106 w =>
 Cl P 22 #[(.int .i64 1), (.int .i64 3)] w (Pk R) fun t107 w =>
 Al P 38 w fun t22 w =>
 Sto P 38 t22 t107 w fun w =>
 Cl P 22 #[(.int .i64 8), (.int .i64 1)] w (Pk R) fun t109 w =>
 Cl P 22 #[(.int .i64 2), (.int .i64 1)] w (Pk R) fun t110 w =>
 Bs P 26 2 [(0, t109), (1, t110)] w fun t111 w =>
 Cl P 19 #[t28, t111] w (Pk R) fun t112 w =>
 Gd t112 true (fun k => k t33 w) w fun t114 w =>
 Gd t112 true (fun k => Bt P .len #[26] 3 #[t114] w k) w fun t115 w =>
 Gd t112 true (fun k => Bn P .eql 3 true t115 (.int .i64 0) w k) w fun t116 w =>
 Pick t112 t116 (.bool false) w fun t117 w =>
 Gd t117 true (fun k => k t38 w) w fun t119 w =>
 Gd t117 true (fun k => Cl P 22 #[(.int .i64 2), (.int .i64 1)] w (Pk R) k) w fun t120 w =>
 Gd t117 true (fun k => Bs P 26 1 [(0, t120)] w k) w fun t121 w =>
 Gd t117 true (fun k => Cl P 19 #[t119, t121] w (Pk R) k) w fun t122 w =>
 Pick t117 t122 (.bool false) w fun t123 w =>
 Gd t123 true (fun k => k t43 w) w fun t125 w =>
 Gd t123 true (fun k => Ld P 38 t22 w k) w fun t126 w =>
 Gd t123 true (fun k => Ld P 38 t22 w k) w fun t127 w =>
 Gd t123 true (fun k => Ld P 38 t22 w k) w fun t128 w =>
 Gd t123 true (fun k => Bs P 26 3 [(0, t126), (1, t127), (2, t128)] w k) w fun t129 w =>
 Gd t123 true (fun k => Cl P 19 #[t125, t129] w (Pk R) k) w fun t130 w =>
 Pick t123 t130 (.bool false) w fun t131 w =>
 Gd t131 true (fun k => k t60 w) w fun t133 w =>
 Gd t131 true (fun k => Cl P 22 #[(.int .i64 6), (.int .i64 1)] w (Pk R) k) w fun t134 w =>
 Gd t131 true (fun k => Cl P 22 #[(.int .i64 1), (.int .i64 1)] w (Pk R) k) w fun t135 w =>
 Gd t131 true (fun k => Bs P 26 2 [(0, t134), (1, t135)] w k) w fun t136 w =>
 Gd t131 true (fun k => Cl P 19 #[t133, t136] w (Pk R) k) w fun t137 w =>
 Pick t131 t137 (.bool false) w fun t138 w =>
 Gd t106 true (fun k => k t138 w) w fun t141 w =>
 Pick t106 t141 (.bool false) w fun t142 w =>
 Gd t142 true (fun k => k t48 w) w fun t144 w =>
 Gd t142 true (fun k => Bs P 22 3 [(0, (.int .i64 0)), (1, (.int .i64 1)), (2, (.int .i64 2))] w k) w fun t145 w =>
 Gd t142 true (fun k => Bs P 25 1 [(0, t145)] w k) w fun t146 w =>
 Gd t142 true (fun k => Cl P 20 #[t144, t146] w (Pk R) k) w fun t147 w =>
 Pick t142 t147 (.bool false) w fun t148 w =>
 Gd t148 true (fun k => k t53 w) w fun t150 w =>
 Gd t148 true (fun k => Bs P 22 1 [(0, (.int .i64 3))] w k) w fun t151 w =>
 Gd t148 true (fun k => Cl P 21 #[t150, t151] w (Pk R) k) w fun t152 w =>
 Pick t148 t152 (.bool false) w fun t153 w =>
 Gd t153 true (fun k => k t54 w) w fun t155 w =>
 Gd t153 true (fun k => Bs P 22 4 [(0, (.int .i64 0)), (1, (.int .i64 0)), (2, (.int .i64 0)), (3, (.int .i64 1))] w k) w fun t156 w =>
 Gd t153 true (fun k => Cl P 21 #[t155, t156] w (Pk R) k) w fun t157 w =>
 Pick t153 t157 (.bool false) w fun t158 w =>
 Gd t158 true (fun k => k t24 w) w fun t160 w =>
 Gd t158 true (fun k => k t43 w) w fun t161 w =>
 Gd t158 true (fun k => Cl P 24 #[t160, t161] w (Pk R) k) w fun t162 w =>
 Pick t158 t162 (.bool false) w fun t163 w =>
 Gd t163 true (fun k => k t24 w) w fun t165 w =>
 Gd t163 true (fun k => k t38 w) w fun t166 w =>
 Gd t163 true (fun k => Cl P 24 #[t165, t166] w (Pk R) k) w fun t167 w =>
 Gd t163 true (fun k => Un P .not t167 w k) w fun t168 w =>
 Pick t163 t168 (.bool false) w fun t169 w =>
 Gd t169 true (fun k => Ld P 38 t22 w k) w fun t171 w =>
 Gd t169 true (fun k => Cl P 35 #[t171] w (Pk R) k) w fun t172 w =>
 Pick t169 t172 (.bool false) w fun t173 w =>
 R (.returned t173) w
theorem e_law25_sane (h : s_law25_sane Tryz.prog  w R) : Calls Tryz.prog 11 #[] w R :=
 en1 (.sq .z (.sq .z (.sq .z (.sq .z (.sq .z (.sq .z (.sq .z (.sq .z (.sq .z (.sq .z (.sq .z (.sq .z (.sq .z (.sq .z (.sq .z .z))))))))))))))) [] Tryz.func11 (by kernel_rfl) (by kernel_rfl) h
theorem n_law25_sane : Enters Tryz.prog 11 := enters_of Tryz.func11 (by kernel_rfl) rfl
def s_ref25_Made (P : Program) (t0 t1 t2 : Value) (w : World) (R : Ending → World → Prop) : Prop :=
 Cl P 36 #[t0, (.int .i64 6)] w (Pk R) fun t14 w =>
 Lp2 (.slice none 0 0) (.int .i64 0) w (fun t7 t9 w k1 =>
 Bn P .shl 3 true (.int .i64 1) t14 w fun t17 w =>
 Bn P .lss 3 false t9 t17 w fun t18 w =>
 If t18
 (Jn1 (fun k2 =>
 Cl P 36 #[t2, (.int .i64 2)] w (Pk R) fun t23 w =>
 Bn P .eql 3 true t23 (.int .i64 1) w fun t24 w =>
 If t24
 (Bn P .quo 3 true t2 (.int .i64 2) w fun t26 w =>
 Bn P .add 3 true t14 (.int .i64 1) w fun t28 w =>
 Cl P 36 #[t26, t28] w (Pk R) fun t29 w =>
 Dv P true (bn .shl 3 true (.int .i64 1) t29) w.drew fun t32 =>
 Dv P true (bn .rem 3 false t9 t32) w.drew fun t33 =>
 Dv P true (bn .shr 3 false t9 t29) w.drew fun t37 =>
 Cl P 37 #[t33] w.drew (Pk R) fun t34 w =>
 Cl P 37 #[t37] w (Pk R) fun t38 w =>
 Dv P true (bn .mul 3 true (.int .i64 7) t38) w fun t39 =>
 Dv P true (bn .add 3 false t34 t39) w fun t40 =>
 k2 t40 w)
 (k2 t9 w))
 (fun t10 w =>
 Bt P .len #[22] 3 #[t1] w fun t42 w =>
 Bn P .gtr 3 true t42 (.int .i64 0) w fun t43 w =>
 If t43
 (Dv P true (bV .len #[22] 3 #[t1]) w.drew fun t47 =>
 Dv P true (bn .rem 3 false t10 t47) w.drew fun t48 =>
 dIx P 22 t1 t48 w.drew fun t49 =>
 dL P 3 t49 w.drew fun t50 =>
 Dv P true (bV .len #[22] 3 #[t1]) w.drew fun t53 =>
 Dv P true (bn .quo 3 false t10 t53) w.drew fun t54 =>
 Dv P true (bn .add 3 false t50 t54) w.drew fun t55 =>
 Cl P 36 #[t55, (.int .i64 60)] w.drew (Pk R) fun t56 w =>
 Dv P true (bn .sub 3 true t56 (.int .i64 10)) w fun t57 =>
 Bs P 22 1 [(0, t57)] w fun t60 w =>
 Bt P .append #[22, 22] 22 #[t7, t60] w fun t61 w =>
 Bn P .add 3 true t9 (.int .i64 1) w fun t20 w =>
 k1 t61 t20 w)
 (Bs P 22 1 [(0, (.int .i64 0))] w fun t60x1 w =>
 Bt P .append #[22, 22] 22 #[t7, t60x1] w fun t61x1 w =>
 Bn P .add 3 true t9 (.int .i64 1) w fun t20x1 w =>
 k1 t61x1 t20x1 w)))
 (R (.returned t7) w))
theorem e_ref25_Made (h : s_ref25_Made Tryz.prog t0 t1 t2 w R) : Calls Tryz.prog 12 #[t0, t1, t2] w R :=
 en1 (.sq .z (.sq .z (.sq .z (.sq (.sq .z (.bk (.lp [7, 9] [10, 11, 12, 15, 16, 17, 18, 19, 20, 21, 22, 23, 24, 25, 26, 27, 28, 29, 30, 31, 32, 33, 34, 35, 36, 37, 38, 39, 40, 41, 42, 43, 44, 45, 46, 47, 48, 49, 50, 51, 52, 53, 54, 55, 56, 57, 58, 59, 60, 61] (.sq (.sq .z (.cd .z .z)) (.sq (.bk (.sq .z (.jn [10] [11, 22, 23, 24, 25, 26, 27, 28, 29, 30, 31, 32, 33, 34, 35, 36, 37, 38, 39, 40] (.sq .z (.cd (.sq .z (.dr (.pur true 0 (.pur true 1 (.pur true 2 (.pur true 3 (.pur true 5 (.pur true 6 (.pur true 7 (.eff 4 [] (.eff 8 [] (.pur true 9 (.pur true 10 (.pur true 11 .done)))))))))))))) .z)) (.sq .z (.sq (.sq .z (.cd (.dr (.pur true 0 (.pur true 1 (.pur true 2 (.pur true 3 (.pur true 4 (.pur true 5 (.pur false 6 (.pur true 7 (.pur true 8 (.pur true 9 (.pur true 10 (.pur true 11 (.eff 12 [] (.pur true 13 (.pur true 14 .done)))))))))))))))) .z)) .z))))) .z))))) (.sq .z .z))))) [t0, t1, t2] Tryz.func12 (by kernel_rfl) (by kernel_rfl) h
theorem n_ref25_Made : Enters Tryz.prog 12 := enters_of Tryz.func12 (by kernel_rfl) rfl
def s_share_Shapley (P : Program) (t0 : Value) (w : World) (R : Ending → World → Prop) : Prop :=
 Cl P 38 #[t0] w (Pk R) fun t10 w =>
 Ex t10 0 w fun t11 w =>
 Ex t10 1 w fun t12 w =>
 Un P .not t12 w fun t14 w =>
 If t14
 (R (.returned (.tuple #[(.slice none 0 0), (.int .i64 250)])) w)
 (Lp2 (.slice none 0 0) (.int .i64 0) w (fun t6 t16 w k1 =>
 Bn P .lss 3 false t16 t11 w fun t17 w =>
 If t17
 (Cl P 40 #[t0, t11, t16] w (Pk R) fun t24 w =>
 Cl P 39 #[t11, t24] w (Pk R) fun t25 w =>
 Bs P 26 1 [(0, t25)] w fun t26 w =>
 Bt P .append #[26, 26] 26 #[t6, t26] w fun t27 w =>
 Bn P .add 3 true t16 (.int .i64 1) w fun t28 w =>
 k1 t27 t28 w)
 (R (.returned (.tuple #[t6, (.int .i64 0)])) w)))
theorem e_share_Shapley (h : s_share_Shapley Tryz.prog t0 w R) : Calls Tryz.prog 13 #[t0] w R :=
 en1 (.sq .z (.sq .z (.sq (.sq .z (.cd (.sq .z .z) .z)) (.sq .z (.sq (.sq .z (.bk (.lp [6, 16] [7, 17, 18, 19, 20, 21, 22, 23, 24, 25, 26, 27, 28] (.sq .z (.sq (.cd .z .z) (.sq (.bk (.sq .z .z)) .z)))))) (.sq .z .z)))))) [t0] Tryz.func13 (by kernel_rfl) (by kernel_rfl) h
theorem n_share_Shapley : Enters Tryz.prog 13 := enters_of Tryz.func13 (by kernel_rfl) rfl
def s_share_Classes (P : Program) (t0 : Value) (w : World) (R : Ending → World → Prop) : Prop :=
 Cl P 38 #[t0] w (Pk R) fun t15 w =>
 Ex t15 0 w fun t16 w =>
 Ex t15 1 w fun t17 w =>
 Un P .not t17 w fun t19 w =>
 If t19
 (R (.returned (.tuple #[(.slice none 0 0), (.int .i64 250)])) w)
 (Mm P 73 none w fun t20 w =>
 Lp1 (.int .i64 0) w (fun t22 w k1 =>
 Bn P .lss 3 false t22 t16 w fun t23 w =>
 If t23
 (Bs P 22 1 [(0, t22)] w fun t28 w =>
 Mu P 73 t20 t22 t28 w fun w =>
 Bn P .add 3 true t22 (.int .i64 1) w fun t29 w =>
 k1 t29 w)
 (Bn P .sub 3 true t16 (.int .i64 1) w fun t31 w =>
 Lp1 t31 w (fun t8 w k2 =>
 Bn P .gtr 3 true t8 (.int .i64 0) w fun t33 w =>
 If t33
 (Lp1 (.int .i64 0) w (fun t37 w k3 =>
 Bn P .lss 3 false t37 t8 w fun t38 w =>
 If t38
 (Cl P 44 #[t0, t37, t8] w (Pk R) fun t43 w =>
 If t43
 (Lk P 73 t20 t37 false w fun t48 w =>
 Lk P 73 t20 t8 false w fun t51 w =>
 Bs P 25 2 [(0, t48), (1, t51)] w fun t52 w =>
 Cl P 45 #[t52] w (Pk R) fun t53 w =>
 Mu P 73 t20 t37 t53 w fun w =>
 Bt P .delete #[73, 3] 0 #[t20, t8] w fun _ w =>
 Bn P .sub 3 true t8 (.int .i64 1) w fun t35 w =>
 k2 t35 w)
 (Bn P .add 3 true t37 (.int .i64 1) w fun t56 w =>
 k3 t56 w))
 (Bn P .sub 3 true t8 (.int .i64 1) w fun t35x1 w =>
 k2 t35x1 w)))
 (Cl P 47 #[t20] w (Pk R) fun t58 w =>
 Cl P 46 #[t58] w (Pk R) fun t59 w =>
 Bt P .len #[22] 3 #[t59] w fun t60 w =>
 Lp2 (.slice none 0 0) (.int .i64 0) w (fun t10 t61 w k4 =>
 Bn P .lss 3 false t61 t60 w fun t62 w =>
 If t62
 (Ia P 22 t59 t61 w fun t63 w =>
 Ld P 3 t63 w fun t64 w =>
 Lk P 73 t20 t64 false w fun t68 w =>
 Cl P 48 #[t68] w (Pk R) fun t69 w =>
 Cl P 46 #[t69] w (Pk R) fun t70 w =>
 Bs P 25 1 [(0, t70)] w fun t71 w =>
 Bt P .append #[25, 25] 25 #[t10, t71] w fun t72 w =>
 Bn P .add 3 true t61 (.int .i64 1) w fun t73 w =>
 k4 t72 t73 w)
 (R (.returned (.tuple #[t10, (.int .i64 0)])) w)))))))
theorem e_share_Classes (h : s_share_Classes Tryz.prog t0 w R) : Calls Tryz.prog 15 #[t0] w R :=
 en1 (.sq .z (.sq .z (.sq (.sq .z (.cd (.sq .z .z) .z)) (.sq .z (.sq (.sq .z (.bk (.lp [22] [7, 23, 24, 25, 26, 27, 28, 29] (.sq .z (.sq (.cd .z .z) (.sq (.bk (.sq .z .z)) .z)))))) (.sq (.sq .z (.bk (.lp [8] [9, 32, 33, 34, 35, 36, 37, 38, 39, 40, 41, 42, 43, 44, 45, 46, 47, 48, 49, 50, 51, 52, 53, 54, 55, 56] (.sq (.sq .z (.cd .z .z)) (.sq (.bk (.sq .z (.bk (.lp [37] [9, 38, 39, 40, 41, 42, 43, 44, 45, 46, 47, 48, 49, 50, 51, 52, 53, 54, 55, 56] (.sq .z (.sq (.cd .z .z) (.sq (.bk (.sq .z (.sq .z (.cd (.sq .z (.sq .z .z)) .z)))) .z))))))) .z))))) (.sq .z (.sq (.sq .z (.bk (.lp [10, 61] [12, 62, 63, 64, 65, 66, 67, 68, 69, 70, 71, 72, 73] (.sq .z (.sq (.cd .z .z) (.sq (.bk (.sq .z .z)) .z)))))) (.sq .z .z))))))))) [t0] Tryz.func15 (by kernel_rfl) (by kernel_rfl) h
theorem n_share_Classes : Enters Tryz.prog 15 := enters_of Tryz.func15 (by kernel_rfl) rfl
def s_share_Reduce (P : Program) (t0 : Value) (w : World) (R : Ending → World → Prop) : Prop :=
 Cl P 15 #[t0] w (Pk R) fun t21 w =>
 Ex t21 0 w fun t22 w =>
 Ex t21 1 w fun t23 w =>
 Bn P .neq 27 true t23 (.int .i64 0) w fun t25 w =>
 If t25
 (R (.returned (.tuple #[(.slice none 0 0), (.slice none 0 0), t23])) w)
 (Bt P .len #[25] 3 #[t22] w fun t28 w =>
 Lp2 (.slice none 0 0) (.int .i64 0) w (fun t7 t29 w k1 =>
 Bn P .lss 3 false t29 t28 w fun t30 w =>
 If t30
 (Ia P 25 t22 t29 w fun t31 w =>
 Ld P 22 t31 w fun t32 w =>
 Bt P .len #[22] 3 #[t32] w fun t35 w =>
 Bs P 22 1 [(0, t35)] w fun t36 w =>
 Bt P .append #[22, 22] 22 #[t7, t36] w fun t37 w =>
 Bn P .add 3 true t29 (.int .i64 1) w fun t38 w =>
 k1 t37 t38 w)
 (Cl P 50 #[t7] w (Pk R) fun t41 w =>
 Ex t41 0 w fun t42 w =>
 Ex t41 1 w fun t43 w =>
 Lp2 (.slice none 0 0) (.int .i64 0) w (fun t8 t45 w k2 =>
 Bn P .lss 3 false t45 t42 w fun t46 w =>
 If t46
 (Cl P 51 #[t7, t45] w (Pk R) fun t50 w =>
 Bt P .len #[22] 3 #[t50] w fun t51 w =>
 Lp2 (.int .i64 0) (.int .i64 0) w (fun t14 t52 w k3 =>
 Bn P .lss 3 false t52 t51 w fun t53 w =>
 If t53
 (Ia P 22 t50 t52 w fun t55 w =>
 Ld P 3 t55 w fun t56 w =>
 Ia P 25 t22 t52 w fun t59 w =>
 Ld P 22 t59 w fun t60 w =>
 Sc P 22 t60 none (some t56) none w fun t62 w =>
 Bt P .len #[22] 3 #[t62] w fun t63 w =>
 Lp2 t14 (.int .i64 0) w (fun t14x1 t64 w k4 =>
 Bn P .lss 3 false t64 t63 w fun t65 w =>
 If t65
 (Ia P 22 t62 t64 w fun t66 w =>
 Ld P 3 t66 w fun t67 w =>
 Bn P .shl 3 true (.int .i64 1) t67 w fun t70 w =>
 Bn P .or 3 false t14x1 t70 w fun t71 w =>
 Bn P .add 3 true t64 (.int .i64 1) w fun t72 w =>
 k4 t71 t72 w)
 (Bn P .add 3 true t52 (.int .i64 1) w fun t73 w =>
 k3 t14x1 t73 w)))
 (Ia P 22 t0 t14 w fun t77 w =>
 Ld P 3 t77 w fun t78 w =>
 Bs P 22 1 [(0, t78)] w fun t79 w =>
 Bt P .append #[22, 22] 22 #[t8, t79] w fun t80 w =>
 Bn P .add 3 true t45 (.int .i64 1) w fun t81 w =>
 k2 t80 t81 w)))
 (R (.returned (.tuple #[t7, t8, (.int .i64 0)])) w)))))
theorem e_share_Reduce (h : s_share_Reduce Tryz.prog t0 w R) : Calls Tryz.prog 17 #[t0] w R :=
 en1 (.sq .z (.sq .z (.sq (.sq .z (.cd (.sq .z .z) .z)) (.sq .z (.sq (.sq .z (.bk (.lp [7, 29] [10, 30, 31, 32, 33, 34, 35, 36, 37, 38] (.sq .z (.sq (.cd .z .z) (.sq (.bk (.sq .z .z)) .z)))))) (.sq .z (.sq (.sq .z (.bk (.lp [8, 45] [13, 14, 15, 16, 18, 46, 47, 48, 49, 50, 51, 52, 53, 54, 55, 56, 57, 58, 59, 60, 61, 62, 63, 64, 65, 66, 67, 68, 69, 70, 71, 72, 73, 74, 75, 76, 77, 78, 79, 80, 81] (.sq .z (.sq (.cd .z .z) (.sq (.bk (.sq .z (.sq .z (.sq (.sq .z (.bk (.lp [14, 52] [15, 16, 18, 53, 54, 55, 56, 57, 58, 59, 60, 61, 62, 63, 64, 65, 66, 67, 68, 69, 70, 71, 72, 73] (.sq .z (.sq (.cd .z .z) (.sq (.bk (.sq .z (.sq .z (.bk (.lp [14, 64] [18, 65, 66, 67, 68, 69, 70, 71, 72] (.sq .z (.sq (.cd .z .z) (.sq (.bk (.sq .z .z)) .z)))))))) .z)))))) .z)))) .z)))))) (.sq .z .z)))))))) [t0] Tryz.func17 (by kernel_rfl) (by kernel_rfl) h
theorem n_share_Reduce : Enters Tryz.prog 17 := enters_of Tryz.func17 (by kernel_rfl) rfl
def s_law25_same (P : Program) (t0 t1 : Value) (w : World) (R : Ending → World → Prop) : Prop :=
 Cl P 53 #[t0, t1] w (Pk R) fun t7 w =>
 R (.returned t7) w
theorem e_law25_same (h : s_law25_same Tryz.prog t0 t1 w R) : Calls Tryz.prog 19 #[t0, t1] w R :=
 en1 (.sq .z (.sq .z .z)) [t0, t1] Tryz.func19 (by kernel_rfl) (by kernel_rfl) h
theorem n_law25_same : Enters Tryz.prog 19 := enters_of Tryz.func19 (by kernel_rfl) rfl
def s_law25_sets (P : Program) (t0 t1 : Value) (w : World) (R : Ending → World → Prop) : Prop :=
 Bt P .len #[25] 3 #[t0] w fun t7 w =>
 Bt P .len #[25] 3 #[t1] w fun t9 w =>
 Bn P .neq 3 false t7 t9 w fun t10 w =>
 If t10
 (R (.returned (.bool false)) w)
 (Lp1 (.int .i64 0) w (fun t5 w k1 =>
 Bt P .len #[25] 3 #[t0] w fun t13 w =>
 Bn P .lss 3 false t5 t13 w fun t14 w =>
 If t14
 (dIx P 25 t0 t5 w.drew fun t19 =>
 dL P 22 t19 w.drew fun t20 =>
 dIx P 25 t1 t5 w.drew fun t23 =>
 dL P 22 t23 w.drew fun t24 =>
 Cl P 21 #[t20, t24] w.drew (Pk R) fun t25 w =>
 Dv P true (Op.unary .not t25) w fun t26 =>
 If t26
 (R (.returned (.bool false)) w)
 (Bn P .add 3 true t5 (.int .i64 1) w fun t16 w =>
 k1 t16 w))
 (R (.returned (.bool true)) w)))
theorem e_law25_sets (h : s_law25_sets Tryz.prog t0 t1 w R) : Calls Tryz.prog 20 #[t0, t1] w R :=
 en1 (.sq .z (.sq (.sq .z (.cd (.sq .z .z) .z)) (.sq (.sq .z (.bk (.lp [5] [4, 11, 12, 13, 14, 15, 16, 17, 18, 19, 20, 21, 22, 23, 24, 25, 26] (.sq (.sq .z (.cd .z .z)) (.sq (.bk (.sq (.dr (.pur true 0 (.pur true 1 (.pur true 2 (.pur false 3 (.pur true 4 (.pur true 5 (.pur true 6 (.pur false 7 (.eff 8 [] (.pur true 9 .done))))))))))) (.cd (.sq .z .z) .z))) .z))))) (.sq .z .z)))) [t0, t1] Tryz.func20 (by kernel_rfl) (by kernel_rfl) h
theorem n_law25_sets : Enters Tryz.prog 20 := enters_of Tryz.func20 (by kernel_rfl) rfl
def s_law25_ints (P : Program) (t0 t1 : Value) (w : World) (R : Ending → World → Prop) : Prop :=
 Bt P .len #[22] 3 #[t0] w fun t7 w =>
 Bt P .len #[22] 3 #[t1] w fun t9 w =>
 Bn P .neq 3 false t7 t9 w fun t10 w =>
 If t10
 (R (.returned (.bool false)) w)
 (Lp1 (.int .i64 0) w (fun t5 w k1 =>
 Bt P .len #[22] 3 #[t0] w fun t13 w =>
 Bn P .lss 3 false t5 t13 w fun t14 w =>
 If t14
 (dIx P 22 t0 t5 w.drew fun t19 =>
 dL P 3 t19 w.drew fun t20 =>
 dIx P 22 t1 t5 w.drew fun t23 =>
 dL P 3 t23 w.drew fun t24 =>
 Dv P true (bn .neq 3 false t20 t24) w.drew fun t25 =>
 If t25
 (R (.returned (.bool false)) w.drew)
 (Bn P .add 3 true t5 (.int .i64 1) w.drew fun t16 w =>
 k1 t16 w))
 (R (.returned (.bool true)) w)))
theorem e_law25_ints (h : s_law25_ints Tryz.prog t0 t1 w R) : Calls Tryz.prog 21 #[t0, t1] w R :=
 en1 (.sq .z (.sq (.sq .z (.cd (.sq .z .z) .z)) (.sq (.sq .z (.bk (.lp [5] [4, 11, 12, 13, 14, 15, 16, 17, 18, 19, 20, 21, 22, 23, 24, 25] (.sq (.sq .z (.cd .z .z)) (.sq (.bk (.sq (.dr (.pur true 0 (.pur true 1 (.pur true 2 (.pur false 3 (.pur true 4 (.pur true 5 (.pur true 6 (.pur false 7 (.pur true 8 .done)))))))))) (.cd (.sq .z .z) .z))) .z))))) (.sq .z .z)))) [t0, t1] Tryz.func21 (by kernel_rfl) (by kernel_rfl) h
theorem n_law25_ints : Enters Tryz.prog 21 := enters_of Tryz.func21 (by kernel_rfl) rfl
def s_law25_of (P : Program) (t0 t1 : Value) (w : World) (R : Ending → World → Prop) : Prop :=
 Al P 38 w fun t4 w =>
 Cl P 54 #[t0, t1] w (Pk R) fun t10 w =>
 Ex t10 0 w fun t11 w =>
 Ex t10 1 w fun t12 w =>
 Al P 38 w fun t5 w =>
 Sto P 38 t5 t11 w fun w =>
 Bn P .neq 27 true t12 (.int .i64 0) w fun t14 w =>
 If t14
 (Bd P 38 [] w fun t15 w =>
 Sto P 38 t4 t15 w fun w =>
 Rc P 38 t4 w fun r0 =>
 R (.returned r0) w)
 (Ld P 38 t5 w fun t16 w =>
 Sto P 38 t4 t16 w fun w =>
 Rc P 38 t4 w fun r0 =>
 R (.returned r0) w)
theorem e_law25_of (h : s_law25_of Tryz.prog t0 t1 w R) : Calls Tryz.prog 22 #[t0, t1] w R :=
 en1 (.sq .z (.sq .z (.sq (.sq .z (.cd (.sq .z .z) .z)) (.sq .z .z)))) [t0, t1] Tryz.func22 (by kernel_rfl) (by kernel_rfl) h
theorem n_law25_of : Enters Tryz.prog 22 := enters_of Tryz.func22 (by kernel_rfl) rfl
def s_share_Check (P : Program) (t0 t1 : Value) (w : World) (R : Ending → World → Prop) : Prop :=
 Cl P 13 #[t0] w (Pk R) fun t9 w =>
 Ex t9 0 w fun t10 w =>
 Ex t9 1 w fun t11 w =>
 Bn P .eql 27 true t11 (.int .i64 0) w fun t13 w =>
 Gd t13 true (fun k => k t10 w) w fun t15 w =>
 Gd t13 true (fun k => k t1 w) w fun t16 w =>
 Gd t13 true (fun k => Cl P 55 #[t15, t16] w (Pk R) k) w fun t17 w =>
 Pick t13 t17 (.bool false) w fun t18 w =>
 R (.returned t18) w
theorem e_share_Check (h : s_share_Check Tryz.prog t0 t1 w R) : Calls Tryz.prog 24 #[t0, t1] w R :=
 en1 (.sq .z (.sq .z (.sq .z .z))) [t0, t1] Tryz.func24 (by kernel_rfl) (by kernel_rfl) h
theorem n_share_Check : Enters Tryz.prog 24 := enters_of Tryz.func24 (by kernel_rfl) rfl
def s_share_Merged (P : Program) (t0 t1 : Value) (w : World) (R : Ending → World → Prop) : Prop :=
 Bt P .len #[22] 3 #[t0] w fun t12 w =>
 Bn P .gtr 3 true t12 (.int .i64 6) w fun t13 w =>
 Gd t13 false (fun k => k t0 w) w fun t15 w =>
 Gd t13 false (fun k => k (.func (.func 56) #[] #[]) w) w fun t16 w =>
 Gd t13 false (fun k => Cl P 57 #[t15, t16] w (Pk R) k) w fun t17 w =>
 Pick t13 (.bool true) t17 w fun t18 w =>
 If t18
 (R (.returned (.tuple #[(.slice none 0 0), (.int .i64 250)])) w)
 (Cl P 50 #[t0] w (Pk R) fun t21 w =>
 Ex t21 0 w fun t22 w =>
 Ex t21 1 w fun t23 w =>
 Bn P .gtr 3 true t23 (.int .i64 10) w fun t25 w =>
 Gd t25 false (fun k => k t22 w) w fun t27 w =>
 Gd t25 false (fun k => Bn P .gtr 3 true t27 (.int .i64 400) w k) w fun t28 w =>
 Pick t25 (.bool true) t28 w fun t29 w =>
 Gd t29 false (fun k => k t22 w) w fun t31 w =>
 Gd t29 false (fun k => k t1 w) w fun t32 w =>
 Gd t29 false (fun k => Bt P .len #[22] 3 #[t32] w k) w fun t33 w =>
 Gd t29 false (fun k => Bn P .neq 3 false t31 t33 w k) w fun t34 w =>
 Pick t29 (.bool true) t34 w fun t35 w =>
 Gd t35 false (fun k => k t1 w) w fun t37 w =>
 Gd t35 false (fun k => Cl P 58 #[t37] w (Pk R) k) w fun t38 w =>
 Gd t35 false (fun k => Un P .not t38 w k) w fun t39 w =>
 Pick t35 (.bool true) t39 w fun t40 w =>
 If t40
 (R (.returned (.tuple #[(.slice none 0 0), (.int .i64 250)])) w)
 (Bt P .len #[22] 3 #[t0] w fun t42 w =>
 Lp2 (.slice none 0 0) (.int .i64 0) w (fun t9 t43 w k1 =>
 Bn P .lss 3 false t43 t42 w fun t44 w =>
 If t44
 (Cl P 59 #[t0, t1, t23, t43] w (Pk R) fun t52 w =>
 Cl P 39 #[t23, t52] w (Pk R) fun t53 w =>
 Bs P 26 1 [(0, t53)] w fun t54 w =>
 Bt P .append #[26, 26] 26 #[t9, t54] w fun t55 w =>
 Bn P .add 3 true t43 (.int .i64 1) w fun t56 w =>
 k1 t55 t56 w)
 (R (.returned (.tuple #[t9, (.int .i64 0)])) w))))
theorem e_share_Merged (h : s_share_Merged Tryz.prog t0 t1 w R) : Calls Tryz.prog 27 #[t0, t1] w R :=
 en1 (.sq .z (.sq .z (.sq (.sq .z (.cd (.sq .z .z) .z)) (.sq .z (.sq (.sq .z (.cd (.sq .z .z) .z)) (.sq .z (.sq (.sq .z (.bk (.lp [9, 43] [10, 44, 45, 46, 47, 48, 49, 50, 51, 52, 53, 54, 55, 56] (.sq .z (.sq (.cd .z .z) (.sq (.bk (.sq .z .z)) .z)))))) (.sq .z .z)))))))) [t0, t1] Tryz.func27 (by kernel_rfl) (by kernel_rfl) h
theorem n_share_Merged : Enters Tryz.prog 27 := enters_of Tryz.func27 (by kernel_rfl) rfl
def s_rational_Add (P : Program) (t0 t1 : Value) (w : World) (R : Ending → World → Prop) : Prop :=
 Bx P 38 t0 w fun t2 w =>
 Bx P 38 t1 w fun t3 w =>
 Al P 38 w fun t4 w =>
 Ld P 38 t2 w fun t6 w =>
 Ld P 38 t3 w fun t7 w =>
 Cl P 62 #[(.func (.func 63) #[] #[]), t6, t7] w (Pk R) fun t8 w =>
 Ex t8 0 w fun t9 w =>
 Ex t8 1 w fun t10 w =>
 Sto P 38 t4 t9 w fun w =>
 Rc P 38 t4 w fun r0 =>
 R (.returned (.tuple #[r0, t10])) w
theorem e_rational_Add (h : s_rational_Add Tryz.prog t0 t1 w R) : Calls Tryz.prog 31 #[t0, t1] w R :=
 en1 (.sq .z (.sq .z .z)) [t0, t1] Tryz.func31 (by kernel_rfl) (by kernel_rfl) h
theorem n_rational_Add : Enters Tryz.prog 31 := enters_of Tryz.func31 (by kernel_rfl) rfl
def s_law25_next (P : Program) (t0 : Value) (w : World) (R : Ending → World → Prop) : Prop :=
 Bt P .len #[22] 3 #[t0] w fun t8 w =>
 Bn P .sub 3 true t8 (.int .i64 2) w fun t9 w =>
 Lp1 t9 w (fun t3 w k1 =>
 Dv P true (bn .geq 3 true t3 (.int .i64 0)) w.drew fun t11 =>
 GdP t11 true (fun k => k t0) fun t13 =>
 GdP t11 true (fun k => k t3) fun t14 =>
 GdP t11 true (fun k => dIx P 22 t13 t14 w.drew k) fun t15 =>
 GdP t11 true (fun k => dL P 3 t15 w.drew k) fun t16 =>
 GdP t11 true (fun k => k t0) fun t17 =>
 GdP t11 true (fun k => k t3) fun t18 =>
 GdP t11 true (fun k => Dv P true (bn .add 3 true t18 (.int .i64 1)) w.drew k) fun t19 =>
 GdP t11 true (fun k => dIx P 22 t17 t19 w.drew k) fun t20 =>
 GdP t11 true (fun k => dL P 3 t20 w.drew k) fun t21 =>
 GdP t11 true (fun k => Dv P true (bn .gtr 3 false t16 t21) w.drew k) fun t22 =>
 PickP t11 t22 (.bool false) fun t23 =>
 If t23
 (Bn P .sub 3 true t3 (.int .i64 1) w.drew fun t25 w =>
 k1 t25 w)
 (Bn P .lss 3 true t3 (.int .i64 0) w.drew fun t27 w =>
 If t27
 (R (.returned (.bool false)) w)
 (Bt P .len #[22] 3 #[t0] w fun t29 w =>
 Bn P .sub 3 true t29 (.int .i64 1) w fun t30 w =>
 Lp1 t30 w (fun t4 w k2 =>
 dIx P 22 t0 t4 w.drew fun t33 =>
 dL P 3 t33 w.drew fun t34 =>
 dIx P 22 t0 t3 w.drew fun t37 =>
 dL P 3 t37 w.drew fun t38 =>
 Dv P true (bn .lss 3 false t34 t38) w.drew fun t39 =>
 If t39
 (Bn P .sub 3 true t4 (.int .i64 1) w.drew fun t41 w =>
 k2 t41 w)
 (Dv P true (Instr.indexAt 22 t0 t4) w.drew.drew fun t48 =>
 Dv P false (Instr.loadAt 3 t48) w.drew.drew fun t49 =>
 Dv P true (Instr.indexAt 22 t0 t3) w.drew.drew fun t52 =>
 Dv P false (Instr.loadAt 3 t52) w.drew.drew fun t53 =>
 Dv P true (Instr.indexAt 22 t0 t3) w.drew.drew fun t54 =>
 Sto P 3 t54 t49 w.drew.drew fun w =>
 dIx P 22 t0 t4 w fun t55 =>
 Sto P 3 t55 t53 w fun w =>
 Bn P .add 3 true t3 (.int .i64 1) w fun t57 w =>
 Bt P .len #[22] 3 #[t0] w fun t59 w =>
 Bn P .sub 3 true t59 (.int .i64 1) w fun t60 w =>
 Lp2 t57 t60 w (fun t5 t6 w k3 =>
 Bn P .lss 3 false t5 t6 w fun t63 w =>
 If t63
 (dIx P 22 t0 t6 w.drew fun t74 =>
 dL P 3 t74 w.drew fun t75 =>
 dIx P 22 t0 t5 w.drew fun t78 =>
 dL P 3 t78 w.drew fun t79 =>
 dIx P 22 t0 t5 w.drew fun t80 =>
 Sto P 3 t80 t75 w.drew fun w =>
 dIx P 22 t0 t6 w fun t81 =>
 Sto P 3 t81 t79 w fun w =>
 Bn P .add 3 true t5 (.int .i64 1) w fun t65 w =>
 Bn P .sub 3 true t6 (.int .i64 1) w fun t67 w =>
 k3 t65 t67 w)
 (R (.returned (.bool true)) w)))))))
theorem e_law25_next (h : s_law25_next Tryz.prog t0 w R) : Calls Tryz.prog 32 #[t0] w R :=
 en1 (.sq .z (.sq .z (.sq (.bk (.lp [3] [10, 11, 12, 13, 14, 15, 16, 17, 18, 19, 20, 21, 22, 23, 24, 25] (.sq (.sq (.dr (.pur true 0 (.pur true 1 (.pur true 2 (.pur true 3 (.pur true 4 (.pur true 5 (.pur false 6 (.pur true 7 (.pur true 8 (.pur true 9 (.pur true 10 (.pur false 11 (.pur true 12 (.pur true 13 .done))))))))))))))) (.cd .z .z)) (.bk .z)))) (.sq (.sq .z (.cd (.sq .z .z) .z)) (.sq .z (.sq (.bk (.lp [4] [31, 32, 33, 34, 35, 36, 37, 38, 39, 40, 41] (.sq (.sq (.dr (.pur true 0 (.pur true 1 (.pur true 2 (.pur false 3 (.pur true 4 (.pur true 5 (.pur true 6 (.pur false 7 (.pur true 8 .done)))))))))) (.cd .z .z)) (.bk .z)))) (.sq (.dr (.pur true 0 (.pur true 1 (.pur true 2 (.pur true 3 (.pur true 4 (.pur true 5 (.pur true 6 (.pur false 7 (.pur true 8 (.pur true 9 (.pur true 10 (.pur false 11 (.pur true 12 (.eff 13 [] (.pur true 14 (.eff 15 [] .done))))))))))))))))) (.sq (.sq .z (.bk (.lp [5, 6] [61, 62, 63, 64, 65, 66, 67, 68, 69, 70, 71, 72, 73, 74, 75, 76, 77, 78, 79, 80, 81] (.sq (.sq .z (.cd .z .z)) (.sq (.bk (.dr (.pur true 0 (.pur true 1 (.pur true 2 (.pur true 3 (.pur true 4 (.pur true 5 (.pur true 6 (.pur false 7 (.pur true 8 (.pur true 9 (.pur true 10 (.pur false 11 (.pur true 12 (.eff 13 [] (.pur true 14 (.eff 15 [] .done)))))))))))))))))) .z))))) (.sq .z .z))))))))) [t0] Tryz.func32 (by kernel_rfl) (by kernel_rfl) h
theorem n_law25_next : Enters Tryz.prog 32 := enters_of Tryz.func32 (by kernel_rfl) rfl
def s_rational_Valid (P : Program) (t0 : Value) (w : World) (R : Ending → World → Prop) : Prop :=
 Bx P 38 t0 w fun t1 w =>
 Fa P 38 t1 0 w fun t5 w =>
 Ld P 9 t5 w fun t6 w =>
 Cl P 66 #[t6] w (Pk R) fun t7 w =>
 Un P .not t7 w fun t8 w =>
 Gd t8 false (fun k => Fa P 38 t1 1 w k) w fun t10 w =>
 Gd t8 false (fun k => Ld P 9 t10 w k) w fun t11 w =>
 Gd t8 false (fun k => Cl P 66 #[t11] w (Pk R) k) w fun t12 w =>
 Gd t8 false (fun k => Un P .not t12 w k) w fun t13 w =>
 Pick t8 (.bool true) t13 w fun t14 w =>
 Gd t14 false (fun k => Fa P 38 t1 1 w k) w fun t16 w =>
 Gd t14 false (fun k => Ld P 9 t16 w k) w fun t17 w =>
 Gd t14 false (fun k => Cl P 65 #[t17, (str [48])] w (Pk R) k) w fun t18 w =>
 Gd t14 false (fun k => Bn P .leq 3 true t18 (.int .i64 0) w k) w fun t19 w =>
 Pick t14 (.bool true) t19 w fun t20 w =>
 If t20
 (R (.returned (.bool false)) w)
 (Fa P 38 t1 0 w fun t22 w =>
 Ld P 9 t22 w fun t23 w =>
 Fa P 38 t1 1 w fun t24 w =>
 Ld P 9 t24 w fun t25 w =>
 Cl P 67 #[t23, t25] w (Pk R) fun t26 w =>
 Ex t26 0 w fun t27 w =>
 Ex t26 1 w fun t28 w =>
 Bn P .eql 27 true t28 (.int .i64 0) w fun t30 w =>
 Gd t30 true (fun k => k t27 w) w fun t32 w =>
 Gd t30 true (fun k => Bn P .eql 9 true t32 (str [49]) w k) w fun t33 w =>
 Pick t30 t33 (.bool false) w fun t34 w =>
 R (.returned t34) w)
theorem e_rational_Valid (h : s_rational_Valid Tryz.prog t0 w R) : Calls Tryz.prog 35 #[t0] w R :=
 en1 (.sq .z (.sq (.sq .z (.cd (.sq .z .z) .z)) (.sq .z (.sq .z .z)))) [t0] Tryz.func35 (by kernel_rfl) (by kernel_rfl) h
theorem n_rational_Valid : Enters Tryz.prog 35 := enters_of Tryz.func35 (by kernel_rfl) rfl
def s_ref25_pick (P : Program) (t0 t1 : Value) (w : World) (R : Ending → World → Prop) : Prop :=
 Bn P .lss 3 true t0 (.int .i64 0) w fun t6 w =>
 If t6
 (Bn P .add 3 true t0 (.int .i64 1) w fun t8 w =>
 Un P .neg t8 w fun t9 w =>
 Bn P .rem 3 false t9 t1 w fun t12 w =>
 R (.returned t12) w)
 (Bn P .rem 3 false t0 t1 w fun t12x1 w =>
 R (.returned t12x1) w)
theorem e_ref25_pick (h : s_ref25_pick Tryz.prog t0 t1 w R) : Calls Tryz.prog 36 #[t0, t1] w R :=
 en1 (.sq .z (.sq (.sq .z (.cd .z .z)) (.sq .z .z))) [t0, t1] Tryz.func36 (by kernel_rfl) (by kernel_rfl) h
theorem n_ref25_pick : Enters Tryz.prog 36 := enters_of Tryz.func36 (by kernel_rfl) rfl
def s_ref25_members (P : Program) (t0 : Value) (w : World) (R : Ending → World → Prop) : Prop :=
 Lp2 t0 (.int .i64 0) w (fun t0x1 t3 w k1 =>
 Bn P .gtr 3 true t0x1 (.int .i64 0) w fun t5 w =>
 If t5
 (Bn P .rem 3 true t0x1 (.int .i64 2) w fun t8 w =>
 Bn P .add 3 false t3 t8 w fun t9 w =>
 Bn P .quo 3 true t0x1 (.int .i64 2) w fun t11 w =>
 k1 t11 t9 w)
 (R (.returned t3) w))
theorem e_ref25_members (h : s_ref25_members Tryz.prog t0 w R) : Calls Tryz.prog 37 #[t0] w R :=
 en1 (.sq .z (.sq .z (.sq (.bk (.lp [0, 3] [4, 5, 6, 7, 8, 9, 10, 11] (.sq (.sq .z (.cd .z .z)) (.bk (.sq .z .z))))) (.sq .z .z)))) [t0] Tryz.func37 (by kernel_rfl) (by kernel_rfl) h
theorem n_ref25_members : Enters Tryz.prog 37 := enters_of Tryz.func37 (by kernel_rfl) rfl
def s_share_causes (P : Program) (t0 : Value) (w : World) (R : Ending → World → Prop) : Prop :=
 Bt P .len #[22] 3 #[t0] w fun t6 w =>
 Cv P 3 98 t6 w fun t7 w =>
 Cl P 68 #[t7] w (Pk R) fun t8 w =>
 Bn P .sub 3 true t8 (.int .i64 1) w fun t9 w =>
 Bn P .geq 3 true t9 (.int .i64 0) w fun t12 w =>
 Gd t12 true (fun k => k t9 w) w fun t14 w =>
 Gd t12 true (fun k => Bn P .leq 3 true t14 (.int .i64 6) w k) w fun t15 w =>
 Pick t12 t15 (.bool false) w fun t16 w =>
 Gd t16 true (fun k => k t0 w) w fun t18 w =>
 Gd t16 true (fun k => Bt P .len #[22] 3 #[t18] w k) w fun t19 w =>
 Gd t16 true (fun k => k t9 w) w fun t20 w =>
 Gd t16 true (fun k => Bn P .shl 3 true (.int .i64 1) t20 w k) w fun t21 w =>
 Gd t16 true (fun k => Bn P .eql 3 false t19 t21 w k) w fun t22 w =>
 Pick t16 t22 (.bool false) w fun t23 w =>
 Gd t23 true (fun k => k t0 w) w fun t25 w =>
 Gd t23 true (fun k => Cl P 58 #[t25] w (Pk R) k) w fun t26 w =>
 Pick t23 t26 (.bool false) w fun t27 w =>
 R (.returned (.tuple #[t9, t27])) w
theorem e_share_causes (h : s_share_causes Tryz.prog t0 w R) : Calls Tryz.prog 38 #[t0] w R :=
 en1 (.sq .z (.sq .z (.sq .z .z))) [t0] Tryz.func38 (by kernel_rfl) (by kernel_rfl) h
theorem n_share_causes : Enters Tryz.prog 38 := enters_of Tryz.func38 (by kernel_rfl) rfl
def s_share_mean (P : Program) (t0 t1 : Value) (w : World) (R : Ending → World → Prop) : Prop :=
 Bx P 3 t0 w fun t2 w =>
 Al P 38 w fun t4 w =>
 Bd P 38 [(0, (str [48])), (1, (str [49]))] w fun t14 w =>
 Al P 38 w fun t5 w =>
 Sto P 38 t5 t14 w fun w =>
 Rf2 P t1 w (fun t16 t17 w next lv =>
 Cl P 54 #[t16, (.int .i64 1)] w (fun _ _ => False) fun t20 w =>
 Ex t20 0 w fun t21 w =>
 Ex t20 1 w fun t22 w =>
 Al P 38 w fun t8 w =>
 Sto P 38 t8 t21 w fun w =>
 Ld P 3 t2 w fun t25 w =>
 Ia P 99 (.pointer (some ⟨0, 0, none⟩)) t25 w fun t26 w =>
 Ld P 3 t26 w fun t27 w =>
 Cl P 54 #[t17, t27] w (fun _ _ => False) fun t28 w =>
 Ex t28 0 w fun t29 w =>
 Ex t28 1 w fun t30 w =>
 Al P 38 w fun t10 w =>
 Sto P 38 t10 t29 w fun w =>
 Ld P 38 t8 w fun t32 w =>
 Ld P 38 t10 w fun t33 w =>
 Cl P 69 #[t32, t33] w (fun _ _ => False) fun t34 w =>
 Ex t34 0 w fun t35 w =>
 Ex t34 1 w fun t36 w =>
 Al P 38 w fun t12 w =>
 Sto P 38 t12 t35 w fun w =>
 Ld P 38 t5 w fun t38 w =>
 Ld P 38 t12 w fun t39 w =>
 Cl P 31 #[t38, t39] w (fun _ _ => False) fun t40 w =>
 Ex t40 0 w fun t41 w =>
 Ex t40 1 w fun t42 w =>
 Sto P 38 t5 t41 w fun w =>
 next w)
 (fun D1 w =>
 Ld P 38 t5 w fun t43 w =>
 Sto P 38 t4 t43 w fun w =>
 Tk P D1 w fun w =>
 Rc P 38 t4 w fun r0 =>
 R (.returned r0) w)
 (fun D1 w =>
 Tk P D1 w fun w =>
 Rc P 38 t4 w fun r0 =>
 R (.returned r0) w) []
theorem e_share_mean (h : s_share_mean Tryz.prog t0 t1 w R) : Calls Tryz.prog 39 #[t0, t1] w R :=
 en1 (.sq .z (.sq .z (.sq (.sq .z (.bk (.rf (.bk (.sq .z (.sq .z (.sq .z .z)))) []))) (.sq .z .z)))) [t0, t1] Tryz.func39 (by kernel_rfl) (by kernel_rfl) h
theorem n_share_mean : Enters Tryz.prog 39 := enters_of Tryz.func39 (by kernel_rfl) rfl
def s_share_marginal (P : Program) (t0 t1 t2 : Value) (w : World) (R : Ending → World → Prop) : Prop :=
 Bx P 22 t0 w fun t3 w =>
 Bx P 3 t1 w fun t4 w =>
 Bx P 3 t2 w fun t5 w =>
 R (.returned (.func (.func 70) #[] #[t3, t5, t4])) w
theorem e_share_marginal (h : s_share_marginal Tryz.prog t0 t1 t2 w R) : Calls Tryz.prog 40 #[t0, t1, t2] w R :=
 en1 (.sq .z (.sq .z .z)) [t0, t1, t2] Tryz.func40 (by kernel_rfl) (by kernel_rfl) h
theorem n_share_marginal : Enters Tryz.prog 40 := enters_of Tryz.func40 (by kernel_rfl) rfl
def s_share_alike (P : Program) (t0 t1 t2 : Value) (w : World) (R : Ending → World → Prop) : Prop :=
 Bt P .len #[22] 3 #[t0] w fun t9 w =>
 Lp1 (.int .i64 0) w (fun t10 w k1 =>
 Bn P .lss 3 false t10 t9 w fun t11 w =>
 If t11
 (Dv P true (bn .shr 3 false t10 t1) w.drew fun t15 =>
 Dv P true (bn .and 3 true t15 (.int .i64 1)) w.drew fun t16 =>
 Dv P true (bn .eql 3 true t16 (.int .i64 0)) w.drew fun t17 =>
 GdP t17 true (fun k => k t10) fun t19 =>
 GdP t17 true (fun k => k t2) fun t20 =>
 GdP t17 true (fun k => Dv P true (bn .shr 3 false t19 t20) w.drew k) fun t21 =>
 GdP t17 true (fun k => Dv P true (bn .and 3 true t21 (.int .i64 1)) w.drew k) fun t22 =>
 GdP t17 true (fun k => Dv P true (bn .eql 3 true t22 (.int .i64 0)) w.drew k) fun t23 =>
 PickP t17 t23 (.bool false) fun t24 =>
 GdP t24 true (fun k => k t0) fun t26 =>
 GdP t24 true (fun k => k t10) fun t27 =>
 GdP t24 true (fun k => k t1) fun t28 =>
 GdP t24 true (fun k => Dv P true (bn .shl 3 true (.int .i64 1) t28) w.drew k) fun t29 =>
 GdP t24 true (fun k => Dv P true (bn .or 3 false t27 t29) w.drew k) fun t30 =>
 GdP t24 true (fun k => dIx P 22 t26 t30 w.drew k) fun t31 =>
 GdP t24 true (fun k => dL P 3 t31 w.drew k) fun t32 =>
 GdP t24 true (fun k => k t0) fun t33 =>
 GdP t24 true (fun k => k t10) fun t34 =>
 GdP t24 true (fun k => k t2) fun t35 =>
 GdP t24 true (fun k => Dv P true (bn .shl 3 true (.int .i64 1) t35) w.drew k) fun t36 =>
 GdP t24 true (fun k => Dv P true (bn .or 3 false t34 t36) w.drew k) fun t37 =>
 GdP t24 true (fun k => dIx P 22 t33 t37 w.drew k) fun t38 =>
 GdP t24 true (fun k => dL P 3 t38 w.drew k) fun t39 =>
 GdP t24 true (fun k => Dv P true (bn .neq 3 false t32 t39) w.drew k) fun t40 =>
 PickP t24 t40 (.bool false) fun t41 =>
 If t41
 (R (.returned (.bool false)) w.drew)
 (Bn P .add 3 true t10 (.int .i64 1) w.drew fun t42 w =>
 k1 t42 w))
 (R (.returned (.bool true)) w))
theorem e_share_alike (h : s_share_alike Tryz.prog t0 t1 t2 w R) : Calls Tryz.prog 44 #[t0, t1, t2] w R :=
 en1 (.sq .z (.sq (.sq .z (.bk (.lp [10] [6, 7, 11, 12, 13, 14, 15, 16, 17, 18, 19, 20, 21, 22, 23, 24, 25, 26, 27, 28, 29, 30, 31, 32, 33, 34, 35, 36, 37, 38, 39, 40, 41, 42] (.sq .z (.sq (.cd .z .z) (.sq (.bk (.sq .z (.sq (.dr (.pur true 0 (.pur true 1 (.pur true 2 (.pur true 3 (.pur true 4 (.pur true 5 (.pur true 6 (.pur true 7 (.pur true 8 (.pur true 9 (.pur true 10 (.pur true 11 (.pur true 12 (.pur true 13 (.pur true 14 (.pur true 15 (.pur true 16 (.pur true 17 (.pur true 18 (.pur false 19 (.pur true 20 (.pur true 21 (.pur true 22 (.pur true 23 (.pur true 24 (.pur true 25 (.pur false 26 (.pur true 27 (.pur true 28 .done)))))))))))))))))))))))))))))) (.cd (.sq .z .z) .z)))) .z)))))) (.sq .z .z))) [t0, t1, t2] Tryz.func44 (by kernel_rfl) (by kernel_rfl) h
theorem n_share_alike : Enters Tryz.prog 44 := enters_of Tryz.func44 (by kernel_rfl) rfl
def s_slices_Concat_int_int (P : Program) (t0 : Value) (w : World) (R : Ending → World → Prop) : Prop :=
 Bt P .len #[25] 3 #[t0] w fun t10 w =>
 Lp2 (.int .i64 0) (.int .i64 0) w (fun t3 t11 w k1 =>
 Bn P .lss 3 false t11 t10 w fun t12 w =>
 If t12
 (Ia P 25 t0 t11 w fun t13 w =>
 Ld P 22 t13 w fun t14 w =>
 Bt P .len #[22] 3 #[t14] w fun t17 w =>
 Bn P .add 3 false t3 t17 w fun t18 w =>
 Bn P .lss 3 true t18 (.int .i64 0) w fun t20 w =>
 If t20
 (Mi P 9 (str [108, 101, 110, 32, 111, 117, 116, 32, 111, 102, 32, 114, 97, 110, 103, 101]) w fun t21 w =>
 Pn P t21 w (Pk R) fun _ w =>
 Bn P .add 3 true t11 (.int .i64 1) w fun t22 w =>
 k1 t18 t22 w)
 (Bn P .add 3 true t11 (.int .i64 1) w fun t22x1 w =>
 k1 t18 t22x1 w))
 (Cl P 75 #[(.slice none 0 0), t3] w (Pk R) fun t24 w =>
 Bt P .len #[25] 3 #[t0] w fun t26 w =>
 Lp2 t24 (.int .i64 0) w (fun t6 t27 w k2 =>
 Bn P .lss 3 false t27 t26 w fun t28 w =>
 If t28
 (Ia P 25 t0 t27 w fun t29 w =>
 Ld P 22 t29 w fun t30 w =>
 Bt P .append #[22, 22] 22 #[t6, t30] w fun t33 w =>
 Bn P .add 3 true t27 (.int .i64 1) w fun t34 w =>
 k2 t33 t34 w)
 (R (.returned t6) w))))
theorem e_slices_Concat_int_int (h : s_slices_Concat_int_int Tryz.prog t0 w R) : Calls Tryz.prog 45 #[t0] w R :=
 en1 (.sq .z (.sq .z (.sq (.sq .z (.bk (.lp [3, 11] [5, 12, 13, 14, 15, 16, 17, 18, 19, 20, 21, 22] (.sq .z (.sq (.cd .z .z) (.sq (.bk (.sq .z (.sq .z (.sq .z (.cd .z .z))))) .z)))))) (.sq .z (.sq (.sq .z (.bk (.lp [6, 27] [8, 28, 29, 30, 31, 32, 33, 34] (.sq .z (.sq (.cd .z .z) (.sq (.bk (.sq .z .z)) .z)))))) (.sq .z .z)))))) [t0] Tryz.func45 (by kernel_rfl) (by kernel_rfl) h
theorem n_slices_Concat_int_int : Enters Tryz.prog 45 := enters_of Tryz.func45 (by kernel_rfl) rfl
def s_slices_Sorted_int (P : Program) (t0 : Value) (w : World) (R : Ending → World → Prop) : Prop :=
 Cl P 76 #[t0] w (Pk R) fun t5 w =>
 Cl P 77 #[t5] w (Pk R) fun t7 w =>
 R (.returned t5) w
theorem e_slices_Sorted_int (h : s_slices_Sorted_int Tryz.prog t0 w R) : Calls Tryz.prog 46 #[t0] w R :=
 en1 (.sq .z (.sq .z (.sq .z (.sq .z .z)))) [t0] Tryz.func46 (by kernel_rfl) (by kernel_rfl) h
theorem n_slices_Sorted_int : Enters Tryz.prog 46 := enters_of Tryz.func46 (by kernel_rfl) rfl
def s_maps_Keys_map_int_int_int_int (P : Program) (t0 : Value) (w : World) (R : Ending → World → Prop) : Prop :=
 Bx P 73 t0 w fun t1 w =>
 R (.returned (.func (.func 78) #[] #[t1])) w
theorem e_maps_Keys_map_int_int_int_int (h : s_maps_Keys_map_int_int_int_int Tryz.prog t0 w R) : Calls Tryz.prog 47 #[t0] w R :=
 en1 (.sq .z (.sq .z .z)) [t0] Tryz.func47 (by kernel_rfl) (by kernel_rfl) h
theorem n_maps_Keys_map_int_int_int_int : Enters Tryz.prog 47 := enters_of Tryz.func47 (by kernel_rfl) rfl
def s_slices_Values_int_int (P : Program) (t0 : Value) (w : World) (R : Ending → World → Prop) : Prop :=
 Bx P 22 t0 w fun t1 w =>
 R (.returned (.func (.func 79) #[] #[t1])) w
theorem e_slices_Values_int_int (h : s_slices_Values_int_int Tryz.prog t0 w R) : Calls Tryz.prog 48 #[t0] w R :=
 en1 (.sq .z (.sq .z .z)) [t0] Tryz.func48 (by kernel_rfl) (by kernel_rfl) h
theorem n_slices_Values_int_int : Enters Tryz.prog 48 := enters_of Tryz.func48 (by kernel_rfl) rfl
def s_share_many (P : Program) (t0 : Value) (w : World) (R : Ending → World → Prop) : Prop :=
 Bt P .len #[22] 3 #[t0] w fun t9 w =>
 Lp3 (.int .i64 1) (.int .i64 0) (.int .i64 0) w (fun t4 t5 t10 w k1 =>
 Bn P .lss 3 false t10 t9 w fun t11 w =>
 If t11
 (Ia P 22 t0 t10 w fun t12 w =>
 Ld P 3 t12 w fun t13 w =>
 Bn P .add 3 true t13 (.int .i64 1) w fun t16 w =>
 Bn P .mul 3 false t4 t16 w fun t17 w =>
 Bn P .add 3 false t5 t13 w fun t20 w =>
 Bn P .add 3 true t10 (.int .i64 1) w fun t21 w =>
 k1 t17 t20 t21 w)
 (R (.returned (.tuple #[t4, t5])) w))
theorem e_share_many (h : s_share_many Tryz.prog t0 w R) : Calls Tryz.prog 50 #[t0] w R :=
 en1 (.sq .z (.sq .z (.sq (.sq .z (.bk (.lp [4, 5, 10] [7, 11, 12, 13, 14, 15, 16, 17, 18, 19, 20, 21] (.sq .z (.sq (.cd .z .z) (.sq (.bk (.sq .z .z)) .z)))))) (.sq .z .z)))) [t0] Tryz.func50 (by kernel_rfl) (by kernel_rfl) h
theorem n_share_many : Enters Tryz.prog 50 := enters_of Tryz.func50 (by kernel_rfl) rfl
def s_share_counts (P : Program) (t0 t1 : Value) (w : World) (R : Ending → World → Prop) : Prop :=
 Bt P .len #[22] 3 #[t0] w fun t9 w =>
 Lp3 t1 (.slice none 0 0) (.int .i64 0) w (fun t1x1 t5 t10 w k1 =>
 Bn P .lss 3 false t10 t9 w fun t11 w =>
 If t11
 (Ia P 22 t0 t10 w fun t12 w =>
 Ld P 3 t12 w fun t13 w =>
 Bn P .add 3 true t13 (.int .i64 1) w fun t17 w =>
 Bn P .rem 3 false t1x1 t17 w fun t18 w =>
 Bs P 22 1 [(0, t18)] w fun t19 w =>
 Bt P .append #[22, 22] 22 #[t5, t19] w fun t20 w =>
 Bn P .add 3 true t13 (.int .i64 1) w fun t23 w =>
 Bn P .quo 3 false t1x1 t23 w fun t24 w =>
 Bn P .add 3 true t10 (.int .i64 1) w fun t25 w =>
 k1 t24 t20 t25 w)
 (R (.returned t5) w))
theorem e_share_counts (h : s_share_counts Tryz.prog t0 t1 w R) : Calls Tryz.prog 51 #[t0, t1] w R :=
 en1 (.sq .z (.sq .z (.sq (.sq .z (.bk (.lp [1, 5, 10] [7, 11, 12, 13, 14, 15, 16, 17, 18, 19, 20, 21, 22, 23, 24, 25] (.sq .z (.sq (.cd .z .z) (.sq (.bk (.sq .z (.sq .z .z))) .z)))))) (.sq .z .z)))) [t0, t1] Tryz.func51 (by kernel_rfl) (by kernel_rfl) h
theorem n_share_counts : Enters Tryz.prog 51 := enters_of Tryz.func51 (by kernel_rfl) rfl
def s_ref25_SameShares (P : Program) (t0 t1 : Value) (w : World) (R : Ending → World → Prop) : Prop :=
 Bt P .len #[26] 3 #[t0] w fun t7 w =>
 Bt P .len #[26] 3 #[t1] w fun t9 w =>
 Bn P .neq 3 false t7 t9 w fun t10 w =>
 If t10
 (R (.returned (.bool false)) w)
 (Lp1 (.int .i64 0) w (fun t5 w k1 =>
 Bt P .len #[26] 3 #[t0] w fun t13 w =>
 Bn P .lss 3 false t5 t13 w fun t14 w =>
 If t14
 (dIx P 26 t0 t5 w.drew fun t19 =>
 dL P 38 t19 w.drew fun t20 =>
 dIx P 26 t1 t5 w.drew fun t23 =>
 dL P 38 t23 w.drew fun t24 =>
 Dv P false (bn .neq 38 false t20 t24) w.drew fun t25 =>
 If t25
 (R (.returned (.bool false)) w.drew)
 (Bn P .add 3 true t5 (.int .i64 1) w.drew fun t16 w =>
 k1 t16 w))
 (R (.returned (.bool true)) w)))
theorem e_ref25_SameShares (h : s_ref25_SameShares Tryz.prog t0 t1 w R) : Calls Tryz.prog 53 #[t0, t1] w R :=
 en1 (.sq .z (.sq (.sq .z (.cd (.sq .z .z) .z)) (.sq (.sq .z (.bk (.lp [5] [4, 11, 12, 13, 14, 15, 16, 17, 18, 19, 20, 21, 22, 23, 24, 25] (.sq (.sq .z (.cd .z .z)) (.sq (.bk (.sq (.dr (.pur true 0 (.pur true 1 (.pur true 2 (.pur false 3 (.pur true 4 (.pur true 5 (.pur true 6 (.pur false 7 (.pur false 8 .done)))))))))) (.cd (.sq .z .z) .z))) .z))))) (.sq .z .z)))) [t0, t1] Tryz.func53 (by kernel_rfl) (by kernel_rfl) h
theorem n_ref25_SameShares : Enters Tryz.prog 53 := enters_of Tryz.func53 (by kernel_rfl) rfl
def s_rational_Of (P : Program) (t0 t1 : Value) (w : World) (R : Ending → World → Prop) : Prop :=
 Al P 38 w fun t4 w =>
 Cl P 81 #[t0] w (Pk R) fun t7 w =>
 Cl P 81 #[t1] w (Pk R) fun t9 w =>
 Cl P 80 #[t7, t9] w (Pk R) fun t10 w =>
 Ex t10 0 w fun t11 w =>
 Ex t10 1 w fun t12 w =>
 Sto P 38 t4 t11 w fun w =>
 Rc P 38 t4 w fun r0 =>
 R (.returned (.tuple #[r0, t12])) w
theorem e_rational_Of (h : s_rational_Of Tryz.prog t0 t1 w R) : Calls Tryz.prog 54 #[t0, t1] w R :=
 en1 (.sq .z (.sq .z .z)) [t0, t1] Tryz.func54 (by kernel_rfl) (by kernel_rfl) h
theorem n_rational_Of : Enters Tryz.prog 54 := enters_of Tryz.func54 (by kernel_rfl) rfl
def s_slices_Equal_api_Ratio_api_Ratio (P : Program) (t0 t1 : Value) (w : World) (R : Ending → World → Prop) : Prop :=
 Bt P .len #[26] 3 #[t0] w fun t7 w =>
 Bt P .len #[26] 3 #[t1] w fun t9 w =>
 Bn P .neq 3 false t7 t9 w fun t10 w =>
 If t10
 (R (.returned (.bool false)) w)
 (Bt P .len #[26] 3 #[t0] w fun t12 w =>
 Lp1 (.int .i64 0) w (fun t13 w k1 =>
 Bn P .lss 3 false t13 t12 w fun t14 w =>
 If t14
 (dIx P 26 t0 t13 w.drew fun t18 =>
 dL P 38 t18 w.drew fun t19 =>
 dIx P 26 t1 t13 w.drew fun t22 =>
 dL P 38 t22 w.drew fun t23 =>
 Dv P false (bn .neq 38 false t19 t23) w.drew fun t24 =>
 If t24
 (R (.returned (.bool false)) w.drew)
 (Bn P .add 3 true t13 (.int .i64 1) w.drew fun t25 w =>
 k1 t25 w))
 (R (.returned (.bool true)) w)))
theorem e_slices_Equal_api_Ratio_api_Ratio (h : s_slices_Equal_api_Ratio_api_Ratio Tryz.prog t0 t1 w R) : Calls Tryz.prog 55 #[t0, t1] w R :=
 en1 (.sq .z (.sq (.sq .z (.cd (.sq .z .z) .z)) (.sq (.sq .z (.bk (.lp [13] [4, 5, 14, 15, 16, 17, 18, 19, 20, 21, 22, 23, 24, 25] (.sq .z (.sq (.cd .z .z) (.sq (.bk (.sq .z (.sq (.dr (.pur true 0 (.pur true 1 (.pur true 2 (.pur false 3 (.pur true 4 (.pur true 5 (.pur true 6 (.pur false 7 (.pur false 8 .done)))))))))) (.cd (.sq .z .z) .z)))) .z)))))) (.sq .z .z)))) [t0, t1] Tryz.func55 (by kernel_rfl) (by kernel_rfl) h
theorem n_slices_Equal_api_Ratio_api_Ratio : Enters Tryz.prog 55 := enters_of Tryz.func55 (by kernel_rfl) rfl
def s_share_Merged_1 (P : Program) (t0 : Value) (w : World) (R : Ending → World → Prop) : Prop :=
 Bn P .lss 3 true t0 (.int .i64 1) w fun t4 w =>
 Gd t4 false (fun k => k t0 w) w fun t6 w =>
 Gd t4 false (fun k => Bn P .gtr 3 true t6 (.int .i64 10) w k) w fun t7 w =>
 Pick t4 (.bool true) t7 w fun t8 w =>
 R (.returned t8) w
theorem e_share_Merged_1 (h : s_share_Merged_1 Tryz.prog t0 w R) : Calls Tryz.prog 56 #[t0] w R :=
 en1 (.sq .z (.sq .z .z)) [t0] Tryz.func56 (by kernel_rfl) (by kernel_rfl) h
theorem n_share_Merged_1 : Enters Tryz.prog 56 := enters_of Tryz.func56 (by kernel_rfl) rfl
def s_slices_ContainsFunc_int_int (P : Program) (t0 t1 : Value) (w : World) (R : Ending → World → Prop) : Prop :=
 Cl P 82 #[t0, t1] w (Pk R) fun t7 w =>
 Bn P .geq 3 true t7 (.int .i64 0) w fun t8 w =>
 R (.returned t8) w
theorem e_slices_ContainsFunc_int_int (h : s_slices_ContainsFunc_int_int Tryz.prog t0 t1 w R) : Calls Tryz.prog 57 #[t0, t1] w R :=
 en1 (.sq .z (.sq .z .z)) [t0, t1] Tryz.func57 (by kernel_rfl) (by kernel_rfl) h
theorem n_slices_ContainsFunc_int_int : Enters Tryz.prog 57 := enters_of Tryz.func57 (by kernel_rfl) rfl
def s_share_worth (P : Program) (t0 : Value) (w : World) (R : Ending → World → Prop) : Prop :=
 Cl P 57 #[t0, (.func (.func 83) #[] #[])] w (Pk R) fun t4 w =>
 Un P .not t4 w fun t5 w =>
 R (.returned t5) w
theorem e_share_worth (h : s_share_worth Tryz.prog t0 w R) : Calls Tryz.prog 58 #[t0] w R :=
 en1 (.sq .z (.sq .z .z)) [t0] Tryz.func58 (by kernel_rfl) (by kernel_rfl) h
theorem n_share_worth : Enters Tryz.prog 58 := enters_of Tryz.func58 (by kernel_rfl) rfl
def s_share_merged (P : Program) (t0 t1 t2 t3 : Value) (w : World) (R : Ending → World → Prop) : Prop :=
 Bx P 22 t0 w fun t4 w =>
 Bx P 22 t1 w fun t5 w =>
 Bx P 3 t2 w fun t6 w =>
 Bx P 3 t3 w fun t7 w =>
 Ld P 22 t4 w fun t12 w =>
 Ld P 3 t7 w fun t13 w =>
 Sc P 22 t12 none (some t13) none w fun t14 w =>
 Cl P 50 #[t14] w (Pk R) fun t15 w =>
 Ex t15 0 w fun t16 w =>
 Ex t15 1 w fun t17 w =>
 Al P 3 w fun t9 w =>
 Sto P 3 t9 t16 w fun w =>
 R (.returned (.func (.func 84) #[] #[t5, t4, t7, t9, t6])) w
theorem e_share_merged (h : s_share_merged Tryz.prog t0 t1 t2 t3 w R) : Calls Tryz.prog 59 #[t0, t1, t2, t3] w R :=
 en1 (.sq .z (.sq .z (.sq .z .z))) [t0, t1, t2, t3] Tryz.func59 (by kernel_rfl) (by kernel_rfl) h
theorem n_share_merged : Enters Tryz.prog 59 := enters_of Tryz.func59 (by kernel_rfl) rfl
def s_rational_sum (P : Program) (t0 t1 t2 : Value) (w : World) (R : Ending → World → Prop) : Prop :=
 Bx P 38 t1 w fun t4 w =>
 Bx P 38 t2 w fun t5 w =>
 Al P 38 w fun t6 w =>
 Bd P 107 [] w fun t10 w =>
 Bx P 107 t10 w fun t11 w =>
 Ld P 38 t4 w fun t13 w =>
 Ld P 38 t5 w fun t14 w =>
 Bs P 26 2 [(0, t13), (1, t14)] w fun t15 w =>
 Cl P 86 #[t11, t15] w (Pk R) fun t16 w =>
 dFl P 38 t4 0 w.drew fun t20 =>
 dL P 9 t20 w.drew fun t21 =>
 dFl P 38 t5 1 w.drew fun t22 =>
 dL P 9 t22 w.drew fun t23 =>
 dFl P 38 t5 0 w.drew fun t26 =>
 dL P 9 t26 w.drew fun t27 =>
 dFl P 38 t4 1 w.drew fun t28 =>
 dL P 9 t28 w.drew fun t29 =>
 Cl P 88 #[t11, t21, t23] w.drew (Pk R) fun t24 w =>
 kLd P 9 t26 t27 w <|
 kLd P 9 t28 t29 w <|
 Cl P 88 #[t11, t27, t29] w (Pk R) fun t30 w =>
 Cl P 87 #[t11, t0, t24, t30] w (Pk R) fun t31 w =>
 Fa P 38 t4 1 w fun t35 w =>
 Ld P 9 t35 w fun t36 w =>
 Fa P 38 t5 1 w fun t37 w =>
 Ld P 9 t37 w fun t38 w =>
 Cl P 88 #[t11, t36, t38] w (Pk R) fun t39 w =>
 Cl P 89 #[t11, t31, t39] w (Pk R) fun t40 w =>
 Ex t40 0 w fun t41 w =>
 Ex t40 1 w fun t42 w =>
 Sto P 38 t6 t41 w fun w =>
 Rc P 38 t6 w fun r0 =>
 R (.returned (.tuple #[r0, t42])) w
theorem e_rational_sum (h : s_rational_sum Tryz.prog t0 t1 t2 w R) : Calls Tryz.prog 62 #[t0, t1, t2] w R :=
 en1 (.sq .z (.sq .z (.sq .z (.sq (.dr (.pur true 0 (.pur true 1 (.pur true 2 (.pur true 3 (.pur false 4 (.pur true 5 (.pur false 6 (.pur true 8 (.pur true 9 (.pur false 10 (.pur true 11 (.pur false 12 (.eff 7 [10, 12] (.eff 13 [] (.eff 14 [] (.pur true 15 .done))))))))))))))))) (.sq .z .z))))) [t0, t1, t2] Tryz.func62 (by kernel_rfl) (by kernel_rfl) h
theorem n_rational_sum : Enters Tryz.prog 62 := enters_of Tryz.func62 (by kernel_rfl) rfl
def s_integer_Add (P : Program) (t0 t1 : Value) (w : World) (R : Ending → World → Prop) : Prop :=
 Cl P 90 #[t0, t1] w (Pk R) fun t12 w =>
 Ex t12 0 w fun t13 w =>
 Ex t12 1 w fun t14 w =>
 Ex t12 2 w fun t15 w =>
 Al P 113 w fun t6 w =>
 Al P 113 w fun t7 w =>
 Sto P 113 t6 t13 w fun w =>
 Sto P 113 t7 t14 w fun w =>
 Un P .not t15 w fun t17 w =>
 If t17
 (R (.returned (.tuple #[(str []), (.int .i64 30)])) w)
 (Ld P 113 t6 w fun t18 w =>
 Ld P 113 t7 w fun t19 w =>
 Cl P 91 #[t18, t19] w (Pk R) fun t20 w =>
 Cl P 92 #[t20] w (Pk R) fun t21 w =>
 Ex t21 0 w fun t22 w =>
 Ex t21 1 w fun t23 w =>
 R (.returned (.tuple #[t22, t23])) w)
theorem e_integer_Add (h : s_integer_Add Tryz.prog t0 t1 w R) : Calls Tryz.prog 63 #[t0, t1] w R :=
 en1 (.sq .z (.sq .z (.sq (.sq .z (.cd (.sq .z .z) .z)) (.sq .z .z)))) [t0, t1] Tryz.func63 (by kernel_rfl) (by kernel_rfl) h
theorem n_integer_Add : Enters Tryz.prog 63 := enters_of Tryz.func63 (by kernel_rfl) rfl
def s_integer_Div (P : Program) (t0 t1 : Value) (w : World) (R : Ending → World → Prop) : Prop :=
 Cl P 90 #[t0, t1] w (Pk R) fun t19 w =>
 Ex t19 0 w fun t20 w =>
 Ex t19 1 w fun t21 w =>
 Ex t19 2 w fun t22 w =>
 Al P 113 w fun t7 w =>
 Al P 113 w fun t8 w =>
 Sto P 113 t7 t20 w fun w =>
 Sto P 113 t8 t21 w fun w =>
 Un P .not t22 w fun t24 w =>
 Gd t24 false (fun k => Fa P 113 t8 1 w k) w fun t26 w =>
 Gd t24 false (fun k => Ld P 111 t26 w k) w fun t27 w =>
 Gd t24 false (fun k => Bt P .len #[111] 3 #[t27] w k) w fun t28 w =>
 Gd t24 false (fun k => Bn P .eql 3 true t28 (.int .i64 0) w k) w fun t29 w =>
 Pick t24 (.bool true) t29 w fun t30 w =>
 If t30
 (R (.returned (.tuple #[(str []), (str []), (.int .i64 30)])) w)
 (Fa P 113 t7 1 w fun t32 w =>
 Ld P 111 t32 w fun t33 w =>
 Fa P 113 t8 1 w fun t34 w =>
 Ld P 111 t34 w fun t35 w =>
 Cl P 93 #[t33, t35] w (Pk R) fun t36 w =>
 Ex t36 0 w fun t37 w =>
 Ex t36 1 w fun t38 w =>
 Jn2 (fun k1 =>
 Fa P 113 t7 0 w fun t39 w =>
 Ld P 4 t39 w fun t40 w =>
 Gd t40 true (fun k => k t38 w) w fun t42 w =>
 Gd t40 true (fun k => Bt P .len #[111] 3 #[t42] w k) w fun t43 w =>
 Gd t40 true (fun k => Bn P .gtr 3 true t43 (.int .i64 0) w k) w fun t44 w =>
 Pick t40 t44 (.bool false) w fun t45 w =>
 If t45
 (dFl P 113 t8 1 w.drew fun t49 =>
 dL P 111 t49 w.drew fun t50 =>
 Cl P 95 #[] w.drew (Pk R) fun t47 w =>
 kLd P 111 t49 t50 w <|
 Cl P 94 #[t37, t47] w (Pk R) fun t48 w =>
 kLd P 111 t49 t50 w <|
 Cl P 96 #[t50, t38] w (Pk R) fun t52 w =>
 k1 t48 t52 w)
 (k1 t37 t38 w))
 (fun t10 t11 w =>
 Fa P 113 t7 0 w fun t54 w =>
 Ld P 4 t54 w fun t55 w =>
 Fa P 113 t8 0 w fun t56 w =>
 Ld P 4 t56 w fun t57 w =>
 Bn P .neq 4 false t55 t57 w fun t58 w =>
 Bd P 113 [(0, t58), (1, t10)] w fun t60 w =>
 Cl P 92 #[t60] w (Pk R) fun t61 w =>
 Ex t61 0 w fun t62 w =>
 Ex t61 1 w fun t63 w =>
 Bn P .neq 27 true t63 (.int .i64 0) w fun t65 w =>
 If t65
 (R (.returned (.tuple #[(str []), (str []), t63])) w)
 (Bd P 113 [(1, t11)] w fun t69 w =>
 Cl P 92 #[t69] w (Pk R) fun t70 w =>
 Ex t70 0 w fun t71 w =>
 Ex t70 1 w fun t72 w =>
 R (.returned (.tuple #[t62, t71, (.int .i64 0)])) w)))
theorem e_integer_Div (h : s_integer_Div Tryz.prog t0 t1 w R) : Calls Tryz.prog 64 #[t0, t1] w R :=
 en1 (.sq .z (.sq .z (.sq (.sq .z (.cd (.sq .z .z) .z)) (.sq .z (.jn [10, 11] [39, 40, 41, 42, 43, 44, 45, 46, 47, 48, 49, 50, 51, 52] (.sq .z (.cd (.dr (.pur true 0 (.pur true 3 (.pur false 4 (.pur true 5 (.eff 1 [4] (.eff 2 [4] (.eff 6 [] (.pur true 7 (.pur true 8 .done)))))))))) .z)) (.sq .z (.sq (.sq .z (.cd (.sq .z .z) .z)) (.sq .z (.sq .z .z))))))))) [t0, t1] Tryz.func64 (by kernel_rfl) (by kernel_rfl) h
theorem n_integer_Div : Enters Tryz.prog 64 := enters_of Tryz.func64 (by kernel_rfl) rfl
def s_integer_Compare (P : Program) (t0 t1 : Value) (w : World) (R : Ending → World → Prop) : Prop :=
 Cl P 90 #[t0, t1] w (Pk R) fun t11 w =>
 Ex t11 0 w fun t12 w =>
 Ex t11 1 w fun t13 w =>
 Ex t11 2 w fun t14 w =>
 Al P 113 w fun t5 w =>
 Al P 113 w fun t6 w =>
 Sto P 113 t5 t12 w fun w =>
 Sto P 113 t6 t13 w fun w =>
 Un P .not t14 w fun t17 w =>
 If t17
 (R (.returned (.int .i64 0)) w)
 (Fa P 113 t5 0 w fun t19 w =>
 Ld P 4 t19 w fun t20 w =>
 Gd t20 true (fun k => Fa P 113 t6 0 w k) w fun t22 w =>
 Gd t20 true (fun k => Ld P 4 t22 w k) w fun t23 w =>
 Pick t20 t23 (.bool false) w fun t24 w =>
 If t24
 (Fa P 113 t6 1 w fun t25 w =>
 Ld P 111 t25 w fun t26 w =>
 Fa P 113 t5 1 w fun t27 w =>
 Ld P 111 t27 w fun t28 w =>
 Cl P 97 #[t26, t28] w (Pk R) fun t29 w =>
 R (.returned t29) w)
 (Fa P 113 t5 0 w fun t31 w =>
 Ld P 4 t31 w fun t32 w =>
 If t32
 (R (.returned (.int .i64 (-1))) w)
 (Fa P 113 t6 0 w fun t34 w =>
 Ld P 4 t34 w fun t35 w =>
 If t35
 (R (.returned (.int .i64 1)) w)
 (Fa P 113 t5 1 w fun t36 w =>
 Ld P 111 t36 w fun t37 w =>
 Fa P 113 t6 1 w fun t38 w =>
 Ld P 111 t38 w fun t39 w =>
 Cl P 97 #[t37, t39] w (Pk R) fun t40 w =>
 R (.returned t40) w))))
theorem e_integer_Compare (h : s_integer_Compare Tryz.prog t0 t1 w R) : Calls Tryz.prog 65 #[t0, t1] w R :=
 en1 (.sq .z (.sq .z (.sq (.bk (.sq .z (.cd (.sq .z .z) (.sq .z (.cd (.sq .z .z) (.sq .z (.cd (.sq .z .z) (.sq .z (.cd (.sq .z .z) .z))))))))) (.sq .z .z)))) [t0, t1] Tryz.func65 (by kernel_rfl) (by kernel_rfl) h
theorem n_integer_Compare : Enters Tryz.prog 65 := enters_of Tryz.func65 (by kernel_rfl) rfl
def s_integer_Valid (P : Program) (t0 : Value) (w : World) (R : Ending → World → Prop) : Prop :=
 Cl P 98 #[t0] w (Pk R) fun t4 w =>
 R (.returned t4) w
theorem e_integer_Valid (h : s_integer_Valid Tryz.prog t0 w R) : Calls Tryz.prog 66 #[t0] w R :=
 en1 (.sq .z (.sq .z .z)) [t0] Tryz.func66 (by kernel_rfl) (by kernel_rfl) h
theorem n_integer_Valid : Enters Tryz.prog 66 := enters_of Tryz.func66 (by kernel_rfl) rfl
def s_integer_Gcd (P : Program) (t0 t1 : Value) (w : World) (R : Ending → World → Prop) : Prop :=
 Cl P 90 #[t0, t1] w (Pk R) fun t16 w =>
 Ex t16 0 w fun t17 w =>
 Ex t16 1 w fun t18 w =>
 Ex t16 2 w fun t19 w =>
 Al P 113 w fun t6 w =>
 Al P 113 w fun t7 w =>
 Sto P 113 t6 t17 w fun w =>
 Sto P 113 t7 t18 w fun w =>
 Un P .not t19 w fun t21 w =>
 If t21
 (R (.returned (.tuple #[(str []), (.int .i64 30)])) w)
 (dFl P 113 t6 1 w.drew fun t22 =>
 dL P 111 t22 w.drew fun t23 =>
 dFl P 113 t7 1 w.drew fun t24 =>
 dL P 111 t24 w.drew fun t25 =>
 Lp2 t23 t25 w.drew (fun t9 t10 w k1 =>
 Bt P .len #[111] 3 #[t10] w fun t27 w =>
 Bn P .gtr 3 true t27 (.int .i64 0) w fun t28 w =>
 If t28
 (Cl P 93 #[t9, t10] w (Pk R) fun t32 w =>
 Ex t32 0 w fun t33 w =>
 Ex t32 1 w fun t34 w =>
 k1 t10 t34 w)
 (Bd P 113 [(1, t9)] w fun t38 w =>
 Cl P 92 #[t38] w (Pk R) fun t39 w =>
 Ex t39 0 w fun t40 w =>
 Ex t39 1 w fun t41 w =>
 R (.returned (.tuple #[t40, t41])) w)))
theorem e_integer_Gcd (h : s_integer_Gcd Tryz.prog t0 t1 w R) : Calls Tryz.prog 67 #[t0, t1] w R :=
 en1 (.sq .z (.sq .z (.sq (.sq .z (.cd (.sq .z .z) .z)) (.sq (.dr (.pur true 0 (.pur false 1 (.pur true 2 (.pur false 3 (.pur true 4 (.pur true 5 .done))))))) (.sq (.bk (.lp [9, 10] [11, 12, 26, 27, 28, 29, 30, 31, 32, 33, 34, 35, 36] (.sq (.sq .z (.cd .z .z)) (.bk (.sq .z .z))))) (.sq .z .z)))))) [t0, t1] Tryz.func67 (by kernel_rfl) (by kernel_rfl) h
theorem n_integer_Gcd : Enters Tryz.prog 67 := enters_of Tryz.func67 (by kernel_rfl) rfl
theorem n_math_bits_Len : Enters Tryz.prog 68 := enters_of Tryz.func68 (by kernel_rfl) rfl
def s_rational_Mul (P : Program) (t0 t1 : Value) (w : World) (R : Ending → World → Prop) : Prop :=
 Bx P 38 t0 w fun t2 w =>
 Bx P 38 t1 w fun t3 w =>
 Al P 38 w fun t4 w =>
 Bd P 107 [] w fun t8 w =>
 Bx P 107 t8 w fun t9 w =>
 Ld P 38 t2 w fun t11 w =>
 Ld P 38 t3 w fun t12 w =>
 Bs P 26 2 [(0, t11), (1, t12)] w fun t13 w =>
 Cl P 86 #[t9, t13] w (Pk R) fun t14 w =>
 Fa P 38 t2 0 w fun t16 w =>
 Ld P 9 t16 w fun t17 w =>
 Fa P 38 t3 0 w fun t18 w =>
 Ld P 9 t18 w fun t19 w =>
 Cl P 88 #[t9, t17, t19] w (Pk R) fun t20 w =>
 Fa P 38 t2 1 w fun t24 w =>
 Ld P 9 t24 w fun t25 w =>
 Fa P 38 t3 1 w fun t26 w =>
 Ld P 9 t26 w fun t27 w =>
 Cl P 88 #[t9, t25, t27] w (Pk R) fun t28 w =>
 Cl P 89 #[t9, t20, t28] w (Pk R) fun t29 w =>
 Ex t29 0 w fun t30 w =>
 Ex t29 1 w fun t31 w =>
 Sto P 38 t4 t30 w fun w =>
 Rc P 38 t4 w fun r0 =>
 R (.returned (.tuple #[r0, t31])) w
theorem e_rational_Mul (h : s_rational_Mul Tryz.prog t0 t1 w R) : Calls Tryz.prog 69 #[t0, t1] w R :=
 en1 (.sq .z (.sq .z (.sq .z (.sq .z (.sq .z .z))))) [t0, t1] Tryz.func69 (by kernel_rfl) (by kernel_rfl) h
theorem n_rational_Mul : Enters Tryz.prog 69 := enters_of Tryz.func69 (by kernel_rfl) rfl
def s_share_marginal_1 (P : Program) (t0 t1 t2 t3 : Value) (w : World) (R : Ending → World → Prop) : Prop :=
 Ld P 22 t1 w fun t7 w =>
 Bt P .len #[22] 3 #[t7] w fun t8 w =>
 Lp1 (.int .i64 0) w (fun t9 w k1 =>
 Bn P .lss 3 false t9 t8 w fun t10 w =>
 If t10
 (Ld P 3 t2 w fun t13 w =>
 Bn P .shr 3 false t9 t13 w fun t14 w =>
 Bn P .and 3 true t14 (.int .i64 1) w fun t15 w =>
 Bn P .eql 3 true t15 (.int .i64 1) w fun t16 w =>
 If t16
 (Bn P .add 3 true t9 (.int .i64 1) w fun t45 w =>
 k1 t45 w)
 (Cv P 3 98 t9 w fun t18 w =>
 Cl P 71 #[t18] w (Pk R) fun t19 w =>
 dL P 22 t1 w.drew fun t21 =>
 dL P 3 t2 w.drew fun t23 =>
 Dv P true (bn .shl 3 true (.int .i64 1) t23) w.drew fun t24 =>
 Dv P true (bn .or 3 false t9 t24) w.drew fun t25 =>
 dIx P 22 t21 t25 w.drew fun t26 =>
 dL P 3 t26 w.drew fun t27 =>
 dL P 22 t1 w.drew fun t28 =>
 dIx P 22 t28 t9 w.drew fun t30 =>
 dL P 3 t30 w.drew fun t31 =>
 Dv P true (bn .sub 3 false t27 t31) w.drew fun t32 =>
 Dv P true (Instr.indexAt 99 (.pointer (some ⟨0, 0, none⟩)) t19) w.drew fun t34 =>
 dL P 3 t34 w.drew fun t35 =>
 dL P 3 t3 w.drew fun t36 =>
 Dv P true (bn .sub 3 false t36 t19) w.drew fun t38 =>
 Dv P true (bn .sub 3 true t38 (.int .i64 1)) w.drew fun t39 =>
 Dv P true (Instr.indexAt 99 (.pointer (some ⟨0, 0, none⟩)) t39) w.drew fun t40 =>
 dL P 3 t40 w.drew fun t41 =>
 Dv P true (bn .mul 3 false t35 t41) w.drew fun t42 =>
 Cw P t0 #[t32, t42] w.drew (Pk R) fun t43 w =>
 Dv P true (Op.unary .not t43) w fun t44 =>
 If t44
 (R (.returned (.tuple #[])) w)
 (Bn P .add 3 true t9 (.int .i64 1) w fun t45x1 w =>
 k1 t45x1 w)))
 (R (.returned (.tuple #[])) w))
theorem e_share_marginal_1 (h : s_share_marginal_1 Tryz.prog t0 t1 t2 t3 w R) : Calls Tryz.prog 70 #[t0, t1, t2, t3] w R :=
 en1 (.sq .z (.bk (.lp [9] [5, 6, 10, 11, 12, 13, 14, 15, 16, 17, 18, 19, 20, 21, 22, 23, 24, 25, 26, 27, 28, 29, 30, 31, 32, 33, 34, 35, 36, 37, 38, 39, 40, 41, 42, 43, 44, 45] (.sq .z (.sq (.cd .z .z) (.sq (.bk (.sq .z (.sq (.sq .z (.cd .z .z)) (.sq .z (.sq (.dr (.pur true 0 (.pur false 1 (.pur true 2 (.pur false 3 (.pur true 4 (.pur true 5 (.pur true 6 (.pur false 7 (.pur false 8 (.pur true 9 (.pur true 10 (.pur false 11 (.pur true 12 (.pur true 13 (.pur true 14 (.pur false 15 (.pur false 16 (.pur true 17 (.pur true 18 (.pur true 19 (.pur true 20 (.pur false 21 (.pur true 22 (.eff 23 [] (.pur true 24 .done)))))))))))))))))))))))))) (.cd .z .z)))))) .z)))))) [t0, t1, t2, t3] Tryz.func70 (by kernel_rfl) (by kernel_rfl) h
theorem n_share_marginal_1 : Enters Tryz.prog 70 := enters_of Tryz.func70 (by kernel_rfl) rfl
def s_math_bits_OnesCount (P : Program) (t0 : Value) (w : World) (R : Ending → World → Prop) : Prop :=
 If (.bool false)
 (Cv P 98 124 t0 w fun t4 w =>
 Cl P 101 #[t4] w (Pk R) fun t5 w =>
 R (.returned t5) w)
 (Cl P 102 #[t0] w (Pk R) fun t7 w =>
 R (.returned t7) w)
theorem e_math_bits_OnesCount (h : s_math_bits_OnesCount Tryz.prog t0 w R) : Calls Tryz.prog 71 #[t0] w R :=
 en1 (.sq .z (.sq (.cd (.sq .z .z) .z) (.sq .z .z))) [t0] Tryz.func71 (by kernel_rfl) (by kernel_rfl) h
theorem n_math_bits_OnesCount : Enters Tryz.prog 71 := enters_of Tryz.func71 (by kernel_rfl) rfl
def s_slices_Grow_int_int (P : Program) (t0 t1 : Value) (w : World) (R : Ending → World → Prop) : Prop :=
 Jn0 (fun k1 =>
 Bn P .lss 3 true t1 (.int .i64 0) w fun t6 w =>
 If t6
 (Mi P 9 (str [99, 97, 110, 110, 111, 116, 32, 98, 101, 32, 110, 101, 103, 97, 116, 105, 118, 101]) w fun t7 w =>
 Pn P t7 w (Pk R) fun _ w =>
 k1 w)
 (k1 w))
 (fun w =>
 Bt P .cap #[22] 3 #[t0] w fun t10 w =>
 Bt P .len #[22] 3 #[t0] w fun t12 w =>
 Bn P .sub 3 false t10 t12 w fun t13 w =>
 Bn P .sub 3 false t1 t13 w fun t14 w =>
 Bn P .gtr 3 true t14 (.int .i64 0) w fun t16 w =>
 If t16
 (Bt P .cap #[22] 3 #[t0] w fun t19 w =>
 Sc P 22 t0 none (some t19) none w fun t20 w =>
 Bt P .append #[22, 3] 22 #[t20, t14] w fun t22 w =>
 Bt P .len #[22] 3 #[t0] w fun t24 w =>
 Sc P 22 t22 none (some t24) none w fun t25 w =>
 R (.returned t25) w)
 (R (.returned t0) w))
theorem e_slices_Grow_int_int (h : s_slices_Grow_int_int Tryz.prog t0 t1 w R) : Calls Tryz.prog 75 #[t0, t1] w R :=
 en1 (.sq .z (.jn [] [5, 6, 7] (.sq .z (.cd .z .z)) (.sq (.sq .z (.sq .z (.cd .z .z))) (.sq .z .z)))) [t0, t1] Tryz.func75 (by kernel_rfl) (by kernel_rfl) h
theorem n_slices_Grow_int_int : Enters Tryz.prog 75 := enters_of Tryz.func75 (by kernel_rfl) rfl
def s_slices_Collect_int (P : Program) (t0 : Value) (w : World) (R : Ending → World → Prop) : Prop :=
 Cl P 109 #[(.slice none 0 0), t0] w (Pk R) fun t4 w =>
 R (.returned t4) w
theorem e_slices_Collect_int (h : s_slices_Collect_int Tryz.prog t0 w R) : Calls Tryz.prog 76 #[t0] w R :=
 en1 (.sq .z (.sq .z .z)) [t0] Tryz.func76 (by kernel_rfl) (by kernel_rfl) h
theorem n_slices_Collect_int : Enters Tryz.prog 76 := enters_of Tryz.func76 (by kernel_rfl) rfl
theorem n_slices_Sort_int_int : Enters Tryz.prog 77 := enters_of Tryz.func77 (by kernel_rfl) rfl
theorem n_maps_Keys_map_int_int_int_int_1 : Enters Tryz.prog 78 := enters_of Tryz.func78 (by kernel_rfl) rfl
def s_slices_Values_int_int_1 (P : Program) (t0 t1 : Value) (w : World) (R : Ending → World → Prop) : Prop :=
 Ld P 22 t1 w fun t5 w =>
 Bt P .len #[22] 3 #[t5] w fun t6 w =>
 Lp1 (.int .i64 0) w (fun t7 w k1 =>
 Bn P .lss 3 false t7 t6 w fun t8 w =>
 If t8
 (Ia P 22 t5 t7 w fun t9 w =>
 Ld P 3 t9 w fun t10 w =>
 Cw P t0 #[t10] w (Pk R) fun t13 w =>
 Un P .not t13 w fun t14 w =>
 If t14
 (R (.returned (.tuple #[])) w)
 (Bn P .add 3 true t7 (.int .i64 1) w fun t15 w =>
 k1 t15 w))
 (R (.returned (.tuple #[])) w))
theorem e_slices_Values_int_int_1 (h : s_slices_Values_int_int_1 Tryz.prog t0 t1 w R) : Calls Tryz.prog 79 #[t0, t1] w R :=
 en1 (.sq .z (.bk (.lp [7] [4, 8, 9, 10, 11, 12, 13, 14, 15] (.sq .z (.sq (.cd .z .z) (.sq (.bk (.sq .z (.sq .z (.cd .z .z)))) .z)))))) [t0, t1] Tryz.func79 (by kernel_rfl) (by kernel_rfl) h
theorem n_slices_Values_int_int_1 : Enters Tryz.prog 79 := enters_of Tryz.func79 (by kernel_rfl) rfl
def s_rational_Make (P : Program) (t0 t1 : Value) (w : World) (R : Ending → World → Prop) : Prop :=
 Al P 38 w fun t4 w =>
 Cl P 66 #[t0] w (Pk R) fun t8 w =>
 Un P .not t8 w fun t9 w =>
 Gd t9 false (fun k => k t1 w) w fun t11 w =>
 Gd t9 false (fun k => Cl P 66 #[t11] w (Pk R) k) w fun t12 w =>
 Gd t9 false (fun k => Un P .not t12 w k) w fun t13 w =>
 Pick t9 (.bool true) t13 w fun t14 w =>
 Bd P 107 [(0, t14)] w fun t15 w =>
 Bx P 107 t15 w fun t16 w =>
 Cl P 89 #[t16, t0, t1] w (Pk R) fun t20 w =>
 Ex t20 0 w fun t21 w =>
 Ex t20 1 w fun t22 w =>
 Sto P 38 t4 t21 w fun w =>
 Rc P 38 t4 w fun r0 =>
 R (.returned (.tuple #[r0, t22])) w
theorem e_rational_Make (h : s_rational_Make Tryz.prog t0 t1 w R) : Calls Tryz.prog 80 #[t0, t1] w R :=
 en1 (.sq .z (.sq .z (.sq .z .z))) [t0, t1] Tryz.func80 (by kernel_rfl) (by kernel_rfl) h
theorem n_rational_Make : Enters Tryz.prog 80 := enters_of Tryz.func80 (by kernel_rfl) rfl
def s_integer_FromInt (P : Program) (t0 : Value) (w : World) (R : Ending → World → Prop) : Prop :=
 Cl P 111 #[t0] w (Pk R) fun t4 w =>
 R (.returned t4) w
theorem e_integer_FromInt (h : s_integer_FromInt Tryz.prog t0 w R) : Calls Tryz.prog 81 #[t0] w R :=
 en1 (.sq .z (.sq .z .z)) [t0] Tryz.func81 (by kernel_rfl) (by kernel_rfl) h
theorem n_integer_FromInt : Enters Tryz.prog 81 := enters_of Tryz.func81 (by kernel_rfl) rfl
def s_slices_IndexFunc_int_int (P : Program) (t0 t1 : Value) (w : World) (R : Ending → World → Prop) : Prop :=
 Bt P .len #[22] 3 #[t0] w fun t7 w =>
 Lp1 (.int .i64 0) w (fun t8 w k1 =>
 Bn P .lss 3 false t8 t7 w fun t9 w =>
 If t9
 (Ia P 22 t0 t8 w fun t14 w =>
 Ld P 3 t14 w fun t15 w =>
 Cw P t1 #[t15] w (Pk R) fun t16 w =>
 If t16
 (R (.returned t8) w)
 (Bn P .add 3 true t8 (.int .i64 1) w fun t18 w =>
 k1 t18 w))
 (R (.returned (.int .i64 (-1))) w))
theorem e_slices_IndexFunc_int_int (h : s_slices_IndexFunc_int_int Tryz.prog t0 t1 w R) : Calls Tryz.prog 82 #[t0, t1] w R :=
 en1 (.sq .z (.sq (.sq .z (.bk (.lp [8] [4, 5, 9, 10, 11, 12, 13, 14, 15, 16, 17, 18] (.sq .z (.sq (.cd .z .z) (.sq (.bk (.sq .z (.sq .z (.cd (.sq .z .z) .z)))) .z)))))) (.sq .z .z))) [t0, t1] Tryz.func82 (by kernel_rfl) (by kernel_rfl) h
theorem n_slices_IndexFunc_int_int : Enters Tryz.prog 82 := enters_of Tryz.func82 (by kernel_rfl) rfl
def s_share_worth_1 (P : Program) (t0 : Value) (w : World) (R : Ending → World → Prop) : Prop :=
 Bn P .lss 3 true t0 (.int .i64 (-1125899906842624)) w fun t4 w =>
 Gd t4 false (fun k => k t0 w) w fun t6 w =>
 Gd t4 false (fun k => Bn P .gtr 3 true t6 (.int .i64 1125899906842624) w k) w fun t7 w =>
 Pick t4 (.bool true) t7 w fun t8 w =>
 R (.returned t8) w
theorem e_share_worth_1 (h : s_share_worth_1 Tryz.prog t0 w R) : Calls Tryz.prog 83 #[t0] w R :=
 en1 (.sq .z (.sq .z .z)) [t0] Tryz.func83 (by kernel_rfl) (by kernel_rfl) h
theorem n_share_worth_1 : Enters Tryz.prog 83 := enters_of Tryz.func83 (by kernel_rfl) rfl
def s_share_merged_1 (P : Program) (t0 t1 t2 t3 t4 t5 : Value) (w : World) (R : Ending → World → Prop) : Prop :=
 Ld P 22 t1 w fun t13 w =>
 Bt P .len #[22] 3 #[t13] w fun t14 w =>
 Lp1 (.int .i64 0) w (fun t15 w k1 =>
 Bn P .lss 3 false t15 t14 w fun t16 w =>
 If t16
 (Ia P 22 t13 t15 w fun t18 w =>
 Ld P 3 t18 w fun t19 w =>
 Ld P 22 t2 w fun t20 w =>
 Cl P 51 #[t20, t15] w (Pk R) fun t22 w =>
 dL P 3 t3 w.drew fun t24 =>
 dIx P 22 t22 t24 w.drew fun t25 =>
 dL P 3 t25 w.drew fun t26 =>
 dL P 22 t2 w.drew fun t27 =>
 dL P 3 t3 w.drew fun t28 =>
 dIx P 22 t27 t28 w.drew fun t29 =>
 dL P 3 t29 w.drew fun t30 =>
 Dv P true (bn .eql 3 false t26 t30) w.drew fun t31 =>
 If t31
 (Bn P .add 3 true t15 (.int .i64 1) w.drew fun t93 w =>
 k1 t93 w)
 (Ld P 22 t2 w.drew fun t32 w =>
 Bt P .len #[22] 3 #[t32] w fun t33 w =>
 Lp3 (.int .i64 1) (.int .i64 0) (.int .i64 0) w (fun t10 t11 t34 w k2 =>
 Bn P .lss 3 false t34 t33 w fun t35 w =>
 If t35
 (Ia P 22 t22 t34 w fun t40 w =>
 Ld P 3 t40 w fun t41 w =>
 Bn P .add 3 false t11 t41 w fun t42 w =>
 Ld P 3 t3 w fun t44 w =>
 Bn P .eql 3 false t34 t44 w fun t45 w =>
 If t45
 (dL P 22 t2 w.drew fun t47 =>
 dIx P 22 t47 t34 w.drew fun t49 =>
 dL P 3 t49 w.drew fun t50 =>
 Dv P true (bn .sub 3 true t50 (.int .i64 1)) w.drew fun t51 =>
 dIx P 22 t22 t34 w.drew fun t54 =>
 dL P 3 t54 w.drew fun t55 =>
 Cl P 85 #[t51, t55] w.drew (Pk R) fun t56 w =>
 Dv P true (bn .mul 3 false t10 t56) w fun t57 =>
 Bn P .add 3 true t34 (.int .i64 1) w fun t69 w =>
 k2 t57 t42 t69 w)
 (dL P 22 t2 w.drew fun t59 =>
 dIx P 22 t59 t34 w.drew fun t61 =>
 dL P 3 t61 w.drew fun t62 =>
 dIx P 22 t22 t34 w.drew fun t65 =>
 dL P 3 t65 w.drew fun t66 =>
 Cl P 85 #[t62, t66] w.drew (Pk R) fun t67 w =>
 Dv P true (bn .mul 3 false t10 t67) w fun t68 =>
 Bn P .add 3 true t34 (.int .i64 1) w fun t69x1 w =>
 k2 t68 t42 t69x1 w))
 (dL P 22 t1 w.drew fun t71 =>
 dL P 3 t4 w.drew fun t73 =>
 Dv P true (bn .add 3 false t15 t73) w.drew fun t74 =>
 dIx P 22 t71 t74 w.drew fun t75 =>
 dL P 3 t75 w.drew fun t76 =>
 Dv P true (bn .sub 3 false t76 t19) w.drew fun t78 =>
 Dv P true (Instr.indexAt 99 (.pointer (some ⟨0, 0, none⟩)) t11) w.drew fun t81 =>
 dL P 3 t81 w.drew fun t82 =>
 Dv P true (bn .mul 3 false t10 t82) w.drew fun t83 =>
 dL P 3 t5 w.drew fun t84 =>
 Dv P true (bn .sub 3 false t84 t11) w.drew fun t86 =>
 Dv P true (bn .sub 3 true t86 (.int .i64 1)) w.drew fun t87 =>
 Dv P true (Instr.indexAt 99 (.pointer (some ⟨0, 0, none⟩)) t87) w.drew fun t88 =>
 dL P 3 t88 w.drew fun t89 =>
 Dv P true (bn .mul 3 false t83 t89) w.drew fun t90 =>
 Cw P t0 #[t78, t90] w.drew (Pk R) fun t91 w =>
 Dv P true (Op.unary .not t91) w fun t92 =>
 If t92
 (R (.returned (.tuple #[])) w)
 (Bn P .add 3 true t15 (.int .i64 1) w fun t93x1 w =>
 k1 t93x1 w)))))
 (R (.returned (.tuple #[])) w))
theorem e_share_merged_1 (h : s_share_merged_1 Tryz.prog t0 t1 t2 t3 t4 t5 w R) : Calls Tryz.prog 84 #[t0, t1, t2, t3, t4, t5] w R :=
 en1 (.sq .z (.bk (.lp [15] [7, 8, 9, 10, 11, 12, 16, 17, 18, 19, 20, 21, 22, 23, 24, 25, 26, 27, 28, 29, 30, 31, 32, 33, 34, 35, 36, 37, 38, 39, 40, 41, 42, 43, 44, 45, 46, 47, 48, 49, 50, 51, 52, 53, 54, 55, 56, 57, 58, 59, 60, 61, 62, 63, 64, 65, 66, 67, 68, 69, 70, 71, 72, 73, 74, 75, 76, 77, 78, 79, 80, 81, 82, 83, 84, 85, 86, 87, 88, 89, 90, 91, 92, 93] (.sq .z (.sq (.cd .z .z) (.sq (.bk (.sq .z (.sq .z (.sq (.sq (.dr (.pur true 0 (.pur false 1 (.pur true 2 (.pur false 3 (.pur false 4 (.pur false 5 (.pur true 6 (.pur false 7 (.pur true 8 .done)))))))))) (.cd .z .z)) (.sq .z (.sq (.sq .z (.bk (.lp [10, 11, 34] [12, 35, 36, 37, 38, 39, 40, 41, 42, 43, 44, 45, 46, 47, 48, 49, 50, 51, 52, 53, 54, 55, 56, 57, 58, 59, 60, 61, 62, 63, 64, 65, 66, 67, 68, 69] (.sq .z (.sq (.cd .z .z) (.sq (.bk (.sq .z (.sq .z (.sq .z (.cd (.dr (.pur true 0 (.pur false 1 (.pur true 2 (.pur true 3 (.pur false 4 (.pur true 5 (.pur true 6 (.pur true 7 (.pur true 8 (.pur false 9 (.eff 10 [] (.pur true 11 (.pur true 12 .done)))))))))))))) (.dr (.pur true 0 (.pur false 1 (.pur true 2 (.pur true 3 (.pur false 4 (.pur true 5 (.pur true 6 (.pur true 7 (.pur false 8 (.eff 9 [] (.pur true 10 (.pur true 11 .done)))))))))))))))))) .z)))))) (.sq (.dr (.pur true 0 (.pur false 1 (.pur true 2 (.pur false 3 (.pur true 4 (.pur true 5 (.pur false 6 (.pur true 7 (.pur true 8 (.pur true 9 (.pur true 10 (.pur true 11 (.pur false 12 (.pur true 13 (.pur false 14 (.pur true 15 (.pur true 16 (.pur true 17 (.pur true 18 (.pur false 19 (.pur true 20 (.eff 21 [] (.pur true 22 .done)))))))))))))))))))))))) (.cd .z .z)))))))) .z)))))) [t0, t1, t2, t3, t4, t5] Tryz.func84 (by kernel_rfl) (by kernel_rfl) h
theorem n_share_merged_1 : Enters Tryz.prog 84 := enters_of Tryz.func84 (by kernel_rfl) rfl
def s_share_choose (P : Program) (t0 t1 : Value) (w : World) (R : Ending → World → Prop) : Prop :=
 Dv P true (Instr.indexAt 99 (.pointer (some ⟨0, 0, none⟩)) t0) w.drew fun t6 =>
 dL P 3 t6 w.drew fun t7 =>
 Dv P true (Instr.indexAt 99 (.pointer (some ⟨0, 0, none⟩)) t1) w.drew fun t9 =>
 dL P 3 t9 w.drew fun t10 =>
 Dv P true (bn .quo 3 false t7 t10) w.drew fun t11 =>
 Dv P true (bn .sub 3 false t0 t1) w.drew fun t14 =>
 Dv P true (Instr.indexAt 99 (.pointer (some ⟨0, 0, none⟩)) t14) w.drew fun t15 =>
 dL P 3 t15 w.drew fun t16 =>
 Dv P true (bn .quo 3 false t11 t16) w.drew fun t17 =>
 R (.returned t17) w.drew
theorem e_share_choose (h : s_share_choose Tryz.prog t0 t1 w R) : Calls Tryz.prog 85 #[t0, t1] w R :=
 en1 (.sq .z (.sq (.dr (.pur true 0 (.pur true 1 (.pur false 2 (.pur true 3 (.pur true 4 (.pur false 5 (.pur true 6 (.pur true 7 (.pur true 8 (.pur true 9 (.pur true 10 (.pur false 11 (.pur true 12 (.pur true 13 .done))))))))))))))) .z)) [t0, t1] Tryz.func85 (by kernel_rfl) (by kernel_rfl) h
theorem n_share_choose : Enters Tryz.prog 85 := enters_of Tryz.func85 (by kernel_rfl) rfl
def s_rational_work_check (P : Program) (t0 t1 : Value) (w : World) (R : Ending → World → Prop) : Prop :=
 Bt P .len #[26] 3 #[t1] w fun t7 w =>
 Lp1 (.int .i64 0) w (fun t8 w k1 =>
 Bn P .lss 3 false t8 t7 w fun t9 w =>
 If t9
 (Ia P 26 t1 t8 w fun t10 w =>
 Ld P 38 t10 w fun t11 w =>
 Al P 38 w fun t5 w =>
 Sto P 38 t5 t11 w fun w =>
 Nc t0 w fun t14 w =>
 Fa P 107 t14 0 w fun t15 w =>
 Ld P 4 t15 w fun t16 w =>
 Gd t16 false (fun k => Ld P 38 t5 w k) w fun t18 w =>
 Gd t16 false (fun k => Cl P 35 #[t18] w (Pk R) k) w fun t19 w =>
 Gd t16 false (fun k => Un P .not t19 w k) w fun t20 w =>
 Pick t16 (.bool true) t20 w fun t21 w =>
 Nc t0 w fun t22 w =>
 Fa P 107 t22 0 w fun t23 w =>
 Sto P 4 t23 t21 w fun w =>
 Bn P .add 3 true t8 (.int .i64 1) w fun t24 w =>
 k1 t24 w)
 (R (.returned (.tuple #[])) w))
theorem e_rational_work_check (h : s_rational_work_check Tryz.prog t0 t1 w R) : Calls Tryz.prog 86 #[t0, t1] w R :=
 en1 (.sq .z (.bk (.lp [8] [5, 9, 10, 11, 12, 13, 14, 15, 16, 17, 18, 19, 20, 21, 22, 23, 24] (.sq .z (.sq (.cd .z .z) (.sq (.bk (.sq .z .z)) .z)))))) [t0, t1] Tryz.func86 (by kernel_rfl) (by kernel_rfl) h
theorem n_rational_work_check : Enters Tryz.prog 86 := enters_of Tryz.func86 (by kernel_rfl) rfl
def s_rational_work_do (P : Program) (t0 t1 t2 t3 : Value) (w : World) (R : Ending → World → Prop) : Prop :=
 Nc t0 w fun t12 w =>
 Fa P 107 t12 0 w fun t13 w =>
 Ld P 4 t13 w fun t14 w =>
 If t14
 (R (.returned (str [])) w)
 (Cw P t1 #[t2, t3] w (Pk R) fun t19 w =>
 Ex t19 0 w fun t20 w =>
 Ex t19 1 w fun t21 w =>
 Bn P .neq 27 true t21 (.int .i64 0) w fun t24 w =>
 Nc t0 w fun t25 w =>
 Fa P 107 t25 0 w fun t26 w =>
 Sto P 4 t26 t24 w fun w =>
 R (.returned t20) w)
theorem e_rational_work_do (h : s_rational_work_do Tryz.prog t0 t1 t2 t3 w R) : Calls Tryz.prog 87 #[t0, t1, t2, t3] w R :=
 en1 (.sq .z (.sq (.sq .z (.cd (.sq .z .z) .z)) (.sq .z (.sq .z (.sq .z .z))))) [t0, t1, t2, t3] Tryz.func87 (by kernel_rfl) (by kernel_rfl) h
theorem n_rational_work_do : Enters Tryz.prog 87 := enters_of Tryz.func87 (by kernel_rfl) rfl
def s_rational_work_mul (P : Program) (t0 t1 t2 : Value) (w : World) (R : Ending → World → Prop) : Prop :=
 Cl P 87 #[t0, (.func (.func 112) #[] #[]), t1, t2] w (Pk R) fun t10 w =>
 R (.returned t10) w
theorem e_rational_work_mul (h : s_rational_work_mul Tryz.prog t0 t1 t2 w R) : Calls Tryz.prog 88 #[t0, t1, t2] w R :=
 en1 (.sq .z (.sq .z .z)) [t0, t1, t2] Tryz.func88 (by kernel_rfl) (by kernel_rfl) h
theorem n_rational_work_mul : Enters Tryz.prog 88 := enters_of Tryz.func88 (by kernel_rfl) rfl
def s_rational_work_reduced (P : Program) (t0 t1 t2 : Value) (w : World) (R : Ending → World → Prop) : Prop :=
 Al P 38 w fun t6 w =>
 Nc t0 w fun t11 w =>
 Fa P 107 t11 0 w fun t12 w =>
 Ld P 4 t12 w fun t13 w =>
 Gd t13 false (fun k => k t2 w) w fun t15 w =>
 Gd t13 false (fun k => Bn P .eql 9 true t15 (str [48]) w k) w fun t16 w =>
 Pick t13 (.bool true) t16 w fun t17 w =>
 If t17
 (Bd P 38 [] w fun t18 w =>
 Sto P 38 t6 t18 w fun w =>
 Rc P 38 t6 w fun r0 =>
 R (.returned (.tuple #[r0, (.int .i64 40)])) w)
 (Jn2 (fun k1 =>
 Cl P 65 #[t2, (str [48])] w (Pk R) fun t20 w =>
 Bn P .lss 3 true t20 (.int .i64 0) w fun t21 w =>
 If t21
 (Cl P 87 #[t0, (.func (.func 113) #[] #[]), (str [48]), t1] w (Pk R) fun t24 w =>
 Cl P 87 #[t0, (.func (.func 113) #[] #[]), (str [48]), t2] w (Pk R) fun t27 w =>
 k1 t24 t27 w)
 (k1 t1 t2 w))
 (fun t1x1 t2x1 w =>
 Cl P 87 #[t0, (.func (.func 67) #[] #[]), t1x1, t2x1] w (Pk R) fun t31 w =>
 Cl P 114 #[t0, t1x1, t31] w (Pk R) fun t35 w =>
 Cl P 114 #[t0, t2x1, t31] w (Pk R) fun t39 w =>
 Bd P 38 [(0, t35), (1, t39)] w fun t40 w =>
 Al P 38 w fun t9 w =>
 Sto P 38 t9 t40 w fun w =>
 Nc t0 w fun t42 w =>
 Fa P 107 t42 0 w fun t43 w =>
 Ld P 4 t43 w fun t44 w =>
 If t44
 (Bd P 38 [] w fun t45 w =>
 Sto P 38 t6 t45 w fun w =>
 Rc P 38 t6 w fun r0 =>
 R (.returned (.tuple #[r0, (.int .i64 40)])) w)
 (Ld P 38 t9 w fun t46 w =>
 Sto P 38 t6 t46 w fun w =>
 Rc P 38 t6 w fun r0 =>
 R (.returned (.tuple #[r0, (.int .i64 0)])) w)))
theorem e_rational_work_reduced (h : s_rational_work_reduced Tryz.prog t0 t1 t2 w R) : Calls Tryz.prog 89 #[t0, t1, t2] w R :=
 en1 (.sq .z (.sq (.sq .z (.cd (.sq .z .z) .z)) (.jn [1, 2] [19, 20, 21, 22, 23, 24, 25, 26, 27] (.sq .z (.cd .z .z)) (.sq .z (.sq .z (.sq (.sq .z (.cd (.sq .z .z) .z)) (.sq .z .z))))))) [t0, t1, t2] Tryz.func89 (by kernel_rfl) (by kernel_rfl) h
theorem n_rational_work_reduced : Enters Tryz.prog 89 := enters_of Tryz.func89 (by kernel_rfl) rfl
def s_integer_both (P : Program) (t0 t1 : Value) (w : World) (R : Ending → World → Prop) : Prop :=
 Al P 113 w fun t4 w =>
 Al P 113 w fun t5 w =>
 Cl P 98 #[t0] w (Pk R) fun t8 w =>
 Un P .not t8 w fun t9 w =>
 Gd t9 false (fun k => k t1 w) w fun t11 w =>
 Gd t9 false (fun k => Cl P 98 #[t11] w (Pk R) k) w fun t12 w =>
 Gd t9 false (fun k => Un P .not t12 w k) w fun t13 w =>
 Pick t9 (.bool true) t13 w fun t14 w =>
 If t14
 (Bd P 113 [] w fun t15 w =>
 Bd P 113 [] w fun t16 w =>
 Sto P 113 t4 t15 w fun w =>
 Sto P 113 t5 t16 w fun w =>
 Rc P 113 t4 w fun r0 =>
 Rc P 113 t5 w fun r1 =>
 R (.returned (.tuple #[r0, r1, (.bool false)])) w)
 (Cl P 115 #[t0] w (Pk R) fun t18 w =>
 Cl P 115 #[t1] w (Pk R) fun t20 w =>
 Sto P 113 t4 t18 w fun w =>
 Sto P 113 t5 t20 w fun w =>
 Rc P 113 t4 w fun r0 =>
 Rc P 113 t5 w fun r1 =>
 R (.returned (.tuple #[r0, r1, (.bool true)])) w)
theorem e_integer_both (h : s_integer_both Tryz.prog t0 t1 w R) : Calls Tryz.prog 90 #[t0, t1] w R :=
 en1 (.sq .z (.sq (.sq .z (.cd (.sq .z .z) .z)) (.sq .z .z))) [t0, t1] Tryz.func90 (by kernel_rfl) (by kernel_rfl) h
theorem n_integer_both : Enters Tryz.prog 90 := enters_of Tryz.func90 (by kernel_rfl) rfl
def s_integer_signed_plus (P : Program) (t0 t1 : Value) (w : World) (R : Ending → World → Prop) : Prop :=
 Bx P 113 t0 w fun t2 w =>
 Bx P 113 t1 w fun t3 w =>
 Al P 113 w fun t4 w =>
 Fa P 113 t2 0 w fun t6 w =>
 Ld P 4 t6 w fun t7 w =>
 Fa P 113 t3 0 w fun t8 w =>
 Ld P 4 t8 w fun t9 w =>
 Bn P .eql 4 false t7 t9 w fun t10 w =>
 If t10
 (dFl P 113 t2 0 w.drew fun t11 =>
 dL P 4 t11 w.drew fun t12 =>
 dFl P 113 t2 1 w.drew fun t13 =>
 dL P 111 t13 w.drew fun t14 =>
 dFl P 113 t3 1 w.drew fun t15 =>
 dL P 111 t15 w.drew fun t16 =>
 Cl P 94 #[t14, t16] w.drew (Pk R) fun t17 w =>
 kLd P 4 t11 t12 w <|
 Dv P true (Instr.build 113 #[(0, t12), (1, t17)]) w fun t18 =>
 Sto P 113 t4 t18 w fun w =>
 Rc P 113 t4 w fun r0 =>
 R (.returned r0) w)
 (Fa P 113 t2 1 w fun t20 w =>
 Ld P 111 t20 w fun t21 w =>
 Fa P 113 t3 1 w fun t22 w =>
 Ld P 111 t22 w fun t23 w =>
 Cl P 97 #[t21, t23] w (Pk R) fun t24 w =>
 Bn P .geq 3 true t24 (.int .i64 0) w fun t25 w =>
 If t25
 (dFl P 113 t2 0 w.drew fun t26 =>
 dL P 4 t26 w.drew fun t27 =>
 dFl P 113 t2 1 w.drew fun t28 =>
 dL P 111 t28 w.drew fun t29 =>
 dFl P 113 t3 1 w.drew fun t30 =>
 dL P 111 t30 w.drew fun t31 =>
 Cl P 96 #[t29, t31] w.drew (Pk R) fun t32 w =>
 kLd P 4 t26 t27 w <|
 Dv P true (Instr.build 113 #[(0, t27), (1, t32)]) w fun t33 =>
 Sto P 113 t4 t33 w fun w =>
 Rc P 113 t4 w fun r0 =>
 R (.returned r0) w)
 (dFl P 113 t3 0 w.drew fun t34 =>
 dL P 4 t34 w.drew fun t35 =>
 dFl P 113 t3 1 w.drew fun t36 =>
 dL P 111 t36 w.drew fun t37 =>
 dFl P 113 t2 1 w.drew fun t38 =>
 dL P 111 t38 w.drew fun t39 =>
 Cl P 96 #[t37, t39] w.drew (Pk R) fun t40 w =>
 kLd P 4 t34 t35 w <|
 Dv P true (Instr.build 113 #[(0, t35), (1, t40)]) w fun t41 =>
 Sto P 113 t4 t41 w fun w =>
 Rc P 113 t4 w fun r0 =>
 R (.returned r0) w))
theorem e_integer_signed_plus (h : s_integer_signed_plus Tryz.prog t0 t1 w R) : Calls Tryz.prog 91 #[t0, t1] w R :=
 en1 (.sq .z (.sq (.bk (.sq .z (.cd (.sq (.dr (.pur true 0 (.pur false 1 (.pur true 2 (.pur false 3 (.pur true 4 (.pur false 5 (.eff 6 [1] (.pur true 7 (.eff 8 [] .done)))))))))) .z) (.sq .z (.cd (.sq (.dr (.pur true 0 (.pur false 1 (.pur true 2 (.pur false 3 (.pur true 4 (.pur false 5 (.eff 6 [1] (.pur true 7 (.eff 8 [] .done)))))))))) .z) .z))))) (.sq (.dr (.pur true 0 (.pur false 1 (.pur true 2 (.pur false 3 (.pur true 4 (.pur false 5 (.eff 6 [1] (.pur true 7 (.eff 8 [] .done)))))))))) .z))) [t0, t1] Tryz.func91 (by kernel_rfl) (by kernel_rfl) h
theorem n_integer_signed_plus : Enters Tryz.prog 91 := enters_of Tryz.func91 (by kernel_rfl) rfl
def s_integer_signed_text (P : Program) (t0 : Value) (w : World) (R : Ending → World → Prop) : Prop :=
 Bx P 113 t0 w fun t1 w =>
 Fa P 113 t1 1 w fun t9 w =>
 Ld P 111 t9 w fun t10 w =>
 Bt P .len #[111] 3 #[t10] w fun t11 w =>
 Bn P .eql 3 true t11 (.int .i64 0) w fun t12 w =>
 If t12
 (R (.returned (.tuple #[(str [48]), (.int .i64 0)])) w)
 (Al P 135 w fun t4 w =>
 Fa P 113 t1 1 w fun t13 w =>
 Ld P 111 t13 w fun t14 w =>
 Cl P 116 #[t14] w (Pk R) fun t15 w =>
 Rf2 P t15 w (fun t16 t17 w next lv =>
 Cl P 111 #[t17] w (fun _ _ => False) fun t19 w =>
 Fa P 113 t1 1 w fun t21 w =>
 Ld P 111 t21 w fun t22 w =>
 Bt P .len #[111] 3 #[t22] w fun t23 w =>
 Bn P .sub 3 true t23 (.int .i64 1) w fun t24 w =>
 Bn P .lss 3 false t16 t24 w fun t25 w =>
 If t25
 (Bt P .len #[9] 3 #[t19] w fun t27 w =>
 Bn P .sub 3 true (.int .i64 4) t27 w fun t28 w =>
 Cl P 117 #[(str [48]), t28] w (fun _ _ => False) fun t29 w =>
 Bn P .add 9 false t29 t19 w fun t31 w =>
 Cl P 118 #[t4, t31] w (fun _ _ => False) fun t33 w =>
 next w)
 (Cl P 118 #[t4, t19] w (fun _ _ => False) fun t33x1 w =>
 next w))
 (fun D1 w =>
 Cl P 119 #[t4] w (fun c w => Tk P D1 w fun w => R (.panicked c) w) fun t34 w =>
 Bt P .len #[9] 3 #[t34] w fun t36 w =>
 Bn P .gtr 3 true t36 (.int .i64 200) w fun t37 w =>
 If t37
 (Tk P D1 w fun w =>
 R (.returned (.tuple #[(str []), (.int .i64 30)])) w)
 (Fa P 113 t1 0 w fun t38 w =>
 Ld P 4 t38 w fun t39 w =>
 If t39
 (Bn P .add 9 true (str [45]) t34 w fun t41 w =>
 Tk P D1 w fun w =>
 R (.returned (.tuple #[t41, (.int .i64 0)])) w)
 (Tk P D1 w fun w =>
 R (.returned (.tuple #[t34, (.int .i64 0)])) w)))
 (fun D1 w =>
 Tk P D1 w fun w =>
 R (.returned (.tuple #[(str []), (.int .i64 0)])) w) [])
theorem e_integer_signed_text (h : s_integer_signed_text Tryz.prog t0 w R) : Calls Tryz.prog 92 #[t0] w R :=
 en1 (.sq .z (.sq (.sq .z (.cd (.sq .z .z) .z)) (.sq .z (.sq (.sq .z (.bk (.rf (.bk (.sq .z (.sq (.sq .z (.cd .z .z)) .z))) []))) (.sq .z (.sq (.sq .z (.cd (.sq .z .z) .z)) (.sq (.sq .z (.cd (.sq .z .z) .z)) (.sq .z .z)))))))) [t0] Tryz.func92 (by kernel_rfl) (by kernel_rfl) h
theorem n_integer_signed_text : Enters Tryz.prog 92 := enters_of Tryz.func92 (by kernel_rfl) rfl
def s_integer_number_over (P : Program) (t0 t1 : Value) (w : World) (R : Ending → World → Prop) : Prop :=
 Bx P 111 t1 w fun t3 w =>
 Al P 111 w fun t4 w =>
 Al P 111 w fun t5 w =>
 Bt P .len #[111] 3 #[t0] w fun t11 w =>
 Ms P 111 t11 t11 w fun t12 w =>
 Sto P 111 t4 t12 w fun w =>
 Cl P 116 #[t0] w (Pk R) fun t14 w =>
 Rf2 P t14 w (fun t15 t16 w next lv =>
 Bs P 111 1 [(0, t16)] w fun t18 w =>
 Ld P 111 t5 w fun t19 w =>
 Bt P .append #[111, 111] 111 #[t18, t19] w fun t20 w =>
 Cl P 120 #[t20] w (fun _ _ => False) fun t21 w =>
 Sto P 111 t5 t21 w fun w =>
 Ld P 111 t3 w fun t22 w =>
 Al P 143 w fun t8 w =>
 Sto P 143 t8 (.func (.func 121) #[t22] #[]) w fun w =>
 dL P 111 t4 w.drew fun t25 =>
 Cl P 123 #[(.int .i64 9999), (.func (.func 122) #[] #[t8, t5])] w.drew (fun _ _ => False) fun t28 w =>
 kLd P 111 t4 t25 w <|
 dIx P 111 t25 t15 w fun t29 =>
 Sto P 3 t29 t28 w fun w =>
 dL P 111 t5 w.drew fun t30 =>
 dL P 143 t8 w.drew fun t31 =>
 dL P 111 t4 w.drew fun t32 =>
 dIx P 111 t32 t15 w.drew fun t34 =>
 dL P 3 t34 w.drew fun t35 =>
 Cw P t31 #[t35] w.drew (fun _ _ => False) fun t36 w =>
 kLd P 111 t5 t30 w <|
 Cl P 96 #[t30, t36] w (fun _ _ => False) fun t37 w =>
 Sto P 111 t5 t37 w fun w =>
 next w)
 (fun D1 w =>
 dL P 111 t4 w.drew fun t38 =>
 dL P 111 t5 w.drew fun t40 =>
 Cl P 120 #[t38] w.drew (fun c w => Tk P D1 w fun w => R (.panicked c) w) fun t39 w =>
 kLd P 111 t5 t40 w <|
 Sto P 111 t4 t39 w fun w =>
 kLd P 111 t5 t40 w <|
 Sto P 111 t5 t40 w fun w =>
 Tk P D1 w fun w =>
 Rc P 111 t4 w fun r0 =>
 Rc P 111 t5 w fun r1 =>
 R (.returned (.tuple #[r0, r1])) w)
 (fun D1 w =>
 Tk P D1 w fun w =>
 Rc P 111 t4 w fun r0 =>
 Rc P 111 t5 w fun r1 =>
 R (.returned (.tuple #[r0, r1])) w) []
theorem e_integer_number_over (h : s_integer_number_over Tryz.prog t0 t1 w R) : Calls Tryz.prog 93 #[t0, t1] w R :=
 en1 (.sq .z (.sq .z (.sq (.sq .z (.bk (.rf (.bk (.sq .z (.sq .z (.sq .z (.sq (.dr (.pur false 0 (.pur true 1 (.pur true 2 (.eff 3 [0] (.pur true 4 (.eff 5 [] .done))))))) (.dr (.pur false 0 (.pur false 1 (.pur false 2 (.pur true 3 (.pur true 4 (.pur false 5 (.eff 6 [0] (.eff 7 [] (.eff 8 [] .done))))))))))))))) []))) (.sq (.dr (.pur false 0 (.pur false 2 (.eff 1 [2] (.eff 3 [2] (.eff 4 [] .done)))))) .z)))) [t0, t1] Tryz.func93 (by kernel_rfl) (by kernel_rfl) h
theorem n_integer_number_over : Enters Tryz.prog 93 := enters_of Tryz.func93 (by kernel_rfl) rfl
def s_integer_number_plus (P : Program) (t0 t1 : Value) (w : World) (R : Ending → World → Prop) : Prop :=
 Bx P 111 t0 w fun t2 w =>
 Bx P 111 t1 w fun t3 w =>
 Ld P 111 t2 w fun t5 w =>
 Bt P .len #[111] 3 #[t5] w fun t6 w =>
 Ld P 111 t3 w fun t7 w =>
 Bt P .len #[111] 3 #[t7] w fun t8 w =>
 Bt P .max #[3, 3] 3 #[t6, t8] w fun t9 w =>
 Cl P 124 #[t9, (.int .i64 0), (.func (.func 125) #[] #[t2, t3])] w (Pk R) fun t11 w =>
 Cl P 120 #[t11] w (Pk R) fun t12 w =>
 R (.returned t12) w
theorem e_integer_number_plus (h : s_integer_number_plus Tryz.prog t0 t1 w R) : Calls Tryz.prog 94 #[t0, t1] w R :=
 en1 (.sq .z (.sq .z .z)) [t0, t1] Tryz.func94 (by kernel_rfl) (by kernel_rfl) h
theorem n_integer_number_plus : Enters Tryz.prog 94 := enters_of Tryz.func94 (by kernel_rfl) rfl
def s_integer_one (P : Program) (w : World) (R : Ending → World → Prop) : Prop :=
 Bs P 111 1 [(0, (.int .i64 1))] w fun t1 w =>
 R (.returned t1) w
theorem e_integer_one (h : s_integer_one Tryz.prog  w R) : Calls Tryz.prog 95 #[] w R :=
 en1 (.sq .z (.sq .z .z)) [] Tryz.func95 (by kernel_rfl) (by kernel_rfl) h
theorem n_integer_one : Enters Tryz.prog 95 := enters_of Tryz.func95 (by kernel_rfl) rfl
def s_integer_number_minus (P : Program) (t0 t1 : Value) (w : World) (R : Ending → World → Prop) : Prop :=
 Bx P 111 t0 w fun t2 w =>
 Bx P 111 t1 w fun t3 w =>
 Ld P 111 t2 w fun t5 w =>
 Bt P .len #[111] 3 #[t5] w fun t6 w =>
 Cl P 124 #[t6, (.int .i64 0), (.func (.func 127) #[] #[t2, t3])] w (Pk R) fun t8 w =>
 Cl P 120 #[t8] w (Pk R) fun t9 w =>
 R (.returned t9) w
theorem e_integer_number_minus (h : s_integer_number_minus Tryz.prog t0 t1 w R) : Calls Tryz.prog 96 #[t0, t1] w R :=
 en1 (.sq .z (.sq .z .z)) [t0, t1] Tryz.func96 (by kernel_rfl) (by kernel_rfl) h
theorem n_integer_number_minus : Enters Tryz.prog 96 := enters_of Tryz.func96 (by kernel_rfl) rfl
def s_integer_number_compare (P : Program) (t0 t1 : Value) (w : World) (R : Ending → World → Prop) : Prop :=
 Bx P 111 t1 w fun t3 w =>
 Al P 3 w fun t4 w =>
 Bt P .len #[111] 3 #[t0] w fun t8 w =>
 Ld P 111 t3 w fun t9 w =>
 Bt P .len #[111] 3 #[t9] w fun t10 w =>
 Bn P .neq 3 false t8 t10 w fun t11 w =>
 If t11
 (Bt P .len #[111] 3 #[t0] w fun t13 w =>
 Ld P 111 t3 w fun t14 w =>
 Bt P .len #[111] 3 #[t14] w fun t15 w =>
 Cl P 128 #[t13, t15] w (Pk R) fun t16 w =>
 Sto P 3 t4 t16 w fun w =>
 Rc P 3 t4 w fun r0 =>
 R (.returned r0) w)
 (Cl P 116 #[t0] w (Pk R) fun t18 w =>
 Rf2 P t18 w (fun t19 t20 w next lv =>
 Ld P 111 t3 w fun t22 w =>
 Ia P 111 t22 t19 w fun t24 w =>
 Ld P 3 t24 w fun t25 w =>
 Bn P .neq 3 false t20 t25 w fun t26 w =>
 If t26
 (Ld P 111 t3 w fun t28 w =>
 Ia P 111 t28 t19 w fun t30 w =>
 Ld P 3 t30 w fun t31 w =>
 Cl P 128 #[t20, t31] w (fun _ _ => False) fun t32 w =>
 Sto P 3 t4 t32 w fun w =>
 lv .ret w)
 (next w))
 (fun D1 w =>
 Sto P 3 t4 (.int .i64 0) w fun w =>
 Tk P D1 w fun w =>
 Rc P 3 t4 w fun r0 =>
 R (.returned r0) w)
 (fun D1 w =>
 Tk P D1 w fun w =>
 Rc P 3 t4 w fun r0 =>
 R (.returned r0) w) [])
theorem e_integer_number_compare (h : s_integer_number_compare Tryz.prog t0 t1 w R) : Calls Tryz.prog 97 #[t0, t1] w R :=
 en1 (.sq .z (.sq (.sq .z (.cd (.sq .z .z) .z)) (.sq (.sq .z (.bk (.rf (.bk (.sq .z (.cd (.sq .z .z) .z))) []))) (.sq .z .z)))) [t0, t1] Tryz.func97 (by kernel_rfl) (by kernel_rfl) h
theorem n_integer_number_compare : Enters Tryz.prog 97 := enters_of Tryz.func97 (by kernel_rfl) rfl
def s_integer_isValid (P : Program) (t0 : Value) (w : World) (R : Ending → World → Prop) : Prop :=
 Cl P 129 #[t0, (str [45])] w (Pk R) fun t5 w =>
 Bn P .eql 9 true t5 (str []) w fun t7 w =>
 Gd t7 false (fun k => k t5 w) w fun t9 w =>
 Gd t7 false (fun k => Bt P .len #[9] 3 #[t9] w k) w fun t10 w =>
 Gd t7 false (fun k => Bn P .gtr 3 true t10 (.int .i64 200) w k) w fun t11 w =>
 Pick t7 (.bool true) t11 w fun t12 w =>
 Gd t12 false (fun k => k t5 w) w fun t14 w =>
 Gd t12 false (fun k => Cl P 130 #[t14, (str [48, 49, 50, 51, 52, 53, 54, 55, 56, 57])] w (Pk R) k) w fun t15 w =>
 Gd t12 false (fun k => Bn P .neq 9 true t15 (str []) w k) w fun t16 w =>
 Pick t12 (.bool true) t16 w fun t17 w =>
 If t17
 (R (.returned (.bool false)) w)
 (Bn P .eql 9 true t0 (str [48]) w fun t19 w =>
 Gd t19 false (fun k => k t5 w) w fun t21 w =>
 Gd t19 false (fun k => Ix P 9 t21 (.int .i64 0) w k) w fun t22 w =>
 Gd t19 false (fun k => Bn P .neq 5 true t22 (.int .u8 48) w k) w fun t23 w =>
 Pick t19 (.bool true) t23 w fun t24 w =>
 R (.returned t24) w)
theorem e_integer_isValid (h : s_integer_isValid Tryz.prog t0 w R) : Calls Tryz.prog 98 #[t0] w R :=
 en1 (.sq .z (.sq .z (.sq (.sq .z (.cd (.sq .z .z) .z)) (.sq .z .z)))) [t0] Tryz.func98 (by kernel_rfl) (by kernel_rfl) h
theorem n_integer_isValid : Enters Tryz.prog 98 := enters_of Tryz.func98 (by kernel_rfl) rfl
def s_math_bits_OnesCount64 (P : Program) (t0 : Value) (w : World) (R : Ending → World → Prop) : Prop :=
 Bn P .shr 126 true t0 (.int .u64 1) w fun t4 w =>
 Bn P .and 126 true t4 (.int .u64 6148914691236517205) w fun t5 w =>
 Bn P .and 126 true t0 (.int .u64 6148914691236517205) w fun t7 w =>
 Bn P .add 126 false t5 t7 w fun t8 w =>
 Bn P .shr 126 true t8 (.int .u64 2) w fun t10 w =>
 Bn P .and 126 true t10 (.int .u64 3689348814741910323) w fun t11 w =>
 Bn P .and 126 true t8 (.int .u64 3689348814741910323) w fun t13 w =>
 Bn P .add 126 false t11 t13 w fun t14 w =>
 Bn P .shr 126 true t14 (.int .u64 4) w fun t16 w =>
 Bn P .add 126 false t16 t14 w fun t18 w =>
 Bn P .and 126 true t18 (.int .u64 1085102592571150095) w fun t19 w =>
 Bn P .shr 126 true t19 (.int .u64 8) w fun t22 w =>
 Bn P .add 126 false t19 t22 w fun t23 w =>
 Bn P .shr 126 true t23 (.int .u64 16) w fun t26 w =>
 Bn P .add 126 false t23 t26 w fun t27 w =>
 Bn P .shr 126 true t27 (.int .u64 32) w fun t30 w =>
 Bn P .add 126 false t27 t30 w fun t31 w =>
 Cv P 126 3 t31 w fun t33 w =>
 Bn P .and 3 true t33 (.int .i64 127) w fun t34 w =>
 R (.returned t34) w
theorem e_math_bits_OnesCount64 (h : s_math_bits_OnesCount64 Tryz.prog t0 w R) : Calls Tryz.prog 102 #[t0] w R :=
 en1 (.sq .z (.sq .z (.sq .z (.sq .z (.sq .z (.sq .z (.sq .z (.sq .z .z)))))))) [t0] Tryz.func102 (by kernel_rfl) (by kernel_rfl) h
theorem n_math_bits_OnesCount64 : Enters Tryz.prog 102 := enters_of Tryz.func102 (by kernel_rfl) rfl
def s_slices_AppendSeq_int_int (P : Program) (t0 t1 : Value) (w : World) (R : Ending → World → Prop) : Prop :=
 Bx P 22 t0 w fun t2 w =>
 Rf1 P t1 w (fun t7 w next lv =>
 Ld P 22 t2 w fun t8 w =>
 Bs P 22 1 [(0, t7)] w fun t10 w =>
 Bt P .append #[22, 22] 22 #[t8, t10] w fun t11 w =>
 Sto P 22 t2 t11 w fun w =>
 next w)
 (fun D1 w =>
 Ld P 22 t2 w fun t12 w =>
 Tk P D1 w fun w =>
 R (.returned t12) w)
 (fun D1 w =>
 Tk P D1 w fun w =>
 R (.returned (.slice none 0 0)) w) []
theorem e_slices_AppendSeq_int_int (h : s_slices_AppendSeq_int_int Tryz.prog t0 t1 w R) : Calls Tryz.prog 109 #[t0, t1] w R :=
 en1 (.sq .z (.sq (.sq .z (.bk (.rf (.bk .z) []))) (.sq .z .z))) [t0, t1] Tryz.func109 (by kernel_rfl) (by kernel_rfl) h
theorem n_slices_AppendSeq_int_int : Enters Tryz.prog 109 := enters_of Tryz.func109 (by kernel_rfl) rfl
theorem n_strconv_Itoa : Enters Tryz.prog 111 := enters_of Tryz.func111 (by kernel_rfl) rfl
def s_integer_Mul (P : Program) (t0 t1 : Value) (w : World) (R : Ending → World → Prop) : Prop :=
 Cl P 90 #[t0, t1] w (Pk R) fun t12 w =>
 Ex t12 0 w fun t13 w =>
 Ex t12 1 w fun t14 w =>
 Ex t12 2 w fun t15 w =>
 Al P 113 w fun t6 w =>
 Al P 113 w fun t7 w =>
 Sto P 113 t6 t13 w fun w =>
 Sto P 113 t7 t14 w fun w =>
 Un P .not t15 w fun t17 w =>
 If t17
 (R (.returned (.tuple #[(str []), (.int .i64 30)])) w)
 (dFl P 113 t6 0 w.drew fun t18 =>
 dL P 4 t18 w.drew fun t19 =>
 dFl P 113 t7 0 w.drew fun t20 =>
 dL P 4 t20 w.drew fun t21 =>
 Dv P true (bn .neq 4 false t19 t21) w.drew fun t22 =>
 dFl P 113 t6 1 w.drew fun t23 =>
 dL P 111 t23 w.drew fun t24 =>
 dFl P 113 t7 1 w.drew fun t25 =>
 dL P 111 t25 w.drew fun t26 =>
 Cl P 151 #[t24, t26] w.drew (Pk R) fun t27 w =>
 kLd P 4 t18 t19 w <|
 kLd P 4 t20 t21 w <|
 Dv P true (Instr.build 113 #[(0, t22), (1, t27)]) w fun t28 =>
 Cl P 92 #[t28] w (Pk R) fun t29 w =>
 ExP t29 0 fun t30 =>
 ExP t29 1 fun t31 =>
 R (.returned (.tuple #[t30, t31])) w)
theorem e_integer_Mul (h : s_integer_Mul Tryz.prog t0 t1 w R) : Calls Tryz.prog 112 #[t0, t1] w R :=
 en1 (.sq .z (.sq .z (.sq (.sq .z (.cd (.sq .z .z) .z)) (.sq (.dr (.pur true 0 (.pur false 1 (.pur true 2 (.pur false 3 (.pur true 4 (.pur true 5 (.pur false 6 (.pur true 7 (.pur false 8 (.eff 9 [1, 3] (.pur true 10 (.eff 11 [] (.pur true 12 (.pur true 13 (.pur true 14 (.pur true 15 .done))))))))))))))))) .z)))) [t0, t1] Tryz.func112 (by kernel_rfl) (by kernel_rfl) h
theorem n_integer_Mul : Enters Tryz.prog 112 := enters_of Tryz.func112 (by kernel_rfl) rfl
def s_integer_Sub (P : Program) (t0 t1 : Value) (w : World) (R : Ending → World → Prop) : Prop :=
 Cl P 90 #[t0, t1] w (Pk R) fun t12 w =>
 Ex t12 0 w fun t13 w =>
 Ex t12 1 w fun t14 w =>
 Ex t12 2 w fun t15 w =>
 Al P 113 w fun t6 w =>
 Al P 113 w fun t7 w =>
 Sto P 113 t6 t13 w fun w =>
 Sto P 113 t7 t14 w fun w =>
 Un P .not t15 w fun t17 w =>
 If t17
 (R (.returned (.tuple #[(str []), (.int .i64 30)])) w)
 (Fa P 113 t7 0 w fun t18 w =>
 Ld P 4 t18 w fun t19 w =>
 Un P .not t19 w fun t20 w =>
 Fa P 113 t7 0 w fun t21 w =>
 Sto P 4 t21 t20 w fun w =>
 Ld P 113 t6 w fun t22 w =>
 Ld P 113 t7 w fun t23 w =>
 Cl P 91 #[t22, t23] w (Pk R) fun t24 w =>
 Cl P 92 #[t24] w (Pk R) fun t25 w =>
 Ex t25 0 w fun t26 w =>
 Ex t25 1 w fun t27 w =>
 R (.returned (.tuple #[t26, t27])) w)
theorem e_integer_Sub (h : s_integer_Sub Tryz.prog t0 t1 w R) : Calls Tryz.prog 113 #[t0, t1] w R :=
 en1 (.sq .z (.sq .z (.sq (.sq .z (.cd (.sq .z .z) .z)) (.sq .z (.sq .z .z))))) [t0, t1] Tryz.func113 (by kernel_rfl) (by kernel_rfl) h
theorem n_integer_Sub : Enters Tryz.prog 113 := enters_of Tryz.func113 (by kernel_rfl) rfl
def s_rational_work_quotient (P : Program) (t0 t1 t2 : Value) (w : World) (R : Ending → World → Prop) : Prop :=
 Cl P 87 #[t0, (.func (.func 152) #[] #[]), t1, t2] w (Pk R) fun t10 w =>
 R (.returned t10) w
theorem e_rational_work_quotient (h : s_rational_work_quotient Tryz.prog t0 t1 t2 w R) : Calls Tryz.prog 114 #[t0, t1, t2] w R :=
 en1 (.sq .z (.sq .z .z)) [t0, t1, t2] Tryz.func114 (by kernel_rfl) (by kernel_rfl) h
theorem n_rational_work_quotient : Enters Tryz.prog 114 := enters_of Tryz.func114 (by kernel_rfl) rfl
def s_integer_parse (P : Program) (t0 : Value) (w : World) (R : Ending → World → Prop) : Prop :=
 Al P 113 w fun t2 w =>
 Cl P 129 #[t0, (str [45])] w (Pk R) fun t9 w =>
 Bt P .len #[9] 3 #[t9] w fun t11 w =>
 Bt P .len #[9] 3 #[t0] w fun t13 w =>
 Bn P .lss 3 false t11 t13 w fun t14 w =>
 Bd P 113 [(0, t14)] w fun t15 w =>
 Al P 113 w fun t4 w =>
 Sto P 113 t4 t15 w fun w =>
 Lp1 t9 w (fun t3 w k1 =>
 Bt P .len #[9] 3 #[t3] w fun t17 w =>
 Bn P .gtr 3 true t17 (.int .i64 0) w fun t18 w =>
 If t18
 (Bt P .len #[9] 3 #[t3] w fun t20 w =>
 Bn P .sub 3 true t20 (.int .i64 4) w fun t21 w =>
 Bt P .max #[3, 3] 3 #[(.int .i64 0), t21] w fun t22 w =>
 Sc P 9 t3 (some t22) none none w fun t26 w =>
 Cl P 153 #[t26] w (Pk R) fun t27 w =>
 Ex t27 0 w fun t28 w =>
 Ex t27 1 w fun t29 w =>
 Fa P 113 t4 1 w fun t30 w =>
 Ld P 111 t30 w fun t31 w =>
 Bs P 111 1 [(0, t28)] w fun t33 w =>
 Bt P .append #[111, 111] 111 #[t31, t33] w fun t34 w =>
 Fa P 113 t4 1 w fun t35 w =>
 Sto P 111 t35 t34 w fun w =>
 Sc P 9 t3 none (some t22) none w fun t38 w =>
 k1 t38 w)
 (Fa P 113 t4 1 w fun t39 w =>
 Ld P 111 t39 w fun t40 w =>
 Cl P 120 #[t40] w (Pk R) fun t41 w =>
 Fa P 113 t4 1 w fun t42 w =>
 Sto P 111 t42 t41 w fun w =>
 Ld P 113 t4 w fun t43 w =>
 Sto P 113 t2 t43 w fun w =>
 Rc P 113 t2 w fun r0 =>
 R (.returned r0) w))
theorem e_integer_parse (h : s_integer_parse Tryz.prog t0 w R) : Calls Tryz.prog 115 #[t0] w R :=
 en1 (.sq .z (.sq .z (.sq .z (.sq (.bk (.lp [3] [5, 6, 7, 16, 17, 18, 19, 20, 21, 22, 23, 24, 25, 26, 27, 28, 29, 30, 31, 32, 33, 34, 35, 36, 37, 38] (.sq (.sq .z (.cd .z .z)) (.bk (.sq .z (.sq .z (.sq .z .z))))))) (.sq .z (.sq .z .z)))))) [t0] Tryz.func115 (by kernel_rfl) (by kernel_rfl) h
theorem n_integer_parse : Enters Tryz.prog 115 := enters_of Tryz.func115 (by kernel_rfl) rfl
def s_slices_Backward_integer_number_int (P : Program) (t0 : Value) (w : World) (R : Ending → World → Prop) : Prop :=
 Bx P 111 t0 w fun t1 w =>
 R (.returned (.func (.func 154) #[] #[t1])) w
theorem e_slices_Backward_integer_number_int (h : s_slices_Backward_integer_number_int Tryz.prog t0 w R) : Calls Tryz.prog 116 #[t0] w R :=
 en1 (.sq .z (.sq .z .z)) [t0] Tryz.func116 (by kernel_rfl) (by kernel_rfl) h
theorem n_slices_Backward_integer_number_int : Enters Tryz.prog 116 := enters_of Tryz.func116 (by kernel_rfl) rfl
theorem n_strings_Repeat : Enters Tryz.prog 117 := enters_of Tryz.func117 (by kernel_rfl) rfl
def s_strings_Builder_WriteString (P : Program) (t0 t1 : Value) (w : World) (R : Ending → World → Prop) : Prop :=
 Cl P 159 #[t0] w (Pk R) fun t7 w =>
 Nc t0 w fun t10 w =>
 Fa P 135 t10 1 w fun t11 w =>
 Ld P 133 t11 w fun t12 w =>
 Bt P .append #[133, 9] 133 #[t12, t1] w fun t14 w =>
 Nc t0 w fun t15 w =>
 Fa P 135 t15 1 w fun t16 w =>
 Sto P 133 t16 t14 w fun w =>
 Bt P .len #[9] 3 #[t1] w fun t18 w =>
 R (.returned (.tuple #[t18, .nilIface])) w
theorem e_strings_Builder_WriteString (h : s_strings_Builder_WriteString Tryz.prog t0 t1 w R) : Calls Tryz.prog 118 #[t0, t1] w R :=
 en1 (.sq .z (.sq .z (.sq .z (.sq .z .z)))) [t0, t1] Tryz.func118 (by kernel_rfl) (by kernel_rfl) h
theorem n_strings_Builder_WriteString : Enters Tryz.prog 118 := enters_of Tryz.func118 (by kernel_rfl) rfl
theorem n_strings_Builder_String : Enters Tryz.prog 119 := enters_of Tryz.func119 (by kernel_rfl) rfl
def s_integer_number_trimmed (P : Program) (t0 : Value) (w : World) (R : Ending → World → Prop) : Prop :=
 Lp1 t0 w (fun t0x1 w k1 =>
 Bt P .len #[111] 3 #[t0x1] w fun t4 w =>
 Bn P .gtr 3 true t4 (.int .i64 0) w fun t5 w =>
 Gd t5 true (fun k => k t0x1 w) w fun t7 w =>
 Gd t5 true (fun k => k t0x1 w) w fun t8 w =>
 Gd t5 true (fun k => Bt P .len #[111] 3 #[t8] w k) w fun t9 w =>
 Gd t5 true (fun k => Bn P .sub 3 true t9 (.int .i64 1) w k) w fun t10 w =>
 Gd t5 true (fun k => Ia P 111 t7 t10 w k) w fun t11 w =>
 Gd t5 true (fun k => Ld P 3 t11 w k) w fun t12 w =>
 Gd t5 true (fun k => Bn P .eql 3 true t12 (.int .i64 0) w k) w fun t13 w =>
 Pick t5 t13 (.bool false) w fun t14 w =>
 If t14
 (Bt P .len #[111] 3 #[t0x1] w fun t17 w =>
 Bn P .sub 3 true t17 (.int .i64 1) w fun t18 w =>
 Sc P 111 t0x1 none (some t18) none w fun t19 w =>
 k1 t19 w)
 (R (.returned t0x1) w))
theorem e_integer_number_trimmed (h : s_integer_number_trimmed Tryz.prog t0 w R) : Calls Tryz.prog 120 #[t0] w R :=
 en1 (.sq .z (.sq (.bk (.lp [0] [3, 4, 5, 6, 7, 8, 9, 10, 11, 12, 13, 14, 15, 16, 17, 18, 19] (.sq (.sq .z (.cd .z .z)) (.bk .z)))) (.sq .z .z))) [t0] Tryz.func120 (by kernel_rfl) (by kernel_rfl) h
theorem n_integer_number_trimmed : Enters Tryz.prog 120 := enters_of Tryz.func120 (by kernel_rfl) rfl
def s_integer_number_by (P : Program) (t0 t1 : Value) (w : World) (R : Ending → World → Prop) : Prop :=
 Bx P 111 t0 w fun t2 w =>
 Bx P 3 t1 w fun t3 w =>
 Ld P 111 t2 w fun t5 w =>
 Bt P .len #[111] 3 #[t5] w fun t6 w =>
 Cl P 124 #[t6, (.int .i64 0), (.func (.func 160) #[] #[t2, t3])] w (Pk R) fun t8 w =>
 Cl P 120 #[t8] w (Pk R) fun t9 w =>
 R (.returned t9) w
theorem e_integer_number_by (h : s_integer_number_by Tryz.prog t0 t1 w R) : Calls Tryz.prog 121 #[t0, t1] w R :=
 en1 (.sq .z (.sq .z .z)) [t0, t1] Tryz.func121 (by kernel_rfl) (by kernel_rfl) h
theorem n_integer_number_by : Enters Tryz.prog 121 := enters_of Tryz.func121 (by kernel_rfl) rfl
def s_integer_number_over_1 (P : Program) (t0 t1 t2 : Value) (w : World) (R : Ending → World → Prop) : Prop :=
 dL P 143 t1 w.drew fun t5 =>
 Dv P true (bn .add 3 true t0 (.int .i64 1)) w.drew fun t7 =>
 dL P 111 t2 w.drew fun t9 =>
 Cw P t5 #[t7] w.drew (Pk R) fun t8 w =>
 kLd P 111 t2 t9 w <|
 Cl P 97 #[t8, t9] w (Pk R) fun t10 w =>
 Dv P true (bn .gtr 3 true t10 (.int .i64 0)) w fun t11 =>
 R (.returned t11) w
theorem e_integer_number_over_1 (h : s_integer_number_over_1 Tryz.prog t0 t1 t2 w R) : Calls Tryz.prog 122 #[t0, t1, t2] w R :=
 en1 (.sq .z (.sq (.dr (.pur false 0 (.pur true 1 (.pur true 2 (.pur false 4 (.eff 3 [4] (.eff 5 [] (.pur true 6 (.pur true 7 .done))))))))) .z)) [t0, t1, t2] Tryz.func122 (by kernel_rfl) (by kernel_rfl) h
theorem n_integer_number_over_1 : Enters Tryz.prog 122 := enters_of Tryz.func122 (by kernel_rfl) rfl
def s_sort_Search (P : Program) (t0 t1 : Value) (w : World) (R : Ending → World → Prop) : Prop :=
 Lp2 (.int .i64 0) t0 w (fun t5 t6 w k1 =>
 Bn P .lss 3 false t5 t6 w fun t11 w =>
 If t11
 (Bn P .add 3 false t5 t6 w fun t14 w =>
 Cv P 3 98 t14 w fun t15 w =>
 Bn P .shr 98 true t15 (.int .u64 1) w fun t16 w =>
 Cv P 98 3 t16 w fun t17 w =>
 Cw P t1 #[t17] w (Pk R) fun t20 w =>
 Un P .not t20 w fun t21 w =>
 If t21
 (Bn P .add 3 true t17 (.int .i64 1) w fun t23 w =>
 k1 t23 t6 w)
 (k1 t5 t17 w))
 (R (.returned t5) w))
theorem e_sort_Search (h : s_sort_Search Tryz.prog t0 t1 w R) : Calls Tryz.prog 123 #[t0, t1] w R :=
 en1 (.sq .z (.sq .z (.sq (.bk (.lp [5, 6] [7, 9, 10, 11, 12, 13, 14, 15, 16, 17, 18, 19, 20, 21, 22, 23, 24] (.sq (.sq .z (.cd .z .z)) (.bk (.sq .z (.sq .z (.cd .z .z))))))) (.sq .z .z)))) [t0, t1] Tryz.func123 (by kernel_rfl) (by kernel_rfl) h
theorem n_sort_Search : Enters Tryz.prog 123 := enters_of Tryz.func123 (by kernel_rfl) rfl
def s_integer_fold_integer_number (P : Program) (t0 t1 t2 : Value) (w : World) (R : Ending → World → Prop) : Prop :=
 Bn P .add 3 true t0 (.int .i64 1) w fun t11 w =>
 Ms P 111 (.int .i64 0) t11 w fun t12 w =>
 Lp3 t1 t12 (.int .i64 0) w (fun t1x1 t7 t8 w k1 =>
 Bn P .lss 3 false t8 t0 w fun t15 w =>
 Gd t15 false (fun k => k t1x1 w) w fun t17 w =>
 Gd t15 false (fun k => Bn P .neq 3 true t17 (.int .i64 0) w k) w fun t18 w =>
 Pick t15 (.bool true) t18 w fun t19 w =>
 If t19
 (Cw P t2 #[t8] w (Pk R) fun t24 w =>
 Bn P .add 3 false t24 t1x1 w fun t26 w =>
 Bn P .lss 3 true t26 (.int .i64 0) w fun t28 w =>
 If t28
 (Bn P .add 3 true t26 (.int .i64 10000) w fun t30 w =>
 Bs P 111 1 [(0, t30)] w fun t39 w =>
 Bt P .append #[111, 111] 111 #[t7, t39] w fun t40 w =>
 Bn P .add 3 true t8 (.int .i64 1) w fun t21 w =>
 k1 (.int .i64 (-1)) t40 t21 w)
 (Bn P .geq 3 true t26 (.int .i64 10000) w fun t32 w =>
 If t32
 (Bn P .quo 3 true t26 (.int .i64 10000) w fun t34 w =>
 Bn P .rem 3 true t26 (.int .i64 10000) w fun t36 w =>
 Bs P 111 1 [(0, t36)] w fun t39x1 w =>
 Bt P .append #[111, 111] 111 #[t7, t39x1] w fun t40x1 w =>
 Bn P .add 3 true t8 (.int .i64 1) w fun t21x1 w =>
 k1 t34 t40x1 t21x1 w)
 (Bs P 111 1 [(0, t26)] w fun t39x2 w =>
 Bt P .append #[111, 111] 111 #[t7, t39x2] w fun t40x2 w =>
 Bn P .add 3 true t8 (.int .i64 1) w fun t21x2 w =>
 k1 (.int .i64 0) t40x2 t21x2 w)))
 (R (.returned t7) w))
theorem e_integer_fold_integer_number (h : s_integer_fold_integer_number Tryz.prog t0 t1 t2 w R) : Calls Tryz.prog 124 #[t0, t1, t2] w R :=
 en1 (.sq .z (.sq .z (.sq (.sq .z (.bk (.lp [1, 7, 8] [9, 13, 14, 15, 16, 17, 18, 19, 20, 21, 22, 23, 24, 25, 26, 27, 28, 29, 30, 31, 32, 33, 34, 35, 36, 37, 38, 39, 40] (.sq (.sq .z (.cd .z .z)) (.sq (.bk (.sq .z (.sq .z (.sq (.sq .z (.cd (.sq .z .z) (.sq .z (.cd (.sq .z .z) .z)))) .z)))) .z))))) (.sq .z .z)))) [t0, t1, t2] Tryz.func124 (by kernel_rfl) (by kernel_rfl) h
theorem n_integer_fold_integer_number : Enters Tryz.prog 124 := enters_of Tryz.func124 (by kernel_rfl) rfl
def s_integer_number_plus_1 (P : Program) (t0 t1 t2 : Value) (w : World) (R : Ending → World → Prop) : Prop :=
 dL P 111 t1 w.drew fun t5 =>
 dL P 111 t2 w.drew fun t8 =>
 Cl P 126 #[t5, t0] w.drew (Pk R) fun t7 w =>
 kLd P 111 t2 t8 w <|
 Cl P 126 #[t8, t0] w (Pk R) fun t10 w =>
 Dv P true (bn .add 3 false t7 t10) w fun t11 =>
 R (.returned t11) w
theorem e_integer_number_plus_1 (h : s_integer_number_plus_1 Tryz.prog t0 t1 t2 w R) : Calls Tryz.prog 125 #[t0, t1, t2] w R :=
 en1 (.sq .z (.sq (.dr (.pur false 0 (.pur true 1 (.pur false 3 (.pur true 4 (.eff 2 [3] (.eff 5 [] (.pur true 6 (.pur true 7 .done))))))))) .z)) [t0, t1, t2] Tryz.func125 (by kernel_rfl) (by kernel_rfl) h
theorem n_integer_number_plus_1 : Enters Tryz.prog 125 := enters_of Tryz.func125 (by kernel_rfl) rfl
def s_integer_number_at (P : Program) (t0 t1 : Value) (w : World) (R : Ending → World → Prop) : Prop :=
 Bt P .len #[111] 3 #[t0] w fun t7 w =>
 Bn P .lss 3 false t1 t7 w fun t8 w =>
 If t8
 (Ia P 111 t0 t1 w fun t11 w =>
 Ld P 3 t11 w fun t12 w =>
 R (.returned t12) w)
 (R (.returned (.int .i64 0)) w)
theorem e_integer_number_at (h : s_integer_number_at Tryz.prog t0 t1 w R) : Calls Tryz.prog 126 #[t0, t1] w R :=
 en1 (.sq .z (.sq (.sq .z (.cd (.sq .z .z) .z)) (.sq .z .z))) [t0, t1] Tryz.func126 (by kernel_rfl) (by kernel_rfl) h
theorem n_integer_number_at : Enters Tryz.prog 126 := enters_of Tryz.func126 (by kernel_rfl) rfl
def s_integer_number_minus_1 (P : Program) (t0 t1 t2 : Value) (w : World) (R : Ending → World → Prop) : Prop :=
 dL P 111 t1 w.drew fun t5 =>
 dL P 111 t2 w.drew fun t8 =>
 Cl P 126 #[t5, t0] w.drew (Pk R) fun t7 w =>
 kLd P 111 t2 t8 w <|
 Cl P 126 #[t8, t0] w (Pk R) fun t10 w =>
 Dv P true (bn .sub 3 false t7 t10) w fun t11 =>
 R (.returned t11) w
theorem e_integer_number_minus_1 (h : s_integer_number_minus_1 Tryz.prog t0 t1 t2 w R) : Calls Tryz.prog 127 #[t0, t1, t2] w R :=
 en1 (.sq .z (.sq (.dr (.pur false 0 (.pur true 1 (.pur false 3 (.pur true 4 (.eff 2 [3] (.eff 5 [] (.pur true 6 (.pur true 7 .done))))))))) .z)) [t0, t1, t2] Tryz.func127 (by kernel_rfl) (by kernel_rfl) h
theorem n_integer_number_minus_1 : Enters Tryz.prog 127 := enters_of Tryz.func127 (by kernel_rfl) rfl
def s_cmp_Compare_int (P : Program) (t0 t1 : Value) (w : World) (R : Ending → World → Prop) : Prop :=
 Cl P 161 #[t0] w (Pk R) fun t8 w =>
 Cl P 161 #[t1] w (Pk R) fun t10 w =>
 If t8
 (If t10
 (R (.returned (.int .i64 0)) w)
 (R (.returned (.int .i64 (-1))) w))
 (If t10
 (R (.returned (.int .i64 1)) w)
 (Bn P .lss 3 false t0 t1 w fun t16 w =>
 If t16
 (R (.returned (.int .i64 (-1))) w)
 (Bn P .gtr 3 false t0 t1 w fun t19 w =>
 If t19
 (R (.returned (.int .i64 1)) w)
 (R (.returned (.int .i64 0)) w))))
theorem e_cmp_Compare_int (h : s_cmp_Compare_int Tryz.prog t0 t1 w R) : Calls Tryz.prog 128 #[t0, t1] w R :=
 en1 (.sq .z (.sq .z (.sq .z (.sq (.sq .z (.cd (.sq (.sq .z (.cd (.sq .z .z) .z)) (.sq .z .z)) .z)) (.sq (.sq .z (.cd (.sq .z .z) .z)) (.sq (.sq .z (.cd (.sq .z .z) .z)) (.sq (.sq .z (.cd (.sq .z .z) .z)) (.sq .z .z)))))))) [t0, t1] Tryz.func128 (by kernel_rfl) (by kernel_rfl) h
theorem n_cmp_Compare_int : Enters Tryz.prog 128 := enters_of Tryz.func128 (by kernel_rfl) rfl
theorem n_strings_TrimPrefix : Enters Tryz.prog 129 := enters_of Tryz.func129 (by kernel_rfl) rfl
def s_strings_Trim (P : Program) (t0 t1 : Value) (w : World) (R : Ending → World → Prop) : Prop :=
 Bn P .eql 9 true t0 (str []) w fun t8 w =>
 Gd t8 false (fun k => k t1 w) w fun t10 w =>
 Gd t8 false (fun k => Bn P .eql 9 true t10 (str []) w k) w fun t11 w =>
 Pick t8 (.bool true) t11 w fun t12 w =>
 If t12
 (R (.returned t0) w)
 (Bt P .len #[9] 3 #[t1] w fun t15 w =>
 Bn P .eql 3 true t15 (.int .i64 1) w fun t16 w =>
 Gd t16 true (fun k => k t1 w) w fun t18 w =>
 Gd t16 true (fun k => Ix P 9 t18 (.int .i64 0) w k) w fun t19 w =>
 Gd t16 true (fun k => Bn P .lss 5 true t19 (.int .u8 128) w k) w fun t20 w =>
 Pick t16 t20 (.bool false) w fun t21 w =>
 If t21
 (Dv P true (Instr.index 9 t1 (.int .i64 0)) w.drew fun t24 =>
 Dv P true (Instr.index 9 t1 (.int .i64 0)) w.drew fun t27 =>
 Cl P 164 #[t0, t24] w.drew (Pk R) fun t25 w =>
 Cl P 163 #[t25, t27] w (Pk R) fun t28 w =>
 R (.returned t28) w)
 (Cl P 165 #[t1] w (Pk R) fun t31 w =>
 Ex t31 0 w fun t32 w =>
 Ex t31 1 w fun t33 w =>
 Al P 166 w fun t5 w =>
 Sto P 166 t5 t32 w fun w =>
 If t33
 (Cl P 167 #[t0, t5] w (Pk R) fun t36 w =>
 Cl P 166 #[t36, t5] w (Pk R) fun t37 w =>
 R (.returned t37) w)
 (Cl P 169 #[t0, t1] w (Pk R) fun t40 w =>
 Cl P 168 #[t40, t1] w (Pk R) fun t42 w =>
 R (.returned t42) w)))
theorem e_strings_Trim (h : s_strings_Trim Tryz.prog t0 t1 w R) : Calls Tryz.prog 130 #[t0, t1] w R :=
 en1 (.sq .z (.sq (.sq .z (.cd (.sq .z .z) .z)) (.sq (.sq .z (.cd (.sq (.dr (.pur true 0 (.pur true 1 (.pur true 2 (.pur true 4 (.pur true 5 (.eff 3 [] (.eff 6 [] (.pur true 7 .done))))))))) .z) .z)) (.sq (.sq .z (.sq .z (.cd (.sq .z .z) .z))) (.sq .z .z))))) [t0, t1] Tryz.func130 (by kernel_rfl) (by kernel_rfl) h
theorem n_strings_Trim : Enters Tryz.prog 130 := enters_of Tryz.func130 (by kernel_rfl) rfl
def s_integer_number_times (P : Program) (t0 t1 : Value) (w : World) (R : Ending → World → Prop) : Prop :=
 Bx P 111 t0 w fun t2 w =>
 Al P 111 w fun t5 w =>
 Cl P 116 #[t1] w (Pk R) fun t9 w =>
 Rf2 P t9 w (fun t10 t11 w next lv =>
 Jn0 (fun k1 =>
 Ld P 111 t5 w fun t12 w =>
 Bt P .len #[111] 3 #[t12] w fun t13 w =>
 Bn P .gtr 3 true t13 (.int .i64 0) w fun t14 w =>
 If t14
 (Bs P 111 1 [(0, (.int .i64 0))] w fun t15 w =>
 Ld P 111 t5 w fun t16 w =>
 Bt P .append #[111, 111] 111 #[t15, t16] w fun t17 w =>
 Sto P 111 t5 t17 w fun w =>
 k1 w)
 (k1 w))
 (fun w =>
 dL P 111 t5 w.drew fun t18 =>
 dL P 111 t2 w.drew fun t19 =>
 Cl P 121 #[t19, t11] w.drew (fun _ _ => False) fun t21 w =>
 kLd P 111 t5 t18 w <|
 Cl P 94 #[t18, t21] w (fun _ _ => False) fun t22 w =>
 Sto P 111 t5 t22 w fun w =>
 next w))
 (fun D1 w =>
 Ld P 111 t5 w fun t23 w =>
 Tk P D1 w fun w =>
 R (.returned t23) w)
 (fun D1 w =>
 Tk P D1 w fun w =>
 R (.returned (.slice none 0 0)) w) []
theorem e_integer_number_times (h : s_integer_number_times Tryz.prog t0 t1 w R) : Calls Tryz.prog 151 #[t0, t1] w R :=
 en1 (.sq .z (.sq .z (.sq (.sq .z (.bk (.rf (.bk (.jn [] [12, 13, 14, 15, 16, 17] (.sq .z (.cd .z .z)) (.dr (.pur false 0 (.pur false 1 (.pur true 2 (.eff 3 [0] (.eff 4 [] (.eff 5 [] .done))))))))) []))) (.sq .z .z)))) [t0, t1] Tryz.func151 (by kernel_rfl) (by kernel_rfl) h
theorem n_integer_number_times : Enters Tryz.prog 151 := enters_of Tryz.func151 (by kernel_rfl) rfl
def s_rational_work_quotient_1 (P : Program) (t0 t1 : Value) (w : World) (R : Ending → World → Prop) : Prop :=
 Cl P 64 #[t0, t1] w (Pk R) fun t12 w =>
 Ex t12 0 w fun t13 w =>
 Ex t12 1 w fun t14 w =>
 Ex t12 2 w fun t15 w =>
 R (.returned (.tuple #[t13, t15])) w
theorem e_rational_work_quotient_1 (h : s_rational_work_quotient_1 Tryz.prog t0 t1 w R) : Calls Tryz.prog 152 #[t0, t1] w R :=
 en1 (.sq .z (.sq .z (.sq .z .z))) [t0, t1] Tryz.func152 (by kernel_rfl) (by kernel_rfl) h
theorem n_rational_work_quotient_1 : Enters Tryz.prog 152 := enters_of Tryz.func152 (by kernel_rfl) rfl
theorem n_strconv_Atoi : Enters Tryz.prog 153 := enters_of Tryz.func153 (by kernel_rfl) rfl
def s_slices_Backward_integer_number_int_1 (P : Program) (t0 t1 : Value) (w : World) (R : Ending → World → Prop) : Prop :=
 Ld P 111 t1 w fun t4 w =>
 Bt P .len #[111] 3 #[t4] w fun t5 w =>
 Bn P .sub 3 true t5 (.int .i64 1) w fun t6 w =>
 Lp1 t6 w (fun t3 w k1 =>
 Bn P .geq 3 true t3 (.int .i64 0) w fun t8 w =>
 If t8
 (Ld P 111 t1 w fun t13 w =>
 Ia P 111 t13 t3 w fun t15 w =>
 Ld P 3 t15 w fun t16 w =>
 Cw P t0 #[t3, t16] w (Pk R) fun t17 w =>
 Un P .not t17 w fun t18 w =>
 If t18
 (R (.returned (.tuple #[])) w)
 (Bn P .sub 3 true t3 (.int .i64 1) w fun t10 w =>
 k1 t10 w))
 (R (.returned (.tuple #[])) w))
theorem e_slices_Backward_integer_number_int_1 (h : s_slices_Backward_integer_number_int_1 Tryz.prog t0 t1 w R) : Calls Tryz.prog 154 #[t0, t1] w R :=
 en1 (.sq .z (.bk (.lp [3] [7, 8, 9, 10, 11, 12, 13, 14, 15, 16, 17, 18] (.sq (.sq .z (.cd .z .z)) (.sq (.bk (.sq .z (.cd .z .z))) .z))))) [t0, t1] Tryz.func154 (by kernel_rfl) (by kernel_rfl) h
theorem n_slices_Backward_integer_number_int_1 : Enters Tryz.prog 154 := enters_of Tryz.func154 (by kernel_rfl) rfl
def s_strings_Builder_copyCheck (P : Program) (t0 : Value) (w : World) (R : Ending → World → Prop) : Prop :=
 Nc t0 w fun t3 w =>
 Fa P 135 t3 0 w fun t4 w =>
 Ld P 132 t4 w fun t5 w =>
 Bn P .eql 132 true t5 (.pointer none) w fun t6 w =>
 If t6
 (Cv P 132 185 t0 w fun t9 w =>
 Cl P 187 #[t9] w (Pk R) fun t10 w =>
 Cv P 185 132 t10 w fun t11 w =>
 Nc t0 w fun t12 w =>
 Fa P 135 t12 0 w fun t13 w =>
 Sto P 132 t13 t11 w fun w =>
 R (.returned (.tuple #[])) w)
 (Nc t0 w fun t15 w =>
 Fa P 135 t15 0 w fun t16 w =>
 Ld P 132 t16 w fun t17 w =>
 Bn P .neq 132 false t17 t0 w fun t19 w =>
 If t19
 (False)
 (R (.returned (.tuple #[])) w))
theorem e_strings_Builder_copyCheck (h : s_strings_Builder_copyCheck Tryz.prog t0 w R) : Calls Tryz.prog 159 #[t0] w R :=
 en1 (.sq .z (.cd .z (.sq .z (.cd .z .z)))) [t0] Tryz.func159 (by kernel_rfl) (by kernel_rfl) h
theorem n_strings_Builder_copyCheck : Enters Tryz.prog 159 := enters_of Tryz.func159 (by kernel_rfl) rfl
def s_integer_number_by_1 (P : Program) (t0 t1 t2 : Value) (w : World) (R : Ending → World → Prop) : Prop :=
 dL P 111 t1 w.drew fun t5 =>
 dL P 3 t2 w.drew fun t8 =>
 Cl P 126 #[t5, t0] w.drew (Pk R) fun t7 w =>
 kLd P 3 t2 t8 w <|
 Dv P true (bn .mul 3 false t7 t8) w fun t9 =>
 R (.returned t9) w
theorem e_integer_number_by_1 (h : s_integer_number_by_1 Tryz.prog t0 t1 t2 w R) : Calls Tryz.prog 160 #[t0, t1, t2] w R :=
 en1 (.sq .z (.sq (.dr (.pur false 0 (.pur true 1 (.pur false 3 (.eff 2 [3] (.pur true 4 (.pur true 5 .done))))))) .z)) [t0, t1, t2] Tryz.func160 (by kernel_rfl) (by kernel_rfl) h
theorem n_integer_number_by_1 : Enters Tryz.prog 160 := enters_of Tryz.func160 (by kernel_rfl) rfl
def s_cmp_isNaN_int (P : Program) (t0 : Value) (w : World) (R : Ending → World → Prop) : Prop :=
 Bn P .neq 3 false t0 t0 w fun t5 w =>
 R (.returned t5) w
theorem e_cmp_isNaN_int (h : s_cmp_isNaN_int Tryz.prog t0 w R) : Calls Tryz.prog 161 #[t0] w R :=
 en1 (.sq .z (.sq .z .z)) [t0] Tryz.func161 (by kernel_rfl) (by kernel_rfl) h
theorem n_cmp_isNaN_int : Enters Tryz.prog 161 := enters_of Tryz.func161 (by kernel_rfl) rfl
theorem n_strings_makeASCIISet : Enters Tryz.prog 165 := enters_of Tryz.func165 (by kernel_rfl) rfl
def s_strings_trimLeftASCII (P : Program) (t0 t1 : Value) (w : World) (R : Ending → World → Prop) : Prop :=
 Lp1 t0 w (fun t0x1 w k1 =>
 Bt P .len #[9] 3 #[t0x1] w fun t6 w =>
 Bn P .gtr 3 true t6 (.int .i64 0) w fun t7 w =>
 If t7
 (Ix P 9 t0x1 (.int .i64 0) w fun t10 w =>
 Cl P 188 #[t1, t10] w (Pk R) fun t11 w =>
 Un P .not t11 w fun t12 w =>
 If t12
 (R (.returned t0x1) w)
 (Sc P 9 t0x1 (some (.int .i64 1)) none none w fun t14 w =>
 k1 t14 w))
 (R (.returned t0x1) w))
theorem e_strings_trimLeftASCII (h : s_strings_trimLeftASCII Tryz.prog t0 t1 w R) : Calls Tryz.prog 166 #[t0, t1] w R :=
 en1 (.sq .z (.sq (.bk (.lp [0] [5, 6, 7, 8, 9, 10, 11, 12, 13, 14] (.sq (.sq .z (.cd .z .z)) (.bk (.sq (.sq .z (.cd .z .z)) .z))))) (.sq .z .z))) [t0, t1] Tryz.func166 (by kernel_rfl) (by kernel_rfl) h
theorem n_strings_trimLeftASCII : Enters Tryz.prog 166 := enters_of Tryz.func166 (by kernel_rfl) rfl
def s_strings_trimRightASCII (P : Program) (t0 t1 : Value) (w : World) (R : Ending → World → Prop) : Prop :=
 Lp1 t0 w (fun t0x1 w k1 =>
 Bt P .len #[9] 3 #[t0x1] w fun t6 w =>
 Bn P .gtr 3 true t6 (.int .i64 0) w fun t7 w =>
 If t7
 (Bt P .len #[9] 3 #[t0x1] w fun t11 w =>
 Bn P .sub 3 true t11 (.int .i64 1) w fun t12 w =>
 Ix P 9 t0x1 t12 w fun t13 w =>
 Cl P 188 #[t1, t13] w (Pk R) fun t14 w =>
 Un P .not t14 w fun t15 w =>
 If t15
 (R (.returned t0x1) w)
 (Bt P .len #[9] 3 #[t0x1] w fun t18 w =>
 Bn P .sub 3 true t18 (.int .i64 1) w fun t19 w =>
 Sc P 9 t0x1 none (some t19) none w fun t20 w =>
 k1 t20 w))
 (R (.returned t0x1) w))
theorem e_strings_trimRightASCII (h : s_strings_trimRightASCII Tryz.prog t0 t1 w R) : Calls Tryz.prog 167 #[t0, t1] w R :=
 en1 (.sq .z (.sq (.bk (.lp [0] [5, 6, 7, 8, 9, 10, 11, 12, 13, 14, 15, 16, 17, 18, 19, 20] (.sq (.sq .z (.cd .z .z)) (.bk (.sq (.sq .z (.cd .z .z)) .z))))) (.sq .z .z))) [t0, t1] Tryz.func167 (by kernel_rfl) (by kernel_rfl) h
theorem n_strings_trimRightASCII : Enters Tryz.prog 167 := enters_of Tryz.func167 (by kernel_rfl) rfl
theorem n_strings_asciiSet_contains : Enters Tryz.prog 188 := enters_of Tryz.func188 (by kernel_rfl) rfl
end Go.Proofs.YthjhkpefammjkaaGreatDoor
