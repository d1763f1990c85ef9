/-
  Contracts and plain lemmas. By an AI agent.
-/
import Derived.Test.YtjgjeccfhmlcnaaGreatDoorEng
import Derived.Test.YtjgjeccfhmlcnaaGreatDoorProg
set_option linter.unusedSimpArgs false
set_option linter.unusedVariables false
set_option linter.unusedSectionVars false
namespace Go.Proofs.YtjgjeccfhmlcnaaGreatDoor
open Go Go.Eng Go.Shelf
set_option maxRecDepth 100000
variable {t0 t1 t2 t3 : Value} {w : World} {R : Ending → World → Prop}
def s_law15_SampleGroups (P : Program) (t0 t1 t2 t3 : Value) (w : World) (R : Ending → World → Prop) : Prop :=
 Cl P 8 #[] w (Pk R) fun t27 w =>
 Cl P 13 #[t0] w (Pk R) fun t29 w =>
 Cl P 10 #[t1, (.int .i64 3000)] w (Pk R) fun t31 w =>
 Cl P 14 #[t2] w (Pk R) fun t33 w =>
 Cl P 22 #[t29, t33] w (Pk R) fun t37 w =>
 Ex t37 0 w fun t38 w =>
 Ex t37 1 w fun t39 w =>
 Ex t37 2 w fun t40 w =>
 Cl P 15 #[t29, t31, t33] w (Pk R) fun t45 w =>
 Ex t45 0 w fun t46 w =>
 Ex t45 1 w fun t47 w =>
 Cl P 11 #[t31, t39, t40] w (Pk R) fun t52 w =>
 Ex t52 0 w fun t53 w =>
 Ex t52 1 w fun t54 w =>
 Bs P 34 0 [] w fun t55 w =>
 Bt P .append #[34, 34] 34 #[t55, t29] w fun t57 w =>
 Lp1 (.int .i64 1) w (fun t21 w k1 =>
 Bt P .len #[34] 3 #[t57] w fun t60 w =>
 Bn P .lss 3 false t21 t60 w fun t61 w =>
 If t61
 (dIx P 34 t57 t21 w.drew fun t66 =>
 dFl P 46 t66 0 w.drew fun t67 =>
 dL P 3 t67 w.drew fun t68 =>
 Dv P true (bn .sub 3 true t21 (.int .i64 1)) w.drew fun t71 =>
 dIx P 34 t57 t71 w.drew fun t72 =>
 dFl P 46 t72 0 w.drew fun t73 =>
 dL P 3 t73 w.drew fun t74 =>
 Dv P true (bn .eql 3 false t68 t74) w.drew fun t75 =>
 If t75
 (Dv P true (Instr.indexAt 34 t57 t21) w.drew.drew fun t78 =>
 Dv P true (Instr.fieldAt 46 t78 9) w.drew.drew fun t79 =>
 Dv P false (Instr.loadAt 3 t79) w.drew.drew fun t80 =>
 Cl P 10 #[t3, (.int .i64 50)] w.drew.drew (Pk R) fun t82 w =>
 kLd P 3 t79 t80 w <|
 Dv P true (bV .min #[3, 3] 3 #[t80, t82]) w fun t83 =>
 Ia P 34 t57 t21 w fun t88 w =>
 Fa P 46 t88 9 w fun t89 w =>
 Ld P 3 t89 w fun t90 w =>
 Bn P .sub 3 false t90 t83 w fun t92 w =>
 Ia P 34 t57 t21 w fun t93 w =>
 Fa P 46 t93 9 w fun t94 w =>
 Sto P 3 t94 t92 w fun w =>
 Bn P .sub 3 true t21 (.int .i64 1) w fun t97 w =>
 Bn P .sub 3 true t21 (.int .i64 1) w fun t100 w =>
 Ia P 34 t57 t100 w fun t101 w =>
 Fa P 46 t101 9 w fun t102 w =>
 Ld P 3 t102 w fun t103 w =>
 Bn P .add 3 false t103 t83 w fun t105 w =>
 Ia P 34 t57 t97 w fun t106 w =>
 Fa P 46 t106 9 w fun t107 w =>
 Sto P 3 t107 t105 w fun w =>
 Bn P .add 3 true t21 (.int .i64 1) w fun t63 w =>
 k1 t63 w)
 (Bn P .add 3 true t21 (.int .i64 1) w.drew fun t63x1 w =>
 k1 t63x1 w))
 (Cl P 15 #[t57, t31, t33] w (Pk R) fun t112 w =>
 Ex t112 0 w fun t113 w =>
 Ex t112 1 w fun t114 w =>
 Bn P .neq 28 false t47 t54 w fun t117 w =>
 Gd t117 false (fun k => k t47 w) w fun t119 w =>
 Gd t117 false (fun k => k t114 w) w fun t120 w =>
 Gd t117 false (fun k => Bn P .neq 28 false t119 t120 w k) w fun t121 w =>
 Pick t117 (.bool true) t121 w fun t122 w =>
 Gd t122 false (fun k => k t46 w) w fun t124 w =>
 Gd t122 false (fun k => k t113 w) w fun t125 w =>
 Gd t122 false (fun k => Cl P 12 #[t124, t125] w (Pk R) k) w fun t126 w =>
 Gd t122 false (fun k => Un P .not t126 w k) w fun t127 w =>
 Pick t122 (.bool true) t127 w fun t128 w =>
 If t128
 (R (.returned (.bool false)) w)
 (Bn P .neq 28 true t47 (.int .i64 0) w fun t130 w =>
 If t130
 (R (.returned t27) w)
 (Bt P .len #[24] 3 #[t46] w fun t133 w =>
 Bt P .len #[34] 3 #[t29] w fun t135 w =>
 Bn P .neq 3 false t133 t135 w fun t136 w =>
 Gd t136 false (fun k => k t53 w) w fun t138 w =>
 Gd t136 false (fun k => Bt P .len #[24] 3 #[t138] w k) w fun t139 w =>
 Gd t136 false (fun k => k t38 w) w fun t140 w =>
 Gd t136 false (fun k => Bt P .len #[24] 3 #[t140] w k) w fun t141 w =>
 Gd t136 false (fun k => Bn P .neq 3 false t139 t141 w k) w fun t142 w =>
 Pick t136 (.bool true) t142 w fun t143 w =>
 If t143
 (R (.returned (.bool false)) w)
 (Lp1 (.int .i64 0) w (fun t25 w k2 =>
 Bt P .len #[34] 3 #[t29] w fun t146 w =>
 Bn P .lss 3 false t25 t146 w fun t147 w =>
 If t147
 (Lp1 (.int .i64 0) w (fun t26 w k3 =>
 Bt P .len #[24] 3 #[t38] w fun t152 w =>
 Bn P .lss 3 false t26 t152 w fun t153 w =>
 If t153
 (dIx P 24 t38 t26 w.drew fun t158 =>
 dL P 3 t158 w.drew fun t159 =>
 dIx P 34 t29 t25 w.drew fun t162 =>
 dFl P 46 t162 0 w.drew fun t163 =>
 dL P 3 t163 w.drew fun t164 =>
 Dv P true (bn .eql 3 false t159 t164) w.drew fun t165 =>
 GdP t165 true (fun k => k t46) fun t167 =>
 GdP t165 true (fun k => k t25) fun t168 =>
 GdP t165 true (fun k => dIx P 24 t167 t168 w.drew k) fun t169 =>
 GdP t165 true (fun k => dL P 3 t169 w.drew k) fun t170 =>
 GdP t165 true (fun k => k t53) fun t171 =>
 GdP t165 true (fun k => k t26) fun t172 =>
 GdP t165 true (fun k => dIx P 24 t171 t172 w.drew k) fun t173 =>
 GdP t165 true (fun k => dL P 3 t173 w.drew k) fun t174 =>
 GdP t165 true (fun k => Dv P true (bn .neq 3 false t170 t174) w.drew k) fun t175 =>
 PickP t165 t175 (.bool false) fun t176 =>
 If t176
 (R (.returned (.bool false)) w.drew)
 (Bn P .add 3 true t26 (.int .i64 1) w.drew fun t155 w =>
 k3 t155 w))
 (Bn P .add 3 true t25 (.int .i64 1) w fun t149 w =>
 k2 t149 w)))
 (R (.returned t27) w)))))))
theorem e_law15_SampleGroups (h : s_law15_SampleGroups Tryz.prog t0 t1 t2 t3 w R) : Calls Tryz.prog 5 #[t0, t1, t2, t3] w R :=
 en1 (.sq .z (.sq .z (.sq .z (.sq .z (.sq .z (.sq .z (.sq .z (.sq .z (.sq .z (.sq (.sq .z (.bk (.lp [21] [22, 58, 59, 60, 61, 62, 63, 64, 65, 66, 67, 68, 69, 70, 71, 72, 73, 74, 75, 76, 77, 78, 79, 80, 81, 82, 83, 84, 85, 86, 87, 88, 89, 90, 91, 92, 93, 94, 95, 96, 97, 98, 99, 100, 101, 102, 103, 104, 105, 106, 107] (.sq (.sq .z (.cd .z .z)) (.sq (.bk (.sq (.dr (.pur true 0 (.pur true 1 (.pur true 2 (.pur true 3 (.pur false 4 (.pur true 5 (.pur true 6 (.pur true 7 (.pur true 8 (.pur true 9 (.pur false 10 (.pur true 11 .done))))))))))))) (.cd (.sq (.dr (.pur true 0 (.pur true 1 (.pur true 2 (.pur true 3 (.pur false 4 (.pur true 5 (.eff 6 [4] (.pur true 7 (.pur true 8 .done)))))))))) (.sq .z .z)) .z))) .z))))) (.sq .z (.sq (.sq .z (.cd (.sq .z .z) .z)) (.sq (.sq .z (.cd (.sq .z .z) .z)) (.sq (.sq .z (.cd (.sq .z .z) .z)) (.sq (.sq .z (.bk (.lp [25] [8, 26, 144, 145, 146, 147, 148, 149, 150, 151, 152, 153, 154, 155, 156, 157, 158, 159, 160, 161, 162, 163, 164, 165, 166, 167, 168, 169, 170, 171, 172, 173, 174, 175, 176] (.sq (.sq .z (.cd .z .z)) (.sq (.bk (.sq .z (.bk (.lp [26] [8, 150, 151, 152, 153, 154, 155, 156, 157, 158, 159, 160, 161, 162, 163, 164, 165, 166, 167, 168, 169, 170, 171, 172, 173, 174, 175, 176] (.sq (.sq .z (.cd .z .z)) (.sq (.bk (.sq (.dr (.pur true 0 (.pur true 1 (.pur true 2 (.pur false 3 (.pur true 4 (.pur true 5 (.pur true 6 (.pur true 7 (.pur false 8 (.pur true 9 (.pur true 10 (.pur true 11 (.pur true 12 (.pur true 13 (.pur false 14 (.pur true 15 (.pur true 16 (.pur true 17 (.pur false 18 (.pur true 19 (.pur true 20 .done)))))))))))))))))))))) (.cd (.sq .z .z) .z))) .z)))))) .z))))) (.sq .z .z)))))))))))))))) [t0, t1, t2, t3] Tryz.func5 (by kernel_rfl) (by kernel_rfl) h
end Go.Proofs.YtjgjeccfhmlcnaaGreatDoor
