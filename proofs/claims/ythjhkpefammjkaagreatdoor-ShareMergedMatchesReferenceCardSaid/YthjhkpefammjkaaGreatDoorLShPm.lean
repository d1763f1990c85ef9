/-
  Contracts and plain lemmas. By an AI agent.
-/
import Derived.Test.YthjhkpefammjkaaGreatDoorEng
import Derived.Test.YthjhkpefammjkaaGreatDoorProg
set_option linter.unusedSimpArgs false
set_option linter.unusedVariables false
set_option linter.unusedSectionVars false
namespace Go.Proofs.YthjhkpefammjkaaGreatDoor
open Go Go.Eng Go.Shelf
set_option maxRecDepth 100000
variable {t0 t1 t2 t3 t4 t5 : Value} {w : World} {R : Ending → World → Prop}
def s_law25_ShareMonotone (P : Program) (t0 t1 t2 t3 t4 t5 : Value) (w : World) (R : Ending → World → Prop) : Prop :=
 Cl P 11 #[] w (Pk R) fun t28 w =>
 Un P .not t28 w fun t29 w =>
 If t29
 (R (.returned (.bool false)) w)
 (Cl P 12 #[t0, t1, t2] w (Pk R) fun t33 w =>
 Cl P 13 #[t33] w (Pk R) fun t36 w =>
 Ex t36 0 w fun t37 w =>
 Ex t36 1 w fun t38 w =>
 Bn P .neq 27 true t38 (.int .i64 0) w fun t40 w =>
 If t40
 (R (.returned (.bool false)) w)
 (Bt P .len #[26] 3 #[t37] w fun t42 w =>
 Bn P .eql 3 true t42 (.int .i64 0) w fun t43 w =>
 If t43
 (R (.returned (.bool true)) w)
 (Bt P .len #[26] 3 #[t37] w fun t46 w =>
 Cl P 23 #[t3, t46] w (Pk R) fun t47 w =>
 Bs P 22 0 [] w fun t48 w =>
 Bt P .append #[22, 22] 22 #[t48, t33] w fun t50 w =>
 Bt P .len #[22] 3 #[t33] w fun t52 w =>
 Ms P 22 t52 t52 w fun t53 w =>
 Bt P .len #[26] 3 #[t37] w fun t56 w =>
 Cl P 23 #[t5, t56] w (Pk R) fun t57 w =>
 Lp1 (.int .i64 0) w (fun t20 w k1 =>
 Bt P .len #[22] 3 #[t33] w fun t60 w =>
 Bn P .lss 3 false t20 t60 w fun t61 w =>
 If t61
 (Jn0 (fun k2 =>
 Bn P .shr 3 false t20 t47 w fun t66 w =>
 Bn P .rem 3 true t66 (.int .i64 2) w fun t67 w =>
 Bn P .eql 3 true t67 (.int .i64 1) w fun t68 w =>
 Gd t68 true (fun k => k t4 w) w fun t70 w =>
 Gd t68 true (fun k => Bt P .len #[22] 3 #[t70] w k) w fun t71 w =>
 Gd t68 true (fun k => Bn P .gtr 3 true t71 (.int .i64 0) w k) w fun t72 w =>
 Pick t68 t72 (.bool false) w fun t73 w =>
 If t73
 (dIx P 22 t50 t20 w.drew fun t78 =>
 dL P 3 t78 w.drew fun t79 =>
 Dv P true (bV .len #[22] 3 #[t4]) w.drew fun t83 =>
 Dv P true (bn .rem 3 false t20 t83) w.drew fun t84 =>
 dIx P 22 t4 t84 w.drew fun t85 =>
 dL P 3 t85 w.drew fun t86 =>
 Cl P 23 #[t86, (.int .i64 9)] w.drew (Pk R) fun t87 w =>
 kLd P 3 t78 t79 w <|
 Dv P true (bn .add 3 false t79 t87) w fun t88 =>
 dIx P 22 t50 t20 w fun t89 =>
 Sto P 3 t89 t88 w fun w =>
 k2 w)
 (k2 w))
 (fun w =>
 Lp2 (.int .i64 0) (.int .i64 0) w (fun t21 t22 w k3 =>
 Bt P .len #[26] 3 #[t37] w fun t92 w =>
 Bn P .lss 3 false t22 t92 w fun t93 w =>
 If t93
 (Bn P .shr 3 false t20 t22 w fun t98 w =>
 Bn P .rem 3 true t98 (.int .i64 2) w fun t99 w =>
 Bn P .eql 3 true t99 (.int .i64 1) w fun t100 w =>
 If t100
 (Bn P .add 3 false t22 t57 w fun t104 w =>
 Bt P .len #[26] 3 #[t37] w fun t106 w =>
 Bn P .rem 3 false t104 t106 w fun t107 w =>
 Bn P .shl 3 true (.int .i64 1) t107 w fun t108 w =>
 Bn P .or 3 false t21 t108 w fun t109 w =>
 Bn P .add 3 true t22 (.int .i64 1) w fun t95 w =>
 k3 t109 t95 w)
 (Bn P .add 3 true t22 (.int .i64 1) w fun t95x1 w =>
 k3 t21 t95x1 w))
 (Ia P 22 t33 t20 w fun t114 w =>
 Ld P 3 t114 w fun t115 w =>
 Ia P 22 t53 t21 w fun t116 w =>
 Sto P 3 t116 t115 w fun w =>
 Bn P .add 3 true t20 (.int .i64 1) w fun t63 w =>
 k1 t63 w))))
 (Cl P 13 #[t50] w (Pk R) fun t119 w =>
 Ex t119 0 w fun t120 w =>
 Ex t119 1 w fun t121 w =>
 Cl P 13 #[t53] w (Pk R) fun t124 w =>
 Ex t124 0 w fun t125 w =>
 Ex t124 1 w fun t126 w =>
 Dv P true (bn .neq 27 true t121 (.int .i64 0)) w.drew fun t128 =>
 GdP t128 false (fun k => k t126) fun t130 =>
 GdP t128 false (fun k => Dv P true (bn .neq 27 true t130 (.int .i64 0)) w.drew k) fun t131 =>
 PickP t128 (.bool true) t131 fun t132 =>
 GdP t132 false (fun k => k t120) fun t134 =>
 GdP t132 false (fun k => Dv P true (bV .len #[26] 3 #[t134]) w.drew k) fun t135 =>
 GdP t132 false (fun k => k t37) fun t136 =>
 GdP t132 false (fun k => Dv P true (bV .len #[26] 3 #[t136]) w.drew k) fun t137 =>
 GdP t132 false (fun k => Dv P true (bn .neq 3 false t135 t137) w.drew k) fun t138 =>
 PickP t132 (.bool true) t138 fun t139 =>
 GdP t139 false (fun k => k t125) fun t141 =>
 GdP t139 false (fun k => Dv P true (bV .len #[26] 3 #[t141]) w.drew k) fun t142 =>
 GdP t139 false (fun k => k t37) fun t143 =>
 GdP t139 false (fun k => Dv P true (bV .len #[26] 3 #[t143]) w.drew k) fun t144 =>
 GdP t139 false (fun k => Dv P true (bn .neq 3 false t142 t144) w.drew k) fun t145 =>
 PickP t139 (.bool true) t145 fun t146 =>
 GdP t146 false (fun k => k t120) fun t148 =>
 GdP t146 false (fun k => k t47) fun t149 =>
 GdP t146 false (fun k => dIx P 26 t148 t149 w.drew k) fun t150 =>
 GdP t146 false (fun k => dL P 38 t150 w.drew k) fun t151 =>
 GdP t146 false (fun k => k t37) fun t152 =>
 GdP t146 false (fun k => k t47) fun t153 =>
 GdP t146 false (fun k => dIx P 26 t152 t153 w.drew k) fun t154 =>
 GdP t146 false (fun k => dL P 38 t154 w.drew k) fun t155 =>
 Gd t146 false (fun k => Cl P 34 #[t151, t155] w.drew (Pk R) k) w.drew fun t156 w =>
 GdP t146 false (fun k => Dv P true (bn .lss 3 true t156 (.int .i64 0)) w k) fun t157 =>
 PickP t146 (.bool true) t157 fun t158 =>
 If t158
 (R (.returned (.bool false)) w)
 (Lp1 (.int .i64 0) w (fun t27 w k4 =>
 Bt P .len #[26] 3 #[t37] w fun t161 w =>
 Bn P .lss 3 false t27 t161 w fun t162 w =>
 If t162
 (Dv P true (bn .add 3 false t27 t57) w.drew fun t168 =>
 Dv P true (bV .len #[26] 3 #[t37]) w.drew fun t170 =>
 Dv P true (bn .rem 3 false t168 t170) w.drew fun t171 =>
 dIx P 26 t125 t171 w.drew fun t172 =>
 dL P 38 t172 w.drew fun t173 =>
 dIx P 26 t37 t27 w.drew fun t176 =>
 dL P 38 t176 w.drew fun t177 =>
 Dv P false (bn .neq 38 false t173 t177) w.drew fun t178 =>
 If t178
 (R (.returned (.bool false)) w.drew)
 (Bn P .add 3 true t27 (.int .i64 1) w.drew fun t164 w =>
 k4 t164 w))
 (R (.returned (.bool true)) w))))))))
theorem e_law25_ShareMonotone (h : s_law25_ShareMonotone Tryz.prog t0 t1 t2 t3 t4 t5 w R) : Calls Tryz.prog 10 #[t0, t1, t2, t3, t4, t5] w R :=
 en1 (.sq .z (.sq (.sq .z (.cd (.sq .z .z) .z)) (.sq .z (.sq .z (.sq (.sq .z (.cd (.sq .z .z) .z)) (.sq (.sq .z (.cd (.sq .z .z) .z)) (.sq .z (.sq .z (.sq .z (.sq .z (.sq (.sq .z (.bk (.lp [20] [21, 22, 58, 59, 60, 61, 62, 63, 64, 65, 66, 67, 68, 69, 70, 71, 72, 73, 74, 75, 76, 77, 78, 79, 80, 81, 82, 83, 84, 85, 86, 87, 88, 89, 90, 91, 92, 93, 94, 95, 96, 97, 98, 99, 100, 101, 102, 103, 104, 105, 106, 107, 108, 109, 110, 111, 112, 113, 114, 115, 116] (.sq (.sq .z (.cd .z .z)) (.sq (.bk (.jn [] [64, 65, 66, 67, 68, 69, 70, 71, 72, 73, 74, 75, 76, 77, 78, 79, 80, 81, 82, 83, 84, 85, 86, 87, 88, 89] (.sq .z (.cd (.dr (.pur true 0 (.pur true 1 (.pur true 2 (.pur true 3 (.pur true 4 (.pur false 5 (.pur true 6 (.pur true 7 (.pur true 8 (.pur true 9 (.pur true 10 (.pur true 11 (.pur false 12 (.eff 13 [5] (.pur true 14 (.pur true 15 (.eff 16 [] .done)))))))))))))))))) .z)) (.sq .z (.sq (.sq .z (.bk (.lp [21, 22] [90, 91, 92, 93, 94, 95, 96, 97, 98, 99, 100, 101, 102, 103, 104, 105, 106, 107, 108, 109] (.sq (.sq .z (.cd .z .z)) (.sq (.bk (.sq .z (.cd .z .z))) .z))))) .z)))) .z))))) (.sq .z (.sq .z (.sq (.sq (.dr (.pur true 0 (.pur true 1 (.pur true 2 (.pur true 3 (.pur true 4 (.pur true 5 (.pur true 6 (.pur true 7 (.pur true 8 (.pur true 9 (.pur true 10 (.pur true 11 (.pur true 12 (.pur true 13 (.pur true 14 (.pur true 15 (.pur true 16 (.pur true 17 (.pur true 18 (.pur true 19 (.pur true 20 (.pur true 21 (.pur true 22 (.pur true 23 (.pur false 24 (.pur true 25 (.pur true 26 (.pur true 27 (.pur false 28 (.eff 29 [] (.pur true 30 (.pur true 31 .done))))))))))))))))))))))))))))))))) (.cd (.sq .z .z) .z)) (.sq (.sq .z (.bk (.lp [27] [12, 159, 160, 161, 162, 163, 164, 165, 166, 167, 168, 169, 170, 171, 172, 173, 174, 175, 176, 177, 178] (.sq (.sq .z (.cd .z .z)) (.sq (.bk (.sq (.dr (.pur true 0 (.pur true 1 (.pur true 2 (.pur true 3 (.pur true 4 (.pur true 5 (.pur true 6 (.pur true 7 (.pur false 8 (.pur true 9 (.pur true 10 (.pur true 11 (.pur false 12 (.pur false 13 .done))))))))))))))) (.cd (.sq .z .z) .z))) .z))))) (.sq .z .z)))))))))))))))) [t0, t1, t2, t3, t4, t5] Tryz.func10 (by kernel_rfl) (by kernel_rfl) h
end Go.Proofs.YthjhkpefammjkaaGreatDoor
