/-
  Contracts and plain lemmas. By an AI agent.
-/
import Derived.Test.YthjhkpefammjkaaGreatDoorEng
import Derived.Test.YthjhkpefammjkaaGreatDoorProg
set_option linter.unusedSimpArgs false
set_option linter.unusedVariables false
set_option linter.unusedSectionVars false
namespace Go.Proofs.YthjhkpefammjkaaGreatDoor
open Go Go.Eng Go.Shelf
set_option maxRecDepth 100000
variable {t0 t1 t2 t3 : Value} {w : World} {R : Ending → World → Prop}
def s_law25_ShareMerged (P : Program) (t0 t1 t2 t3 : Value) (w : World) (R : Ending → World → Prop) : Prop :=
 Bx P 44 t3 w fun t7 w =>
 Cl P 11 #[] w (Pk R) fun t31 w =>
 Un P .not t31 w fun t32 w =>
 If t32
 (R (.returned (.bool false)) w)
 (Cl P 12 #[t0, t1, t2] w (Pk R) fun t36 w =>
 Cl P 13 #[t36] w (Pk R) fun t39 w =>
 Ex t39 0 w fun t40 w =>
 Ex t39 1 w fun t41 w =>
 Cl P 15 #[t36] w (Pk R) fun t44 w =>
 Ex t44 0 w fun t45 w =>
 Ex t44 1 w fun t46 w =>
 Cl P 17 #[t36] w (Pk R) fun t49 w =>
 Ex t49 0 w fun t50 w =>
 Ex t49 1 w fun t51 w =>
 Ex t49 2 w fun t52 w =>
 Cl P 27 #[t50, t51] w (Pk R) fun t56 w =>
 Ex t56 0 w fun t57 w =>
 Ex t56 1 w fun t58 w =>
 Bn P .neq 27 true t41 (.int .i64 0) w fun t60 w =>
 Gd t60 false (fun k => k t46 w) w fun t62 w =>
 Gd t60 false (fun k => Bn P .neq 27 true t62 (.int .i64 0) w k) w fun t63 w =>
 Pick t60 (.bool true) t63 w fun t64 w =>
 Gd t64 false (fun k => k t52 w) w fun t66 w =>
 Gd t64 false (fun k => Bn P .neq 27 true t66 (.int .i64 0) w k) w fun t67 w =>
 Pick t64 (.bool true) t67 w fun t68 w =>
 Gd t68 false (fun k => k t58 w) w fun t70 w =>
 Gd t68 false (fun k => Bn P .neq 27 true t70 (.int .i64 0) w k) w fun t71 w =>
 Pick t68 (.bool true) t71 w fun t72 w =>
 Gd t72 false (fun k => k t57 w) w fun t74 w =>
 Gd t72 false (fun k => Bt P .len #[26] 3 #[t74] w k) w fun t75 w =>
 Gd t72 false (fun k => k t45 w) w fun t76 w =>
 Gd t72 false (fun k => Bt P .len #[25] 3 #[t76] w k) w fun t77 w =>
 Gd t72 false (fun k => Bn P .neq 3 false t75 t77 w k) w fun t78 w =>
 Pick t72 (.bool true) t78 w fun t79 w =>
 Gd t79 false (fun k => k t50 w) w fun t81 w =>
 Gd t79 false (fun k => Bt P .len #[22] 3 #[t81] w k) w fun t82 w =>
 Gd t79 false (fun k => k t45 w) w fun t83 w =>
 Gd t79 false (fun k => Bt P .len #[25] 3 #[t83] w k) w fun t84 w =>
 Gd t79 false (fun k => Bn P .neq 3 false t82 t84 w k) w fun t85 w =>
 Pick t79 (.bool true) t85 w fun t86 w =>
 If t86
 (R (.returned (.bool false)) w)
 (Lp1 (.int .i64 0) w (fun t19 w k1 =>
 Bt P .len #[25] 3 #[t45] w fun t89 w =>
 Bn P .lss 3 false t19 t89 w fun t90 w =>
 If t90
 (Lp1 (.int .i64 0) w (fun t20 w k2 =>
 Ia P 25 t45 t19 w fun t96 w =>
 Ld P 22 t96 w fun t97 w =>
 Bt P .len #[22] 3 #[t97] w fun t98 w =>
 Bn P .lss 3 false t20 t98 w fun t99 w =>
 If t99
 (Ia P 25 t45 t19 w fun t104 w =>
 Ld P 22 t104 w fun t105 w =>
 Ia P 22 t105 t20 w fun t107 w =>
 Ld P 3 t107 w fun t108 w =>
 Dv P true (bn .lss 3 true t108 (.int .i64 0)) w.drew fun t110 =>
 GdP t110 false (fun k => k t108) fun t112 =>
 GdP t110 false (fun k => k t40) fun t113 =>
 GdP t110 false (fun k => Dv P true (bV .len #[26] 3 #[t113]) w.drew k) fun t114 =>
 GdP t110 false (fun k => Dv P true (bn .geq 3 false t112 t114) w.drew k) fun t115 =>
 PickP t110 (.bool true) t115 fun t116 =>
 GdP t116 false (fun k => k t40) fun t118 =>
 GdP t116 false (fun k => k t108) fun t119 =>
 GdP t116 false (fun k => dIx P 26 t118 t119 w.drew k) fun t120 =>
 GdP t116 false (fun k => dL P 38 t120 w.drew k) fun t121 =>
 GdP t116 false (fun k => k t57) fun t122 =>
 GdP t116 false (fun k => k t19) fun t123 =>
 GdP t116 false (fun k => dIx P 26 t122 t123 w.drew k) fun t124 =>
 GdP t116 false (fun k => dL P 38 t124 w.drew k) fun t125 =>
 GdP t116 false (fun k => Dv P false (bn .neq 38 false t121 t125) w.drew k) fun t126 =>
 PickP t116 (.bool true) t126 fun t127 =>
 GdP t127 false (fun k => k t45) fun t129 =>
 GdP t127 false (fun k => k t19) fun t130 =>
 GdP t127 false (fun k => dIx P 25 t129 t130 w.drew k) fun t131 =>
 GdP t127 false (fun k => dL P 22 t131 w.drew k) fun t132 =>
 GdP t127 false (fun k => Dv P true (bV .len #[22] 3 #[t132]) w.drew k) fun t133 =>
 GdP t127 false (fun k => k t50) fun t134 =>
 GdP t127 false (fun k => k t19) fun t135 =>
 GdP t127 false (fun k => dIx P 22 t134 t135 w.drew k) fun t136 =>
 GdP t127 false (fun k => dL P 3 t136 w.drew k) fun t137 =>
 GdP t127 false (fun k => Dv P true (bn .neq 3 false t133 t137) w.drew k) fun t138 =>
 PickP t127 (.bool true) t138 fun t139 =>
 If t139
 (R (.returned (.bool false)) w.drew)
 (Bn P .add 3 true t20 (.int .i64 1) w.drew fun t101 w =>
 k2 t101 w))
 (Bn P .add 3 true t19 (.int .i64 1) w fun t92 w =>
 k1 t92 w)))
 (Ld P 44 t7 w fun t141 w =>
 Cl P 26 #[t141, t1] w (Pk R) fun t143 w =>
 Ex t143 0 w fun t144 w =>
 Ex t143 1 w fun t145 w =>
 Cl P 27 #[t144, t145] w (Pk R) fun t149 w =>
 Ex t149 0 w fun t150 w =>
 Ex t149 1 w fun t151 w =>
 Cl P 33 #[t144, t145] w (Pk R) fun t155 w =>
 Cl P 13 #[t155] w (Pk R) fun t156 w =>
 Ex t156 0 w fun t157 w =>
 Ex t156 1 w fun t158 w =>
 Bn P .neq 27 true t151 (.int .i64 0) w fun t160 w =>
 Gd t160 false (fun k => k t158 w) w fun t162 w =>
 Gd t160 false (fun k => Bn P .neq 27 true t162 (.int .i64 0) w k) w fun t163 w =>
 Pick t160 (.bool true) t163 w fun t164 w =>
 Gd t164 false (fun k => k t150 w) w fun t166 w =>
 Gd t164 false (fun k => Bt P .len #[26] 3 #[t166] w k) w fun t167 w =>
 Gd t164 false (fun k => k t144 w) w fun t168 w =>
 Gd t164 false (fun k => Bt P .len #[22] 3 #[t168] w k) w fun t169 w =>
 Gd t164 false (fun k => Bn P .neq 3 false t167 t169 w k) w fun t170 w =>
 Pick t164 (.bool true) t170 w fun t171 w =>
 If t171
 (R (.returned (.bool false)) w)
 (Lp2 (.int .i64 0) (.int .i64 0) w (fun t28 t29 w k3 =>
 Bt P .len #[22] 3 #[t144] w fun t174 w =>
 Bn P .lss 3 false t29 t174 w fun t175 w =>
 If t175
 (Lp2 t28 (.int .i64 0) w (fun t28x1 t30 w k4 =>
 Ia P 22 t144 t29 w fun t181 w =>
 Ld P 3 t181 w fun t182 w =>
 Bn P .lss 3 false t30 t182 w fun t183 w =>
 If t183
 (Dv P true (bV .len #[26] 3 #[t157]) w.drew fun t188 =>
 Dv P true (bn .geq 3 false t28x1 t188) w.drew fun t189 =>
 GdP t189 false (fun k => k t157) fun t191 =>
 GdP t189 false (fun k => k t28x1) fun t192 =>
 GdP t189 false (fun k => dIx P 26 t191 t192 w.drew k) fun t193 =>
 GdP t189 false (fun k => dL P 38 t193 w.drew k) fun t194 =>
 GdP t189 false (fun k => k t150) fun t195 =>
 GdP t189 false (fun k => k t29) fun t196 =>
 GdP t189 false (fun k => dIx P 26 t195 t196 w.drew k) fun t197 =>
 GdP t189 false (fun k => dL P 38 t197 w.drew k) fun t198 =>
 GdP t189 false (fun k => Dv P false (bn .neq 38 false t194 t198) w.drew k) fun t199 =>
 PickP t189 (.bool true) t199 fun t200 =>
 If t200
 (R (.returned (.bool false)) w.drew)
 (Bn P .add 3 true t28x1 (.int .i64 1) w.drew fun t202 w =>
 Bn P .add 3 true t30 (.int .i64 1) w fun t185 w =>
 k4 t202 t185 w))
 (Bn P .add 3 true t29 (.int .i64 1) w fun t177 w =>
 k3 t28x1 t177 w)))
 (Bt P .len #[26] 3 #[t157] w fun t205 w =>
 Bn P .eql 3 false t28 t205 w fun t206 w =>
 R (.returned t206) w)))))))
theorem e_law25_ShareMerged (h : s_law25_ShareMerged Tryz.prog t0 t1 t2 t3 w R) : Calls Tryz.prog 9 #[t0, t1, t2, t3] w R :=
 en1 (.sq .z (.sq (.sq .z (.cd (.sq .z .z) .z)) (.sq .z (.sq .z (.sq .z (.sq .z (.sq .z (.sq (.sq .z (.cd (.sq .z .z) .z)) (.sq (.sq .z (.bk (.lp [19] [8, 20, 21, 87, 88, 89, 90, 91, 92, 93, 94, 95, 96, 97, 98, 99, 100, 101, 102, 103, 104, 105, 106, 107, 108, 109, 110, 111, 112, 113, 114, 115, 116, 117, 118, 119, 120, 121, 122, 123, 124, 125, 126, 127, 128, 129, 130, 131, 132, 133, 134, 135, 136, 137, 138, 139] (.sq (.sq .z (.cd .z .z)) (.sq (.bk (.sq .z (.bk (.lp [20] [8, 21, 93, 94, 95, 96, 97, 98, 99, 100, 101, 102, 103, 104, 105, 106, 107, 108, 109, 110, 111, 112, 113, 114, 115, 116, 117, 118, 119, 120, 121, 122, 123, 124, 125, 126, 127, 128, 129, 130, 131, 132, 133, 134, 135, 136, 137, 138, 139] (.sq (.sq .z (.cd .z .z)) (.sq (.bk (.sq .z (.sq (.dr (.pur true 0 (.pur true 1 (.pur true 2 (.pur true 3 (.pur true 4 (.pur true 5 (.pur true 6 (.pur true 7 (.pur true 8 (.pur true 9 (.pur true 10 (.pur true 11 (.pur false 12 (.pur true 13 (.pur true 14 (.pur true 15 (.pur false 16 (.pur false 17 (.pur true 18 (.pur true 19 (.pur true 20 (.pur true 21 (.pur true 22 (.pur false 23 (.pur true 24 (.pur true 25 (.pur true 26 (.pur true 27 (.pur false 28 (.pur true 29 (.pur true 30 .done)))))))))))))))))))))))))))))))) (.cd (.sq .z .z) .z)))) .z)))))) .z))))) (.sq .z (.sq .z (.sq .z (.sq (.sq .z (.cd (.sq .z .z) .z)) (.sq .z (.sq (.sq .z (.bk (.lp [28, 29] [8, 30, 172, 173, 174, 175, 176, 177, 178, 179, 180, 181, 182, 183, 184, 185, 186, 187, 188, 189, 190, 191, 192, 193, 194, 195, 196, 197, 198, 199, 200, 201, 202] (.sq (.sq .z (.cd .z .z)) (.sq (.bk (.sq .z (.bk (.lp [28, 30] [8, 178, 179, 180, 181, 182, 183, 184, 185, 186, 187, 188, 189, 190, 191, 192, 193, 194, 195, 196, 197, 198, 199, 200, 201, 202] (.sq (.sq .z (.cd .z .z)) (.sq (.bk (.sq (.sq (.dr (.pur true 0 (.pur true 1 (.pur true 2 (.pur true 3 (.pur true 4 (.pur true 5 (.pur true 6 (.pur true 7 (.pur false 8 (.pur true 9 (.pur true 10 (.pur true 11 (.pur false 12 (.pur false 13 (.pur true 14 .done)))))))))))))))) (.cd (.sq .z .z) .z)) .z)) .z)))))) .z))))) (.sq .z .z)))))))))))))))) [t0, t1, t2, t3] Tryz.func9 (by kernel_rfl) (by kernel_rfl) h
end Go.Proofs.YthjhkpefammjkaaGreatDoor
