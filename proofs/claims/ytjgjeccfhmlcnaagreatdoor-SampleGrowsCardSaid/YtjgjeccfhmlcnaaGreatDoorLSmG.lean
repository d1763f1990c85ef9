/-
  Contracts and plain lemmas. By an AI agent.
-/
import Derived.Test.YtjgjeccfhmlcnaaGreatDoorEng
import Derived.Test.YtjgjeccfhmlcnaaGreatDoorProg
set_option linter.unusedSimpArgs false
set_option linter.unusedVariables false
set_option linter.unusedSectionVars false
namespace Go.Proofs.YtjgjeccfhmlcnaaGreatDoor
open Go Go.Eng Go.Shelf
set_option maxRecDepth 100000
variable {t0 t1 t2 t3 : Value} {w : World} {R : Ending → World → Prop}
def s_law15_SampleGrows (P : Program) (t0 t1 t2 t3 : Value) (w : World) (R : Ending → World → Prop) : Prop :=
 Cl P 8 #[] w (Pk R) fun t28 w =>
 Cl P 9 #[t0, t1] w (Pk R) fun t32 w =>
 Ex t32 0 w fun t33 w =>
 Ex t32 1 w fun t34 w =>
 Ex t32 2 w fun t35 w =>
 Cl P 10 #[t3, (.int .i64 50)] w (Pk R) fun t37 w =>
 Bn P .add 3 true (.int .i64 1) t37 w fun t38 w =>
 Lp3 (.slice none 0 0) (.int .i64 0) (.int .i64 0) w (fun t14 t15 t16 w k1 =>
 Bt P .len #[24] 3 #[t33] w fun t41 w =>
 Bn P .lss 3 false t16 t41 w fun t42 w =>
 If t42
 (Ia P 24 t34 t16 w fun t48 w =>
 Ld P 3 t48 w fun t49 w =>
 Bn P .mul 3 false t49 t38 w fun t51 w =>
 Bs P 24 1 [(0, t51)] w fun t52 w =>
 Bt P .append #[24, 24] 24 #[t14, t52] w fun t53 w =>
 Ia P 24 t33 t16 w fun t57 w =>
 Ld P 3 t57 w fun t58 w =>
 Bn P .add 3 false t15 t58 w fun t59 w =>
 Bn P .add 3 true t16 (.int .i64 1) w fun t44 w =>
 k1 t53 t59 t44 w)
 (Cl P 11 #[t35, t33, t34] w (Pk R) fun t64 w =>
 Ex t64 0 w fun t65 w =>
 Ex t64 1 w fun t66 w =>
 Cl P 10 #[t2, (.int .i64 100)] w (Pk R) fun t70 w =>
 Bn P .add 3 false t35 t70 w fun t71 w =>
 Cl P 11 #[t71, t33, t34] w (Pk R) fun t74 w =>
 Ex t74 0 w fun t75 w =>
 Ex t74 1 w fun t76 w =>
 Cl P 11 #[t35, t33, t14] w (Pk R) fun t81 w =>
 Ex t81 0 w fun t82 w =>
 Ex t81 1 w fun t83 w =>
 Cl P 11 #[t15, t33, t34] w (Pk R) fun t88 w =>
 Ex t88 0 w fun t89 w =>
 Ex t88 1 w fun t90 w =>
 Bn P .neq 28 false t66 t83 w fun t93 w =>
 Gd t93 false (fun k => k t66 w) w fun t95 w =>
 Gd t93 false (fun k => Bn P .neq 28 true t95 (.int .i64 0) w k) w fun t96 w =>
 Gd t93 false (fun k => k t96 w) w fun t97 w =>
 Gd t97 true (fun k => k t66 w) w fun t98 w =>
 Gd t97 true (fun k => Bn P .neq 28 true t98 (.int .i64 150) w k) w fun t99 w =>
 Gd t93 false (fun k => Pick t97 t99 (.bool false) w k) w fun t100 w =>
 Pick t93 (.bool true) t100 w fun t101 w =>
 Gd t101 false (fun k => k t90 w) w fun t103 w =>
 Gd t101 false (fun k => Bn P .neq 28 true t103 (.int .i64 0) w k) w fun t104 w =>
 Pick t101 (.bool true) t104 w fun t105 w =>
 Gd t105 false (fun k => k t89 w) w fun t107 w =>
 Gd t105 false (fun k => Bt P .len #[24] 3 #[t107] w k) w fun t108 w =>
 Gd t105 false (fun k => k t33 w) w fun t109 w =>
 Gd t105 false (fun k => Bt P .len #[24] 3 #[t109] w k) w fun t110 w =>
 Gd t105 false (fun k => Bn P .neq 3 false t108 t110 w k) w fun t111 w =>
 Pick t105 (.bool true) t111 w fun t112 w =>
 Gd t112 false (fun k => k t65 w) w fun t114 w =>
 Gd t112 false (fun k => k t82 w) w fun t115 w =>
 Gd t112 false (fun k => Cl P 12 #[t114, t115] w (Pk R) k) w fun t116 w =>
 Gd t112 false (fun k => Un P .not t116 w k) w fun t117 w =>
 Pick t112 (.bool true) t117 w fun t118 w =>
 If t118
 (R (.returned (.bool false)) w)
 (Lp1 (.int .i64 0) w (fun t25 w k2 =>
 Bt P .len #[24] 3 #[t89] w fun t121 w =>
 Bn P .lss 3 false t25 t121 w fun t122 w =>
 If t122
 (Ia P 24 t89 t25 w fun t127 w =>
 Ld P 3 t127 w fun t128 w =>
 Bn P .neq 3 true t128 (.int .i64 1) w fun t129 w =>
 If t129
 (R (.returned (.bool false)) w)
 (Bn P .add 3 true t25 (.int .i64 1) w fun t124 w =>
 k2 t124 w))
 (Bn P .neq 28 true t66 (.int .i64 0) w fun t131 w =>
 If t131
 (R (.returned t28) w)
 (Bn P .neq 28 true t76 (.int .i64 0) w fun t134 w =>
 Gd t134 false (fun k => k t65 w) w fun t136 w =>
 Gd t134 false (fun k => Bt P .len #[24] 3 #[t136] w k) w fun t137 w =>
 Gd t134 false (fun k => k t33 w) w fun t138 w =>
 Gd t134 false (fun k => Bt P .len #[24] 3 #[t138] w k) w fun t139 w =>
 Gd t134 false (fun k => Bn P .neq 3 false t137 t139 w k) w fun t140 w =>
 Pick t134 (.bool true) t140 w fun t141 w =>
 Gd t141 false (fun k => k t75 w) w fun t143 w =>
 Gd t141 false (fun k => Bt P .len #[24] 3 #[t143] w k) w fun t144 w =>
 Gd t141 false (fun k => k t33 w) w fun t145 w =>
 Gd t141 false (fun k => Bt P .len #[24] 3 #[t145] w k) w fun t146 w =>
 Gd t141 false (fun k => Bn P .neq 3 false t144 t146 w k) w fun t147 w =>
 Pick t141 (.bool true) t147 w fun t148 w =>
 If t148
 (R (.returned (.bool false)) w)
 (Lp1 (.int .i64 0) w (fun t26 w k3 =>
 Bt P .len #[24] 3 #[t65] w fun t151 w =>
 Bn P .lss 3 false t26 t151 w fun t152 w =>
 If t152
 (Lp1 (.int .i64 0) w (fun t27 w k4 =>
 Bt P .len #[24] 3 #[t65] w fun t157 w =>
 Bn P .lss 3 false t27 t157 w fun t158 w =>
 If t158
 (dIx P 24 t34 t26 w.drew fun t163 =>
 dL P 3 t163 w.drew fun t164 =>
 dIx P 24 t34 t27 w.drew fun t167 =>
 dL P 3 t167 w.drew fun t168 =>
 Dv P true (bn .geq 3 false t164 t168) w.drew fun t169 =>
 GdP t169 true (fun k => k t65) fun t171 =>
 GdP t169 true (fun k => k t26) fun t172 =>
 GdP t169 true (fun k => dIx P 24 t171 t172 w.drew k) fun t173 =>
 GdP t169 true (fun k => dL P 3 t173 w.drew k) fun t174 =>
 GdP t169 true (fun k => k t65) fun t175 =>
 GdP t169 true (fun k => k t27) fun t176 =>
 GdP t169 true (fun k => dIx P 24 t175 t176 w.drew k) fun t177 =>
 GdP t169 true (fun k => dL P 3 t177 w.drew k) fun t178 =>
 GdP t169 true (fun k => Dv P true (bn .gtr 3 false t174 t178) w.drew k) fun t179 =>
 PickP t169 t179 (.bool false) fun t180 =>
 If t180
 (R (.returned (.bool false)) w.drew)
 (Bn P .add 3 true t27 (.int .i64 1) w.drew fun t160 w =>
 k4 t160 w))
 (dIx P 24 t75 t26 w.drew fun t183 =>
 dL P 3 t183 w.drew fun t184 =>
 dIx P 24 t65 t26 w.drew fun t187 =>
 dL P 3 t187 w.drew fun t188 =>
 Dv P true (bn .gtr 3 false t184 t188) w.drew fun t189 =>
 If t189
 (R (.returned (.bool false)) w.drew)
 (Bn P .add 3 true t26 (.int .i64 1) w.drew fun t154 w =>
 k3 t154 w))))
 (R (.returned t28) w)))))))))
theorem e_law15_SampleGrows (h : s_law15_SampleGrows Tryz.prog t0 t1 t2 t3 w R) : Calls Tryz.prog 3 #[t0, t1, t2, t3] w R :=
 en1 (.sq .z (.sq .z (.sq .z (.sq .z (.sq .z (.sq .z (.sq (.sq .z (.bk (.lp [14, 15, 16] [39, 40, 41, 42, 43, 44, 45, 46, 47, 48, 49, 50, 51, 52, 53, 54, 55, 56, 57, 58, 59] (.sq (.sq .z (.cd .z .z)) (.sq (.bk (.sq .z .z)) .z))))) (.sq .z (.sq .z (.sq .z (.sq .z (.sq (.sq .z (.cd (.sq .z .z) .z)) (.sq (.sq .z (.bk (.lp [25] [8, 119, 120, 121, 122, 123, 124, 125, 126, 127, 128, 129] (.sq (.sq .z (.cd .z .z)) (.sq (.bk (.sq .z (.cd (.sq .z .z) .z))) .z))))) (.sq (.sq .z (.cd (.sq .z .z) .z)) (.sq (.sq .z (.cd (.sq .z .z) .z)) (.sq (.sq .z (.bk (.lp [26] [8, 27, 149, 150, 151, 152, 153, 154, 155, 156, 157, 158, 159, 160, 161, 162, 163, 164, 165, 166, 167, 168, 169, 170, 171, 172, 173, 174, 175, 176, 177, 178, 179, 180, 181, 182, 183, 184, 185, 186, 187, 188, 189] (.sq (.sq .z (.cd .z .z)) (.sq (.bk (.sq (.sq .z (.bk (.lp [27] [8, 155, 156, 157, 158, 159, 160, 161, 162, 163, 164, 165, 166, 167, 168, 169, 170, 171, 172, 173, 174, 175, 176, 177, 178, 179, 180] (.sq (.sq .z (.cd .z .z)) (.sq (.bk (.sq (.dr (.pur true 0 (.pur true 1 (.pur true 2 (.pur false 3 (.pur true 4 (.pur true 5 (.pur true 6 (.pur false 7 (.pur true 8 (.pur true 9 (.pur true 10 (.pur true 11 (.pur true 12 (.pur false 13 (.pur true 14 (.pur true 15 (.pur true 16 (.pur false 17 (.pur true 18 (.pur true 19 .done))))))))))))))))))))) (.cd (.sq .z .z) .z))) .z))))) (.sq (.dr (.pur true 0 (.pur true 1 (.pur true 2 (.pur false 3 (.pur true 4 (.pur true 5 (.pur true 6 (.pur false 7 (.pur true 8 .done)))))))))) (.cd (.sq .z .z) .z)))) .z))))) (.sq .z .z))))))))))))))))) [t0, t1, t2, t3] Tryz.func3 (by kernel_rfl) (by kernel_rfl) h
end Go.Proofs.YtjgjeccfhmlcnaaGreatDoor
