/-
  Contracts and plain lemmas. By an AI agent.
-/
import Derived.Test.YthdhnhghjecfkaaGreatEng
import Derived.Test.YthdhnhghjecfkaaGreatProg
set_option linter.unusedSimpArgs false
set_option linter.unusedVariables false
set_option linter.unusedSectionVars false
namespace Go.Proofs.YthdhnhghjecfkaaGreat
open Go Go.Eng Go.Shelf
set_option maxRecDepth 100000
variable {t0 t1 t2 t3 : Value} {w : World} {R : Ending → World → Prop}
def s_law37_ShardMoves (P : Program) (t0 t1 t2 t3 : Value) (w : World) (R : Ending → World → Prop) : Prop :=
 Cl P 7 #[] w (Pk R) fun t35 w =>
 Un P .not t35 w fun t36 w =>
 If t36
 (R (.returned (.bool false)) w)
 (Cl P 9 #[t0, (.int .i64 3)] w (Pk R) fun t39 w =>
 Bn P .add 3 true (.int .i64 2) t39 w fun t40 w =>
 Cl P 8 #[t40] w (Pk R) fun t41 w =>
 Ex t41 0 w fun t42 w =>
 Ex t41 1 w fun t43 w =>
 Al P 30 w fun t9 w =>
 Sto P 30 t9 t42 w fun w =>
 Bn P .neq 31 true t43 (.int .i64 0) w fun t45 w =>
 Gd t45 false (fun k => Fa P 30 t9 1 w k) w fun t47 w =>
 Gd t45 false (fun k => Ld P 25 t47 w k) w fun t48 w =>
 Gd t45 false (fun k => Bt P .len #[25] 3 #[t48] w k) w fun t49 w =>
 Gd t45 false (fun k => Bn P .neq 3 true t49 (.int .i64 8) w k) w fun t50 w =>
 Pick t45 (.bool true) t50 w fun t51 w =>
 Gd t51 false (fun k => Fa P 30 t9 0 w k) w fun t53 w =>
 Gd t51 false (fun k => Ld P 24 t53 w k) w fun t54 w =>
 Gd t51 false (fun k => Bt P .len #[24] 3 #[t54] w k) w fun t55 w =>
 Gd t51 false (fun k => Bn P .lss 3 true t55 (.int .i64 2) w k) w fun t56 w =>
 Pick t51 (.bool true) t56 w fun t57 w =>
 If t57
 (R (.returned (.bool false)) w)
 (Lp1 (.int .i64 0) w (fun t11 w k1 =>
 Bt P .len #[22] 3 #[t1] w fun t60 w =>
 Bn P .lss 3 false t11 t60 w fun t61 w =>
 Gd t61 true (fun k => k t11 w) w fun t63 w =>
 Gd t61 true (fun k => Bn P .lss 3 true t63 (.int .i64 30) w k) w fun t64 w =>
 Pick t61 t64 (.bool false) w fun t65 w =>
 If t65
 (Jn2 (fun k2 =>
 dL P 30 t9 w.drew fun t69 =>
 dL P 30 t9 w.drew fun t70 =>
 dIx P 22 t1 t11 w.drew fun t73 =>
 Dv P true (Instr.indexAt 46 t73 (.int .i64 1)) w.drew fun t74 =>
 dL P 3 t74 w.drew fun t75 =>
 dIx P 22 t1 t11 w.drew fun t78 =>
 Dv P true (Instr.indexAt 46 t78 (.int .i64 2)) w.drew fun t79 =>
 dL P 3 t79 w.drew fun t80 =>
 dIx P 22 t1 t11 w.drew fun t83 =>
 Dv P true (Instr.indexAt 46 t83 (.int .i64 3)) w.drew fun t84 =>
 dL P 3 t84 w.drew fun t85 =>
 Dv P true (Instr.build 46 #[(0, (.int .i64 0)), (1, t75), (2, t80), (3, t85)]) w.drew fun t86 =>
 (Cl P 11 #[t70, t86] w.drew (Pk R) fun t87 w =>
 kLd P 30 t9 t69 w <|
 (Cl P 13 #[t69, t87] w (Pk R) fun t88 w =>
 ExP t88 0 fun t89 =>
 ExP t88 1 fun t90 =>
 ExP t88 2 fun t91 =>
 Al P 30 w fun t12 w =>
 kLd P 30 t9 t69 w <|
 kLd P 30 t9 t70 w <|
 kLd P 3 t74 t75 w <|
 kLd P 3 t79 t80 w <|
 kLd P 3 t84 t85 w <|
 Sto P 30 t12 t89 w fun w =>
 k2 t12 t91 w) ∧
 (Al P 30 w fun t12x1 w =>
 kLd P 30 t9 t69 w <|
 kLd P 30 t9 t70 w <|
 kLd P 3 t74 t75 w <|
 kLd P 3 t79 t80 w <|
 kLd P 3 t84 t85 w <|
 Cl P 13 #[t69, t87] w (Pk R) fun t88x1 w =>
 ExP t88x1 0 fun t89x1 =>
 ExP t88x1 1 fun t90x1 =>
 ExP t88x1 2 fun t91x1 =>
 Sto P 30 t12x1 t89x1 w fun w =>
 k2 t12x1 t91x1 w)) ∧
 (Al P 30 w.drew fun t12x2 w =>
 kLd P 30 t9 t69 w <|
 kLd P 30 t9 t70 w <|
 kLd P 3 t74 t75 w <|
 kLd P 3 t79 t80 w <|
 kLd P 3 t84 t85 w <|
 Cl P 11 #[t70, t86] w (Pk R) fun t87x1 w =>
 kLd P 30 t9 t69 w <|
 Cl P 13 #[t69, t87x1] w (Pk R) fun t88x2 w =>
 ExP t88x2 0 fun t89x2 =>
 ExP t88x2 1 fun t90x2 =>
 ExP t88x2 2 fun t91x2 =>
 Sto P 30 t12x2 t89x2 w fun w =>
 k2 t12x2 t91x2 w))
 (fun t12x3 t14 w =>
 Bn P .eql 31 true t14 (.int .i64 0) w fun t93 w =>
 If t93
 (Ld P 30 t12x3 w fun t94 w =>
 Sto P 30 t9 t94 w fun w =>
 Bn P .add 3 true t11 (.int .i64 1) w fun t67 w =>
 k1 t67 w)
 (Bn P .add 3 true t11 (.int .i64 1) w fun t67x1 w =>
 k1 t67x1 w)))
 (Ld P 30 t9 w fun t96 w =>
 Cl P 16 #[t96] w (Pk R) fun t97 w =>
 Ex t97 0 w fun t98 w =>
 Ex t97 1 w fun t99 w =>
 Cl P 9 #[t2, (.int .i64 8)] w (Pk R) fun t101 w =>
 Fa P 30 t9 1 w fun t102 w =>
 Ld P 25 t102 w fun t103 w =>
 Ia P 25 t103 t101 w fun t105 w =>
 Ld P 3 t105 w fun t106 w =>
 Dv P true (bn .add 3 true t106 (.int .i64 1)) w.drew fun t108 =>
 dFl P 30 t9 0 w.drew fun t110 =>
 dL P 24 t110 w.drew fun t111 =>
 Dv P true (bV .len #[24] 3 #[t111]) w.drew fun t112 =>
 Dv P true (bn .sub 3 true t112 (.int .i64 1)) w.drew fun t113 =>
 dFl P 30 t9 0 w.drew fun t116 =>
 dL P 24 t116 w.drew fun t117 =>
 Dv P true (bV .len #[24] 3 #[t117]) w.drew fun t118 =>
 Cl P 9 #[t3, t113] w.drew (Pk R) fun t114 w =>
 kLd P 24 t116 t117 w <|
 Dv P true (bn .add 3 false t108 t114) w fun t115 =>
 Dv P true (bn .rem 3 false t115 t118) w fun t119 =>
 Lp2 (.int .i64 0) (.int .i64 0) w (fun t20 t21 w k3 =>
 Bt P .len #[35] 3 #[t98] w fun t122 w =>
 Bn P .lss 3 false t21 t122 w fun t123 w =>
 If t123
 (Ia P 35 t98 t21 w fun t128 w =>
 Fa P 42 t128 0 w fun t129 w =>
 Ld P 3 t129 w fun t130 w =>
 Cl P 17 #[t130] w (Pk R) fun t131 w =>
 Bn P .eql 3 false t131 t101 w fun t133 w =>
 If t133
 (Bn P .add 3 true t20 (.int .i64 1) w fun t135 w =>
 Bn P .add 3 true t21 (.int .i64 1) w fun t125 w =>
 k3 t135 t125 w)
 (Bn P .add 3 true t21 (.int .i64 1) w fun t125x1 w =>
 k3 t20 t125x1 w))
 (Bd P 44 [(0, (.int .i64 2)), (2, t101), (3, t119)] w fun t138 w =>
 Bs P 59 1 [(0, t138)] w fun t139 w =>
 Lp2 t139 (.int .i64 0) w (fun t22 t23 w k4 =>
 Bn P .lss 3 false t23 t20 w fun t142 w =>
 If t142
 (Bd P 44 [(0, (.int .i64 3)), (4, (.int .i64 1))] w fun t146 w =>
 Bs P 59 1 [(0, t146)] w fun t147 w =>
 Bt P .append #[59, 59] 59 #[t22, t147] w fun t148 w =>
 Bn P .add 3 true t23 (.int .i64 1) w fun t144 w =>
 k4 t148 t144 w)
 (Bd P 44 [(0, (.int .i64 4))] w fun t150 w =>
 Bs P 59 1 [(0, t150)] w fun t151 w =>
 Bt P .append #[59, 59] 59 #[t22, t151] w fun t152 w =>
 Lp2 t152 (.int .i64 0) w (fun t22x1 t24 w k5 =>
 Bn P .lss 3 false t24 t20 w fun t155 w =>
 If t155
 (Bd P 44 [(0, (.int .i64 5)), (4, (.int .i64 1))] w fun t159 w =>
 Bs P 59 1 [(0, t159)] w fun t160 w =>
 Bt P .append #[59, 59] 59 #[t22x1, t160] w fun t161 w =>
 Bn P .add 3 true t24 (.int .i64 1) w fun t157 w =>
 k5 t161 t157 w)
 (Bd P 44 [(0, (.int .i64 7)), (5, (.int .i64 1))] w fun t163 w =>
 Bs P 59 1 [(0, t163)] w fun t164 w =>
 Bt P .append #[59, 59] 59 #[t22x1, t164] w fun t165 w =>
 Lp2 t165 (.int .i64 0) w (fun t22x2 t25 w k6 =>
 Fa P 30 t9 0 w fun t167 w =>
 Ld P 24 t167 w fun t168 w =>
 Bt P .len #[24] 3 #[t168] w fun t169 w =>
 Bn P .lss 3 false t25 t169 w fun t170 w =>
 If t170
 (Bd P 44 [(0, (.int .i64 8)), (5, (.int .i64 1))] w fun t174 w =>
 Bs P 59 1 [(0, t174)] w fun t175 w =>
 Bt P .append #[59, 59] 59 #[t22x2, t175] w fun t176 w =>
 Bn P .add 3 true t25 (.int .i64 1) w fun t172 w =>
 k6 t176 t172 w)
 (Lp2 (.slice none 0 0) (.int .i64 0) w (fun t26 t27 w k7 =>
 Bt P .len #[59] 3 #[t22x2] w fun t179 w =>
 Bn P .lss 3 false t27 t179 w fun t180 w =>
 If t180
 (Jn3 (fun k8 =>
 dL P 30 t9 w.drew fun t184 =>
 dIx P 59 t22x2 t27 w.drew fun t187 =>
 dL P 44 t187 w.drew fun t188 =>
 (Cl P 13 #[t184, t188] w.drew (Pk R) fun t189 w =>
 ExP t189 0 fun t190 =>
 ExP t189 1 fun t191 =>
 ExP t189 2 fun t192 =>
 Al P 30 w fun t28 w =>
 kLd P 30 t9 t184 w <|
 kLd P 44 t187 t188 w <|
 Sto P 30 t28 t190 w fun w =>
 k8 t28 t191 t192 w) ∧
 (Al P 30 w.drew fun t28x1 w =>
 kLd P 30 t9 t184 w <|
 kLd P 44 t187 t188 w <|
 Cl P 13 #[t184, t188] w (Pk R) fun t189x1 w =>
 ExP t189x1 0 fun t190x1 =>
 ExP t189x1 1 fun t191x1 =>
 ExP t189x1 2 fun t192x1 =>
 Sto P 30 t28x1 t190x1 w fun w =>
 k8 t28x1 t191x1 t192x1 w))
 (fun t28x2 t29 t30 w =>
 Bn P .neq 31 true t30 (.int .i64 0) w fun t194 w =>
 If t194
 (R (.returned (.bool false)) w)
 (Ld P 30 t28x2 w fun t195 w =>
 Sto P 30 t9 t195 w fun w =>
 Bt P .append #[35, 35] 35 #[t26, t29] w fun t198 w =>
 Bn P .add 3 true t27 (.int .i64 1) w fun t182 w =>
 k7 t198 t182 w)))
 (Lp1 (.int .i64 0) w (fun t31 w k9 =>
 Fa P 30 t9 0 w fun t200 w =>
 Ld P 24 t200 w fun t201 w =>
 Bt P .len #[24] 3 #[t201] w fun t202 w =>
 Bn P .lss 3 false t31 t202 w fun t203 w =>
 If t203
 (Lp1 (.int .i64 0) w (fun t32 w k10 =>
 Fa P 30 t9 0 w fun t207 w =>
 Ld P 24 t207 w fun t208 w =>
 Ia P 24 t208 t31 w fun t210 w =>
 Ld P 60 t210 w fun t211 w =>
 Bt P .len #[60] 3 #[t211] w fun t212 w =>
 Bn P .lss 3 false t32 t212 w fun t213 w =>
 If t213
 (Fa P 30 t9 0 w fun t216 w =>
 Ld P 24 t216 w fun t217 w =>
 Ia P 24 t217 t31 w fun t219 w =>
 Ld P 60 t219 w fun t220 w =>
 Ia P 60 t220 t32 w fun t222 w =>
 Fa P 62 t222 0 w fun t223 w =>
 Fa P 42 t223 0 w fun t224 w =>
 Ld P 3 t224 w fun t225 w =>
 Cl P 17 #[t225] w (Pk R) fun t226 w =>
 Bn P .eql 3 false t226 t101 w fun t228 w =>
 Gd t228 true (fun k => k t31 w) w fun t230 w =>
 Gd t228 true (fun k => k t119 w) w fun t231 w =>
 Gd t228 true (fun k => Bn P .neq 3 false t230 t231 w k) w fun t232 w =>
 Pick t228 t232 (.bool false) w fun t233 w =>
 If t233
 (R (.returned (.bool false)) w)
 (Bn P .add 3 true t32 (.int .i64 1) w fun t215 w =>
 k10 t215 w))
 (Bn P .add 3 true t31 (.int .i64 1) w fun t205 w =>
 k9 t205 w)))
 (Ld P 30 t9 w fun t235 w =>
 Cl P 16 #[t235] w (Pk R) fun t236 w =>
 Ex t236 0 w fun t237 w =>
 Ex t236 1 w fun t238 w =>
 Bn P .eql 31 true t99 (.int .i64 0) w fun t240 w =>
 Gd t240 true (fun k => k t238 w) w fun t242 w =>
 Gd t240 true (fun k => Bn P .eql 31 true t242 (.int .i64 0) w k) w fun t243 w =>
 Pick t240 t243 (.bool false) w fun t244 w =>
 Gd t244 true (fun k => Fa P 30 t9 3 w k) w fun t246 w =>
 Gd t244 true (fun k => Ld P 27 t246 w k) w fun t247 w =>
 Gd t244 true (fun k => Bd P 27 [] w k) w fun t248 w =>
 Gd t244 true (fun k => Bn P .eql 27 false t247 t248 w k) w fun t249 w =>
 Pick t244 t249 (.bool false) w fun t250 w =>
 Gd t250 true (fun k => Fa P 30 t9 4 w k) w fun t252 w =>
 Gd t250 true (fun k => Ld P 28 t252 w k) w fun t253 w =>
 Gd t250 true (fun k => Bt P .len #[28] 3 #[t253] w k) w fun t254 w =>
 Gd t250 true (fun k => Bn P .eql 3 true t254 (.int .i64 0) w k) w fun t255 w =>
 Pick t250 t255 (.bool false) w fun t256 w =>
 Gd t256 true (fun k => k t98 w) w fun t258 w =>
 Gd t256 true (fun k => k t237 w) w fun t259 w =>
 Gd t256 true (fun k => Cl P 18 #[t258, t259] w (Pk R) k) w fun t260 w =>
 Pick t256 t260 (.bool false) w fun t261 w =>
 Gd t261 true (fun k => k t26 w) w fun t263 w =>
 Gd t261 true (fun k => k t98 w) w fun t264 w =>
 Gd t261 true (fun k => Cl P 18 #[t263, t264] w (Pk R) k) w fun t265 w =>
 Pick t261 t265 (.bool false) w fun t266 w =>
 R (.returned t266) w))))))))))))))))
theorem e_law37_ShardMoves (h : s_law37_ShardMoves Tryz.prog t0 t1 t2 t3 w R) : Calls Tryz.prog 5 #[t0, t1, t2, t3] w R :=
 en1 (.sq .z (.sq (.sq .z (.cd (.sq .z .z) .z)) (.sq .z (.sq (.sq .z (.cd (.sq .z .z) .z)) (.sq (.sq .z (.bk (.lp [11] [12, 13, 14, 58, 59, 60, 61, 62, 63, 64, 65, 66, 67, 68, 69, 70, 71, 72, 73, 74, 75, 76, 77, 78, 79, 80, 81, 82, 83, 84, 85, 86, 87, 88, 89, 90, 91, 92, 93, 94] (.sq (.sq .z (.cd .z .z)) (.sq (.bk (.jn [12, 14] [13, 68, 69, 70, 71, 72, 73, 74, 75, 76, 77, 78, 79, 80, 81, 82, 83, 84, 85, 86, 87, 88, 89, 90, 91] (.dr (.pur false 0 (.pur false 1 (.pur true 2 (.pur true 3 (.pur true 4 (.pur true 5 (.pur false 6 (.pur true 7 (.pur true 8 (.pur true 9 (.pur true 10 (.pur false 11 (.pur true 12 (.pur true 13 (.pur true 14 (.pur true 15 (.pur false 16 (.pur true 17 (.alt (.eff 18 [0] (.alt (.eff 19 [] (.pur true 20 (.pur true 21 (.pur true 22 (.pur true 23 (.eff 24 [0, 1, 6, 11, 16] (.eff 25 [] (.pur true 26 (.pur true 27 .done))))))))) (.eff 24 [0, 1, 6, 11, 16] (.eff 19 [] (.pur true 20 (.pur true 21 (.pur true 22 (.pur true 23 (.eff 25 [] (.pur true 26 (.pur true 27 .done))))))))))) (.eff 24 [0, 1, 6, 11, 16] (.eff 18 [0] (.eff 19 [] (.pur true 20 (.pur true 21 (.pur true 22 (.pur true 23 (.eff 25 [] (.pur true 26 (.pur true 27 .done)))))))))))))))))))))))))))))) (.sq .z (.cd .z .z)))) .z))))) (.sq .z (.sq .z (.sq .z (.sq (.dr (.pur true 0 (.pur true 1 (.pur true 2 (.pur true 3 (.pur false 4 (.pur true 5 (.pur true 6 (.pur true 9 (.pur false 10 (.pur true 11 (.eff 7 [10] (.pur true 8 (.pur true 12 (.pur true 13 .done))))))))))))))) (.sq .z (.sq (.sq .z (.bk (.lp [20, 21] [120, 121, 122, 123, 124, 125, 126, 127, 128, 129, 130, 131, 132, 133, 134, 135] (.sq (.sq .z (.cd .z .z)) (.sq (.bk (.sq .z (.cd .z .z))) .z))))) (.sq .z (.sq (.sq .z (.bk (.lp [22, 23] [140, 141, 142, 143, 144, 145, 146, 147, 148] (.sq (.sq .z (.cd .z .z)) (.sq (.bk .z) .z))))) (.sq .z (.sq (.sq .z (.bk (.lp [22, 24] [153, 154, 155, 156, 157, 158, 159, 160, 161] (.sq (.sq .z (.cd .z .z)) (.sq (.bk .z) .z))))) (.sq .z (.sq (.sq .z (.bk (.lp [22, 25] [166, 167, 168, 169, 170, 171, 172, 173, 174, 175, 176] (.sq (.sq .z (.cd .z .z)) (.sq (.bk .z) .z))))) (.sq .z (.sq (.sq .z (.bk (.lp [26, 27] [8, 28, 29, 30, 177, 178, 179, 180, 181, 182, 183, 184, 185, 186, 187, 188, 189, 190, 191, 192, 193, 194, 195, 196, 197, 198] (.sq (.sq .z (.cd .z .z)) (.sq (.bk (.jn [28, 29, 30] [183, 184, 185, 186, 187, 188, 189, 190, 191, 192] (.dr (.pur false 0 (.pur true 1 (.pur true 2 (.pur true 3 (.pur false 4 (.alt (.eff 5 [] (.pur true 6 (.pur true 7 (.pur true 8 (.pur true 9 (.eff 10 [0, 4] (.eff 11 [] (.pur true 12 (.pur true 13 .done))))))))) (.eff 10 [0, 4] (.eff 5 [] (.pur true 6 (.pur true 7 (.pur true 8 (.pur true 9 (.eff 11 [] (.pur true 12 (.pur true 13 .done)))))))))))))))) (.sq (.sq .z (.cd (.sq .z .z) .z)) (.sq .z .z)))) .z))))) (.sq (.sq .z (.bk (.lp [31] [8, 32, 199, 200, 201, 202, 203, 204, 205, 206, 207, 208, 209, 210, 211, 212, 213, 214, 215, 216, 217, 218, 219, 220, 221, 222, 223, 224, 225, 226, 227, 228, 229, 230, 231, 232, 233] (.sq (.sq .z (.cd .z .z)) (.sq (.bk (.sq .z (.bk (.lp [32] [8, 206, 207, 208, 209, 210, 211, 212, 213, 214, 215, 216, 217, 218, 219, 220, 221, 222, 223, 224, 225, 226, 227, 228, 229, 230, 231, 232, 233] (.sq (.sq .z (.cd .z .z)) (.sq (.bk (.sq .z (.cd (.sq .z .z) .z))) .z)))))) .z))))) (.sq .z (.sq .z .z)))))))))))))))))))))) [t0, t1, t2, t3] Tryz.func5 (by kernel_rfl) (by kernel_rfl) h
end Go.Proofs.YthdhnhghjecfkaaGreat
