/-
  Contracts and plain lemmas. By an AI agent.
-/
import Derived.Test.YtjmdnjnjepinoaaGreatDoorEng
import Derived.Test.YtjmdnjnjepinoaaGreatDoorProg
set_option linter.unusedSimpArgs false
set_option linter.unusedVariables false
set_option linter.unusedSectionVars false
namespace Go.Proofs.YtjmdnjnjepinoaaGreatDoor
open Go Go.Eng Go.Shelf
set_option maxRecDepth 100000
variable {t0 t1 t2 t3 t4 t5 t6 t7 : Value} {w : World} {R : Ending → World → Prop}
def s_law26_ContractMatchesReference (P : Program) (t0 t1 t2 t3 t4 t5 t6 t7 : Value) (w : World) (R : Ending → World → Prop) : Prop :=
 Bx P 25 t0 w fun t8 w =>
 Bx P 26 t1 w fun t9 w =>
 Bx P 31 t6 w fun t14 w =>
 Cl P 9 #[] w (Pk R) fun t46 w =>
 Fa P 25 t8 2 w fun t47 w =>
 Ld P 23 t47 w fun t48 w =>
 Bs P 28 1 [(0, t48)] w fun t49 w =>
 Cl P 10 #[t49] w (Pk R) fun t50 w =>
 Ia P 28 t50 (.int .i64 0) w fun t51 w =>
 Ld P 23 t51 w fun t52 w =>
 Fa P 25 t8 2 w fun t53 w =>
 Sto P 23 t53 t52 w fun w =>
 Bt P .len #[27] 3 #[t2] w fun t56 w =>
 Bt P .min #[3, 3] 3 #[t56, (.int .i64 110)] w fun t57 w =>
 Sc P 27 t2 none (some t57) none w fun t58 w =>
 Cl P 10 #[t3] w (Pk R) fun t60 w =>
 Fa P 31 t14 2 w fun t61 w =>
 Ld P 28 t61 w fun t62 w =>
 Cl P 10 #[t62] w (Pk R) fun t63 w =>
 Fa P 31 t14 2 w fun t64 w =>
 Sto P 28 t64 t63 w fun w =>
 Cl P 11 #[t5] w (Pk R) fun t66 w =>
 dL P 25 t8 w.drew fun t67 =>
 dL P 26 t9 w.drew fun t68 =>
 Cl P 12 #[t68] w.drew (Pk R) fun t69 w =>
 kLd P 25 t8 t67 w <|
 Bs P 38 2 [(0, t67), (1, t69)] w fun t70 w =>
 Dv P true (bV .len #[38] 3 #[t70]) w fun t71 =>
 Lp1 (.int .i64 0) w (fun t72 w k1 =>
 Bn P .lss 3 false t72 t71 w fun t73 w =>
 If t73
 (Ia P 38 t70 t72 w fun t74 w =>
 Ld P 25 t74 w fun t75 w =>
 Al P 25 w fun t21 w =>
 Sto P 25 t21 t75 w fun w =>
 Ld P 25 t21 w fun t77 w =>
 Cl P 13 #[t77, t58] w (Pk R) fun t79 w =>
 Ex t79 0 w fun t80 w =>
 Ex t79 1 w fun t81 w =>
 Ld P 25 t21 w fun t83 w =>
 Cl P 14 #[t83, t58] w (Pk R) fun t85 w =>
 Ex t85 0 w fun t86 w =>
 Ex t85 1 w fun t87 w =>
 dL P 25 t21 w.drew fun t88 =>
 dL P 25 t21 w.drew fun t90 =>
 Cl P 15 #[t88] w.drew (Pk R) fun t89 w =>
 kLd P 25 t21 t90 w <|
 Cl P 16 #[t90] w (Pk R) fun t91 w =>
 Dv P true (bn .neq 4 false t89 t91) w fun t92 =>
 GdP t92 false (fun k => k t81) fun t94 =>
 GdP t92 false (fun k => k t87) fun t95 =>
 GdP t92 false (fun k => Dv P true (bn .neq 39 false t94 t95) w k) fun t96 =>
 PickP t92 (.bool true) t96 fun t97 =>
 GdP t97 false (fun k => k t80) fun t99 =>
 GdP t97 false (fun k => k t86) fun t100 =>
 Gd t97 false (fun k => Cl P 17 #[t99, t100] w (Pk R) k) w fun t101 w =>
 GdP t97 false (fun k => Dv P true (Op.unary .not t101) w k) fun t102 =>
 PickP t97 (.bool true) t102 fun t103 =>
 If t103
 (R (.returned (.bool false)) w)
 (Jn3 (fun k2 =>
 dL P 31 t14 w.drew fun t108 =>
 (Bs P 35 0 [] w.drew fun t105 w =>
 kLd P 31 t14 t108 w <|
 (Bt P .append #[35, 35] 35 #[t105, t66] w fun t107 w =>
 kLd P 31 t14 t108 w <|
 Bs P 35 1 [(0, t108)] w fun t109 w =>
 Bt P .append #[35, 35] 35 #[t107, t109] w fun t110 w =>
 Bs P 44 2 [(0, t66), (1, t110)] w fun t111 w =>
 Dv P true (bV .len #[44] 3 #[t111]) w fun t112 =>
 k2 t111 t112 (.int .i64 0) w) ∧
 (Bs P 35 1 [(0, t108)] w fun t109x1 w =>
 Bt P .append #[35, 35] 35 #[t105, t66] w fun t107x1 w =>
 kLd P 31 t14 t108 w <|
 Bt P .append #[35, 35] 35 #[t107x1, t109x1] w fun t110x1 w =>
 Bs P 44 2 [(0, t66), (1, t110x1)] w fun t111x1 w =>
 Dv P true (bV .len #[44] 3 #[t111x1]) w fun t112x1 =>
 k2 t111x1 t112x1 (.int .i64 0) w)) ∧
 (Bs P 35 1 [(0, t108)] w.drew fun t109x2 w =>
 Bs P 35 0 [] w fun t105x1 w =>
 kLd P 31 t14 t108 w <|
 Bt P .append #[35, 35] 35 #[t105x1, t66] w fun t107x2 w =>
 kLd P 31 t14 t108 w <|
 Bt P .append #[35, 35] 35 #[t107x2, t109x2] w fun t110x2 w =>
 Bs P 44 2 [(0, t66), (1, t110x2)] w fun t111x2 w =>
 Dv P true (bV .len #[44] 3 #[t111x2]) w fun t112x2 =>
 k2 t111x2 t112x2 (.int .i64 0) w))
 (fun t111x3 t112x3 t113 w =>
 Lp1 t113 w (fun t113x1 w k3 =>
 Bn P .lss 3 false t113x1 t112x3 w fun t114 w =>
 If t114
 (Ia P 44 t111x3 t113x1 w fun t115 w =>
 Ld P 35 t115 w fun t116 w =>
 Ld P 25 t21 w fun t118 w =>
 Cl P 18 #[t118, t116] w (Pk R) fun t120 w =>
 Ex t120 0 w fun t121 w =>
 Ex t120 1 w fun t122 w =>
 Ld P 25 t21 w fun t124 w =>
 Cl P 19 #[t124, t116] w (Pk R) fun t126 w =>
 Ex t126 0 w fun t127 w =>
 Ex t126 1 w fun t128 w =>
 Bn P .neq 39 false t122 t128 w fun t131 w =>
 Gd t131 false (fun k => k t121 w) w fun t133 w =>
 Gd t131 false (fun k => k t127 w) w fun t134 w =>
 Gd t131 false (fun k => Cl P 20 #[t133, t134] w (Pk R) k) w fun t135 w =>
 Gd t131 false (fun k => Un P .not t135 w k) w fun t136 w =>
 Pick t131 (.bool true) t136 w fun t137 w =>
 If t137
 (R (.returned (.bool false)) w)
 (Cl P 21 #[t121] w (Pk R) fun t140 w =>
 Ex t140 0 w fun t141 w =>
 Ex t140 1 w fun t142 w =>
 Cl P 22 #[t127] w (Pk R) fun t145 w =>
 Ex t145 0 w fun t146 w =>
 Ex t145 1 w fun t147 w =>
 Bn P .neq 39 false t142 t147 w fun t150 w =>
 Gd t150 false (fun k => k t141 w) w fun t152 w =>
 Gd t150 false (fun k => k t146 w) w fun t153 w =>
 Gd t150 false (fun k => Cl P 17 #[t152, t153] w (Pk R) k) w fun t154 w =>
 Gd t150 false (fun k => Un P .not t154 w k) w fun t155 w =>
 Pick t150 (.bool true) t155 w fun t156 w =>
 If t156
 (R (.returned (.bool false)) w)
 (Bn P .add 3 true t113x1 (.int .i64 1) w fun t157 w =>
 k3 t157 w)))
 (Bn P .add 3 true t72 (.int .i64 1) w fun t158 w =>
 k1 t158 w)))))
 (Cl P 23 #[t4, (.int .i64 1000)] w (Pk R) fun t161 w =>
 Bs P 27 2 [(0, t4), (1, t161)] w fun t162 w =>
 Bt P .len #[27] 3 #[t162] w fun t163 w =>
 Lp1 (.int .i64 0) w (fun t164 w k4 =>
 Bn P .lss 3 false t164 t163 w fun t165 w =>
 If t165
 (Ia P 27 t162 t164 w fun t166 w =>
 Ld P 3 t166 w fun t167 w =>
 Cl P 24 #[t167, t60] w (Pk R) fun t171 w =>
 Ex t171 0 w fun t172 w =>
 Ex t171 1 w fun t173 w =>
 Cl P 25 #[t167, t60] w (Pk R) fun t177 w =>
 Ex t177 0 w fun t178 w =>
 Ex t177 1 w fun t179 w =>
 Bn P .neq 39 false t173 t179 w fun t182 w =>
 Gd t182 false (fun k => k t172 w) w fun t184 w =>
 Gd t182 false (fun k => k t178 w) w fun t185 w =>
 Gd t182 false (fun k => Cl P 17 #[t184, t185] w (Pk R) k) w fun t186 w =>
 Gd t182 false (fun k => Un P .not t186 w k) w fun t187 w =>
 Pick t182 (.bool true) t187 w fun t188 w =>
 If t188
 (R (.returned (.bool false)) w)
 (Bn P .add 3 true t164 (.int .i64 1) w fun t189 w =>
 k4 t189 w))
 (Bt P .len #[32] 3 #[t7] w fun t192 w =>
 Bt P .min #[3, 3] 3 #[t192, (.int .i64 10)] w fun t193 w =>
 Sc P 32 t7 none (some t193) none w fun t194 w =>
 Cl P 21 #[t194] w (Pk R) fun t197 w =>
 Ex t197 0 w fun t198 w =>
 Ex t197 1 w fun t199 w =>
 Cl P 22 #[t194] w (Pk R) fun t202 w =>
 Ex t202 0 w fun t203 w =>
 Ex t202 1 w fun t204 w =>
 Gd t46 true (fun k => k t199 w) w fun t207 w =>
 Gd t46 true (fun k => k t204 w) w fun t208 w =>
 Gd t46 true (fun k => Bn P .eql 39 false t207 t208 w k) w fun t209 w =>
 Pick t46 t209 (.bool false) w fun t210 w =>
 Gd t210 true (fun k => k t198 w) w fun t212 w =>
 Gd t210 true (fun k => k t203 w) w fun t213 w =>
 Gd t210 true (fun k => Cl P 17 #[t212, t213] w (Pk R) k) w fun t214 w =>
 Pick t210 t214 (.bool false) w fun t215 w =>
 R (.returned t215) w))))
theorem e_law26_ContractMatchesReference (h : s_law26_ContractMatchesReference Tryz.prog t0 t1 t2 t3 t4 t5 t6 t7 w R) : Calls Tryz.prog 3 #[t0, t1, t2, t3, t4, t5, t6, t7] w R :=
 en1 (.sq .z (.sq .z (.sq .z (.sq .z (.sq .z (.sq .z (.sq .z (.sq (.sq (.dr (.pur false 0 (.pur false 1 (.pur true 5 (.eff 2 [0] (.eff 3 [] (.pur true 4 .done))))))) (.bk (.lp [72] [16, 21, 22, 23, 24, 25, 27, 28, 29, 30, 31, 32, 33, 34, 35, 73, 74, 75, 76, 77, 78, 79, 80, 81, 82, 83, 84, 85, 86, 87, 88, 89, 90, 91, 92, 93, 94, 95, 96, 97, 98, 99, 100, 101, 102, 103, 104, 105, 106, 107, 108, 109, 110, 111, 112, 113, 114, 115, 116, 117, 118, 119, 120, 121, 122, 123, 124, 125, 126, 127, 128, 129, 130, 131, 132, 133, 134, 135, 136, 137, 138, 139, 140, 141, 142, 143, 144, 145, 146, 147, 148, 149, 150, 151, 152, 153, 154, 155, 156, 157, 158] (.sq .z (.sq (.cd .z .z) (.sq (.bk (.sq .z (.sq .z (.sq .z (.sq (.sq (.dr (.pur false 0 (.pur false 2 (.eff 1 [2] (.eff 3 [] (.pur true 4 (.pur true 5 (.pur true 6 (.pur true 7 (.pur true 8 (.pur true 9 (.pur true 10 (.pur true 11 (.pur true 12 (.eff 13 [] (.pur true 14 (.pur true 15 .done))))))))))))))))) (.cd (.sq .z .z) .z)) (.jn [111, 112, 113] [104, 105, 106, 107, 108, 109, 110] (.dr (.pur true 0 (.pur true 2 (.pur false 4 (.pur true 9 (.alt (.eff 1 [4] (.alt (.eff 3 [4] (.eff 5 [] (.eff 6 [] (.eff 7 [] (.pur true 8 .done))))) (.eff 5 [] (.eff 3 [4] (.eff 6 [] (.eff 7 [] (.pur true 8 .done))))))) (.eff 5 [] (.eff 1 [4] (.eff 3 [4] (.eff 6 [] (.eff 7 [] (.pur true 8 .done)))))))))))) (.bk (.lp [113] [16, 27, 28, 29, 30, 31, 32, 33, 34, 35, 114, 115, 116, 117, 118, 119, 120, 121, 122, 123, 124, 125, 126, 127, 128, 129, 130, 131, 132, 133, 134, 135, 136, 137, 138, 139, 140, 141, 142, 143, 144, 145, 146, 147, 148, 149, 150, 151, 152, 153, 154, 155, 156, 157] (.sq .z (.sq (.cd .z .z) (.sq (.bk (.sq .z (.sq .z (.sq .z (.sq (.sq .z (.cd (.sq .z .z) .z)) (.sq .z (.sq .z (.sq .z (.cd (.sq .z .z) .z))))))))) .z))))))))))) .z)))))) (.sq (.sq .z (.bk (.lp [164] [16, 37, 38, 39, 40, 41, 165, 166, 167, 168, 169, 170, 171, 172, 173, 174, 175, 176, 177, 178, 179, 180, 181, 182, 183, 184, 185, 186, 187, 188, 189] (.sq .z (.sq (.cd .z .z) (.sq (.bk (.sq .z (.sq .z (.sq .z (.sq .z (.cd (.sq .z .z) .z)))))) .z)))))) (.sq .z (.sq .z (.sq .z (.sq .z .z))))))))))))) [t0, t1, t2, t3, t4, t5, t6, t7] Tryz.func3 (by kernel_rfl) (by kernel_rfl) h
end Go.Proofs.YtjmdnjnjepinoaaGreatDoor
