/-
  Contracts and plain lemmas. By an AI agent.
-/
import Derived.Test.YthjhkpefammjkaaGreatDoorEng
import Derived.Test.YthjhkpefammjkaaGreatDoorProg
set_option linter.unusedSimpArgs false
set_option linter.unusedVariables false
set_option linter.unusedSectionVars false
namespace Go.Proofs.YthjhkpefammjkaaGreatDoor
open Go Go.Eng Go.Shelf
set_option maxRecDepth 100000
variable {t0 t1 t2 t3 : Value} {w : World} {R : Ending → World → Prop}
def s_law25_ShareFair (P : Program) (t0 t1 t2 t3 : Value) (w : World) (R : Ending → World → Prop) : Prop :=
 Cl P 11 #[] w (Pk R) fun t27 w =>
 Un P .not t27 w fun t28 w =>
 If t28
 (R (.returned (.bool false)) w)
 (Cl P 12 #[t0, t1, t2] w (Pk R) fun t32 w =>
 Cl P 13 #[t32] w (Pk R) fun t35 w =>
 Ex t35 0 w fun t36 w =>
 Ex t35 1 w fun t37 w =>
 Cl P 15 #[t32] w (Pk R) fun t40 w =>
 Ex t40 0 w fun t41 w =>
 Ex t40 1 w fun t42 w =>
 Bn P .neq 27 true t37 (.int .i64 0) w fun t44 w =>
 Gd t44 false (fun k => k t42 w) w fun t46 w =>
 Gd t44 false (fun k => Bn P .neq 27 true t46 (.int .i64 0) w k) w fun t47 w =>
 Pick t44 (.bool true) t47 w fun t48 w =>
 If t48
 (R (.returned (.bool false)) w)
 (Bt P .len #[26] 3 #[t36] w fun t50 w =>
 Ms P 22 t50 t50 w fun t51 w =>
 Lp1 (.int .i64 0) w (fun t15 w k1 =>
 Bt P .len #[25] 3 #[t41] w fun t54 w =>
 Bn P .lss 3 false t15 t54 w fun t55 w =>
 If t55
 (Lp1 (.int .i64 0) w (fun t16 w k2 =>
 Ia P 25 t41 t15 w fun t61 w =>
 Ld P 22 t61 w fun t62 w =>
 Bt P .len #[22] 3 #[t62] w fun t63 w =>
 Bn P .lss 3 false t16 t63 w fun t64 w =>
 If t64
 (Ia P 25 t41 t15 w fun t69 w =>
 Ld P 22 t69 w fun t70 w =>
 Ia P 22 t70 t16 w fun t72 w =>
 Ld P 3 t72 w fun t73 w =>
 Dv P true (bn .lss 3 true t73 (.int .i64 0)) w.drew fun t75 =>
 GdP t75 false (fun k => k t73) fun t77 =>
 GdP t75 false (fun k => k t36) fun t78 =>
 GdP t75 false (fun k => Dv P true (bV .len #[26] 3 #[t78]) w.drew k) fun t79 =>
 GdP t75 false (fun k => Dv P true (bn .geq 3 false t77 t79) w.drew k) fun t80 =>
 PickP t75 (.bool true) t80 fun t81 =>
 GdP t81 false (fun k => k t36) fun t83 =>
 GdP t81 false (fun k => k t73) fun t84 =>
 GdP t81 false (fun k => dIx P 26 t83 t84 w.drew k) fun t85 =>
 GdP t81 false (fun k => dL P 38 t85 w.drew k) fun t86 =>
 GdP t81 false (fun k => k t36) fun t87 =>
 GdP t81 false (fun k => k t41) fun t88 =>
 GdP t81 false (fun k => k t15) fun t89 =>
 GdP t81 false (fun k => dIx P 25 t88 t89 w.drew k) fun t90 =>
 GdP t81 false (fun k => dL P 22 t90 w.drew k) fun t91 =>
 GdP t81 false (fun k => Dv P true (Instr.indexAt 22 t91 (.int .i64 0)) w.drew k) fun t92 =>
 GdP t81 false (fun k => dL P 3 t92 w.drew k) fun t93 =>
 GdP t81 false (fun k => dIx P 26 t87 t93 w.drew k) fun t94 =>
 GdP t81 false (fun k => dL P 38 t94 w.drew k) fun t95 =>
 GdP t81 false (fun k => Dv P false (bn .neq 38 false t86 t95) w.drew k) fun t96 =>
 PickP t81 (.bool true) t96 fun t97 =>
 If t97
 (R (.returned (.bool false)) w.drew)
 (Ia P 22 t51 t73 w.drew fun t101 w =>
 Sto P 3 t101 t15 w fun w =>
 Bn P .add 3 true t16 (.int .i64 1) w fun t66 w =>
 k2 t66 w))
 (Bn P .add 3 true t15 (.int .i64 1) w fun t57 w =>
 k1 t57 w)))
 (Lp1 (.int .i64 0) w (fun t18 w k3 =>
 Bt P .len #[26] 3 #[t36] w fun t104 w =>
 Bn P .lss 3 false t18 t104 w fun t105 w =>
 If t105
 (Lp1 (.int .i64 0) w (fun t19 w k4 =>
 Bn P .lss 3 false t19 t18 w fun t110 w =>
 If t110
 (Lp2 (.bool false) (.int .i64 0) w (fun t20 t21 w k5 =>
 Bt P .len #[22] 3 #[t32] w fun t115 w =>
 Bn P .lss 3 false t21 t115 w fun t116 w =>
 If t116
 (GdP t20 false (fun k => k t21) fun t121 =>
 GdP t20 false (fun k => k t18) fun t122 =>
 GdP t20 false (fun k => Dv P true (bn .shr 3 false t121 t122) w.drew k) fun t123 =>
 GdP t20 false (fun k => Dv P true (bn .rem 3 true t123 (.int .i64 2)) w.drew k) fun t124 =>
 GdP t20 false (fun k => Dv P true (bn .eql 3 true t124 (.int .i64 0)) w.drew k) fun t125 =>
 GdP t20 false (fun k => k t125) fun t126 =>
 GdP t126 true (fun k => k t21) fun t127 =>
 GdP t126 true (fun k => k t19) fun t128 =>
 GdP t126 true (fun k => Dv P true (bn .shr 3 false t127 t128) w.drew k) fun t129 =>
 GdP t126 true (fun k => Dv P true (bn .rem 3 true t129 (.int .i64 2)) w.drew k) fun t130 =>
 GdP t126 true (fun k => Dv P true (bn .eql 3 true t130 (.int .i64 0)) w.drew k) fun t131 =>
 GdP t20 false (fun k => PickP t126 t131 (.bool false) k) fun t132 =>
 GdP t20 false (fun k => k t132) fun t133 =>
 GdP t133 true (fun k => k t32) fun t134 =>
 GdP t133 true (fun k => k t21) fun t135 =>
 GdP t133 true (fun k => k t18) fun t136 =>
 GdP t133 true (fun k => Dv P true (bn .shl 3 true (.int .i64 1) t136) w.drew k) fun t137 =>
 GdP t133 true (fun k => Dv P true (bn .or 3 false t135 t137) w.drew k) fun t138 =>
 GdP t133 true (fun k => dIx P 22 t134 t138 w.drew k) fun t139 =>
 GdP t133 true (fun k => dL P 3 t139 w.drew k) fun t140 =>
 GdP t133 true (fun k => k t32) fun t141 =>
 GdP t133 true (fun k => k t21) fun t142 =>
 GdP t133 true (fun k => k t19) fun t143 =>
 GdP t133 true (fun k => Dv P true (bn .shl 3 true (.int .i64 1) t143) w.drew k) fun t144 =>
 GdP t133 true (fun k => Dv P true (bn .or 3 false t142 t144) w.drew k) fun t145 =>
 GdP t133 true (fun k => dIx P 22 t141 t145 w.drew k) fun t146 =>
 GdP t133 true (fun k => dL P 3 t146 w.drew k) fun t147 =>
 GdP t133 true (fun k => Dv P true (bn .neq 3 false t140 t147) w.drew k) fun t148 =>
 GdP t20 false (fun k => PickP t133 t148 (.bool false) k) fun t149 =>
 PickP t20 (.bool true) t149 fun t150 =>
 Bn P .add 3 true t21 (.int .i64 1) w.drew fun t118 w =>
 k5 t150 t118 w)
 (dIx P 22 t51 t18 w.drew fun t154 =>
 dL P 3 t154 w.drew fun t155 =>
 dIx P 22 t51 t19 w.drew fun t158 =>
 dL P 3 t158 w.drew fun t159 =>
 Dv P true (bn .eql 3 false t155 t159) w.drew fun t160 =>
 Dv P true (bn .eql 4 false t20 t160) w.drew fun t161 =>
 If t161
 (R (.returned (.bool false)) w.drew)
 (Bn P .add 3 true t19 (.int .i64 1) w.drew fun t112 w =>
 k4 t112 w))))
 (Bn P .add 3 true t18 (.int .i64 1) w fun t107 w =>
 k3 t107 w)))
 (Cl P 23 #[t3, (.int .i64 100)] w (Pk R) fun t163 w =>
 Bn P .sub 3 true t163 (.int .i64 20) w fun t164 w =>
 Lp2 (.slice none 0 0) (.int .i64 0) w (fun t23 t24 w k6 =>
 Bt P .len #[22] 3 #[t32] w fun t167 w =>
 Bn P .mul 3 true (.int .i64 2) t167 w fun t168 w =>
 Bn P .lss 3 false t24 t168 w fun t169 w =>
 If t169
 (Bt P .len #[22] 3 #[t32] w fun t174 w =>
 Bn P .lss 3 false t24 t174 w fun t175 w =>
 If t175
 (Ia P 22 t32 t24 w fun t179 w =>
 Ld P 3 t179 w fun t180 w =>
 Bs P 22 1 [(0, t180)] w fun t181 w =>
 Bt P .append #[22, 22] 22 #[t23, t181] w fun t182 w =>
 Bn P .add 3 true t24 (.int .i64 1) w fun t171 w =>
 k6 t182 t171 w)
 (Bt P .len #[22] 3 #[t32] w fun t187 w =>
 Bn P .sub 3 false t24 t187 w fun t188 w =>
 Ia P 22 t32 t188 w fun t189 w =>
 Ld P 3 t189 w fun t190 w =>
 Bn P .add 3 false t190 t164 w fun t192 w =>
 Bs P 22 1 [(0, t192)] w fun t193 w =>
 Bt P .append #[22, 22] 22 #[t23, t193] w fun t194 w =>
 Bn P .add 3 true t24 (.int .i64 1) w fun t171x1 w =>
 k6 t194 t171x1 w))
 (Cl P 13 #[t23] w (Pk R) fun t197 w =>
 Ex t197 0 w fun t198 w =>
 Ex t197 1 w fun t199 w =>
 Dv P true (bn .eql 27 true t199 (.int .i64 0)) w.drew fun t201 =>
 GdP t201 true (fun k => k t198) fun t203 =>
 GdP t201 true (fun k => Dv P true (bV .len #[26] 3 #[t203]) w.drew k) fun t204 =>
 GdP t201 true (fun k => k t36) fun t205 =>
 GdP t201 true (fun k => Dv P true (bV .len #[26] 3 #[t205]) w.drew k) fun t206 =>
 GdP t201 true (fun k => Dv P true (bn .add 3 true t206 (.int .i64 1)) w.drew k) fun t207 =>
 GdP t201 true (fun k => Dv P true (bn .eql 3 false t204 t207) w.drew k) fun t208 =>
 PickP t201 t208 (.bool false) fun t209 =>
 GdP t209 true (fun k => k t198) fun t211 =>
 GdP t209 true (fun k => k t36) fun t212 =>
 GdP t209 true (fun k => Dv P true (bV .len #[26] 3 #[t212]) w.drew k) fun t213 =>
 GdP t209 true (fun k => dIx P 26 t211 t213 w.drew k) fun t214 =>
 GdP t209 true (fun k => dL P 38 t214 w.drew k) fun t215 =>
 GdP t209 true (fun k => k t164) fun t216 =>
 Gd t209 true (fun k => Cl P 22 #[t216, (.int .i64 1)] w.drew (Pk R) k) w.drew fun t217 w =>
 Kg t209 true P (Instr.loadAt 38 t214) t215 w <|
 GdP t209 true (fun k => Dv P false (bn .eql 38 false t215 t217) w k) fun t218 =>
 PickP t209 t218 (.bool false) fun t219 =>
 GdP t219 true (fun k => k t198) fun t221 =>
 GdP t219 true (fun k => k t36) fun t222 =>
 GdP t219 true (fun k => Dv P true (bV .len #[26] 3 #[t222]) w k) fun t223 =>
 GdP t219 true (fun k => Dv P true (Instr.sliceAt 26 t221 none (some t223) none) w k) fun t224 =>
 GdP t219 true (fun k => k t36) fun t225 =>
 Gd t219 true (fun k => Cl P 19 #[t224, t225] w (Pk R) k) w fun t226 w =>
 PickP t219 t226 (.bool false) fun t227 =>
 R (.returned t227) w))))))))
theorem e_law25_ShareFair (h : s_law25_ShareFair Tryz.prog t0 t1 t2 t3 w R) : Calls Tryz.prog 6 #[t0, t1, t2, t3] w R :=
 en1 (.sq .z (.sq (.sq .z (.cd (.sq .z .z) .z)) (.sq .z (.sq .z (.sq .z (.sq (.sq .z (.cd (.sq .z .z) .z)) (.sq .z (.sq (.sq .z (.bk (.lp [15] [8, 16, 17, 52, 53, 54, 55, 56, 57, 58, 59, 60, 61, 62, 63, 64, 65, 66, 67, 68, 69, 70, 71, 72, 73, 74, 75, 76, 77, 78, 79, 80, 81, 82, 83, 84, 85, 86, 87, 88, 89, 90, 91, 92, 93, 94, 95, 96, 97, 98, 99, 100, 101] (.sq (.sq .z (.cd .z .z)) (.sq (.bk (.sq .z (.bk (.lp [16] [8, 17, 58, 59, 60, 61, 62, 63, 64, 65, 66, 67, 68, 69, 70, 71, 72, 73, 74, 75, 76, 77, 78, 79, 80, 81, 82, 83, 84, 85, 86, 87, 88, 89, 90, 91, 92, 93, 94, 95, 96, 97, 98, 99, 100, 101] (.sq (.sq .z (.cd .z .z)) (.sq (.bk (.sq .z (.sq (.sq (.dr (.pur true 0 (.pur true 1 (.pur true 2 (.pur true 3 (.pur true 4 (.pur true 5 (.pur true 6 (.pur true 7 (.pur true 8 (.pur true 9 (.pur true 10 (.pur true 11 (.pur false 12 (.pur true 13 (.pur true 14 (.pur true 15 (.pur true 16 (.pur false 17 (.pur true 18 (.pur false 19 (.pur true 20 (.pur false 21 (.pur false 22 (.pur true 23 .done))))))))))))))))))))))))) (.cd (.sq .z .z) .z)) .z))) .z)))))) .z))))) (.sq (.sq .z (.bk (.lp [18] [8, 19, 20, 21, 102, 103, 104, 105, 106, 107, 108, 109, 110, 111, 112, 113, 114, 115, 116, 117, 118, 119, 120, 121, 122, 123, 124, 125, 126, 127, 128, 129, 130, 131, 132, 133, 134, 135, 136, 137, 138, 139, 140, 141, 142, 143, 144, 145, 146, 147, 148, 149, 150, 151, 152, 153, 154, 155, 156, 157, 158, 159, 160, 161] (.sq (.sq .z (.cd .z .z)) (.sq (.bk (.sq .z (.bk (.lp [19] [8, 20, 21, 108, 109, 110, 111, 112, 113, 114, 115, 116, 117, 118, 119, 120, 121, 122, 123, 124, 125, 126, 127, 128, 129, 130, 131, 132, 133, 134, 135, 136, 137, 138, 139, 140, 141, 142, 143, 144, 145, 146, 147, 148, 149, 150, 151, 152, 153, 154, 155, 156, 157, 158, 159, 160, 161] (.sq (.sq .z (.cd .z .z)) (.sq (.bk (.sq .z (.sq (.sq .z (.bk (.lp [20, 21] [113, 114, 115, 116, 117, 118, 119, 120, 121, 122, 123, 124, 125, 126, 127, 128, 129, 130, 131, 132, 133, 134, 135, 136, 137, 138, 139, 140, 141, 142, 143, 144, 145, 146, 147, 148, 149, 150] (.sq (.sq .z (.cd .z .z)) (.sq (.bk (.dr (.pur true 0 (.pur true 1 (.pur true 2 (.pur true 3 (.pur true 4 (.pur true 5 (.pur true 6 (.pur true 7 (.pur true 8 (.pur true 9 (.pur true 10 (.pur true 11 (.pur true 12 (.pur true 13 (.pur true 14 (.pur true 15 (.pur true 16 (.pur true 17 (.pur true 18 (.pur true 19 (.pur true 20 (.pur false 21 (.pur true 22 (.pur true 23 (.pur true 24 (.pur true 25 (.pur true 26 (.pur true 27 (.pur false 28 (.pur true 29 (.pur true 30 (.pur true 31 (.pur true 32 .done))))))))))))))))))))))))))))))))))) .z))))) (.sq (.dr (.pur true 0 (.pur true 1 (.pur true 2 (.pur true 3 (.pur false 4 (.pur true 5 (.pur true 6 (.pur true 7 (.pur false 8 (.pur true 9 (.pur true 10 .done)))))))))))) (.cd (.sq .z .z) .z))))) .z)))))) .z))))) (.sq .z (.sq .z (.sq (.sq .z (.bk (.lp [23, 24] [165, 166, 167, 168, 169, 170, 171, 172, 173, 174, 175, 176, 177, 178, 179, 180, 181, 182, 183, 184, 185, 186, 187, 188, 189, 190, 191, 192, 193, 194] (.sq (.sq .z (.cd .z .z)) (.sq (.bk (.sq .z (.cd .z .z))) .z))))) (.sq .z (.sq (.dr (.pur true 0 (.pur true 1 (.pur true 2 (.pur true 3 (.pur true 4 (.pur true 5 (.pur true 6 (.pur true 7 (.pur true 8 (.pur true 9 (.pur true 10 (.pur true 11 (.pur true 12 (.pur true 13 (.pur true 14 (.pur false 15 (.pur true 16 (.eff 17 [15] (.pur false 18 (.pur true 19 (.pur true 20 (.pur true 21 (.pur true 22 (.pur true 23 (.pur true 24 (.pur true 25 (.eff 26 [] (.pur true 27 (.pur true 28 .done)))))))))))))))))))))))))))))) .z)))))))))))))) [t0, t1, t2, t3] Tryz.func6 (by kernel_rfl) (by kernel_rfl) h
end Go.Proofs.YthjhkpefammjkaaGreatDoor
