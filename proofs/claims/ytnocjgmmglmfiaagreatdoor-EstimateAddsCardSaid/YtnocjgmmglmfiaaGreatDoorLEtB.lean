/-
  Contracts and plain lemmas. By an AI agent.
-/
import Derived.Test.YtnocjgmmglmfiaaGreatDoorEng
import Derived.Test.YtnocjgmmglmfiaaGreatDoorProg
set_option linter.unusedSimpArgs false
set_option linter.unusedVariables false
set_option linter.unusedSectionVars false
namespace Go.Proofs.YtnocjgmmglmfiaaGreatDoor
open Go Go.Eng Go.Shelf
set_option maxRecDepth 100000
set_option linter.unusedVariables false
def s_law16_EstimateAdds (P : Program) (t0 t1 : Value) (w : World) (R : Ending → World → Prop) : Prop :=
 Cl P 11 #[] w (Pk R) fun t42 w =>
 Un P .not t42 w fun t43 w =>
 If t43
 (R (.returned (.bool false)) w)
 (Cl P 12 #[t0, (.int .i64 8)] w (Pk R) fun t46 w =>
 Ex t46 0 w fun t47 w =>
 Ex t46 1 w fun t48 w =>
 Cl P 12 #[t1, (.int .i64 8)] w (Pk R) fun t51 w =>
 Ex t51 0 w fun t52 w =>
 Ex t51 1 w fun t53 w =>
 Cl P 14 #[t47, t48] w (Pk R) fun t57 w =>
 Ex t57 0 w fun t58 w =>
 Ex t57 1 w fun t59 w =>
 Ex t57 2 w fun t60 w =>
 Al P 30 w fun t9 w =>
 Al P 30 w fun t10 w =>
 Sto P 30 t9 t58 w fun w =>
 Sto P 30 t10 t59 w fun w =>
 Cl P 14 #[t52, t53] w (Pk R) fun t64 w =>
 Ex t64 0 w fun t65 w =>
 Ex t64 1 w fun t66 w =>
 Ex t64 2 w fun t67 w =>
 Al P 30 w fun t12 w =>
 Al P 30 w fun t13 w =>
 Sto P 30 t12 t65 w fun w =>
 Sto P 30 t13 t66 w fun w =>
 Bs P 23 0 [] w fun t69 w =>
 Bt P .append #[23, 23] 23 #[t69, t47] w fun t71 w =>
 Bt P .append #[23, 23] 23 #[t71, t52] w fun t73 w =>
 Bs P 23 0 [] w fun t74 w =>
 Bt P .append #[23, 23] 23 #[t74, t48] w fun t76 w =>
 Bt P .append #[23, 23] 23 #[t76, t53] w fun t78 w =>
 Cl P 14 #[t73, t78] w (Pk R) fun t79 w =>
 Ex t79 0 w fun t80 w =>
 Ex t79 1 w fun t81 w =>
 Ex t79 2 w fun t82 w =>
 Al P 30 w fun t15 w =>
 Al P 30 w fun t16 w =>
 Sto P 30 t15 t80 w fun w =>
 Sto P 30 t16 t81 w fun w =>
 Cl P 16 #[t47, t48] w (Pk R) fun t86 w =>
 Ex t86 0 w fun t87 w =>
 Ex t86 1 w fun t88 w =>
 Al P 30 w fun t18 w =>
 Sto P 30 t18 t87 w fun w =>
 Cl P 16 #[t52, t53] w (Pk R) fun t92 w =>
 Ex t92 0 w fun t93 w =>
 Ex t92 1 w fun t94 w =>
 Al P 30 w fun t20 w =>
 Sto P 30 t20 t93 w fun w =>
 Bs P 23 0 [] w fun t96 w =>
 Bt P .append #[23, 23] 23 #[t96, t47] w fun t98 w =>
 Bt P .append #[23, 23] 23 #[t98, t52] w fun t100 w =>
 Bs P 23 0 [] w fun t101 w =>
 Bt P .append #[23, 23] 23 #[t101, t48] w fun t103 w =>
 Bt P .append #[23, 23] 23 #[t103, t53] w fun t105 w =>
 Cl P 16 #[t100, t105] w (Pk R) fun t106 w =>
 Ex t106 0 w fun t107 w =>
 Ex t106 1 w fun t108 w =>
 Al P 30 w fun t22 w =>
 Sto P 30 t22 t107 w fun w =>
 Bn P .neq 31 true t60 (.int .i64 0) w fun t110 w =>
 Gd t110 false (fun k => k t67 w) w fun t112 w =>
 Gd t110 false (fun k => Bn P .neq 31 true t112 (.int .i64 0) w k) w fun t113 w =>
 Pick t110 (.bool true) t113 w fun t114 w =>
 Gd t114 false (fun k => k t82 w) w fun t116 w =>
 Gd t114 false (fun k => Bn P .neq 31 true t116 (.int .i64 0) w k) w fun t117 w =>
 Pick t114 (.bool true) t117 w fun t118 w =>
 Gd t118 false (fun k => k t88 w) w fun t120 w =>
 Gd t118 false (fun k => Bn P .neq 31 true t120 (.int .i64 0) w k) w fun t121 w =>
 Pick t118 (.bool true) t121 w fun t122 w =>
 Gd t122 false (fun k => k t94 w) w fun t124 w =>
 Gd t122 false (fun k => Bn P .neq 31 true t124 (.int .i64 0) w k) w fun t125 w =>
 Pick t122 (.bool true) t125 w fun t126 w =>
 Gd t126 false (fun k => k t108 w) w fun t128 w =>
 Gd t126 false (fun k => Bn P .neq 31 true t128 (.int .i64 0) w k) w fun t129 w =>
 Pick t126 (.bool true) t129 w fun t130 w =>
 If t130
 (R (.returned (.bool false)) w)
 (Ld P 30 t9 w fun t132 w =>
 Ld P 30 t12 w fun t133 w =>
 Cl P 25 #[t132, t133] w (Pk R) fun t134 w =>
 Ex t134 0 w fun t135 w =>
 Ex t134 1 w fun t136 w =>
 Al P 30 w fun t24 w =>
 Sto P 30 t24 t135 w fun w =>
 Ld P 30 t10 w fun t138 w =>
 Ld P 30 t13 w fun t139 w =>
 Cl P 25 #[t138, t139] w (Pk R) fun t140 w =>
 Ex t140 0 w fun t141 w =>
 Ex t140 1 w fun t142 w =>
 Al P 30 w fun t26 w =>
 Sto P 30 t26 t141 w fun w =>
 Ld P 30 t18 w fun t144 w =>
 Ld P 30 t20 w fun t145 w =>
 Cl P 25 #[t144, t145] w (Pk R) fun t146 w =>
 Ex t146 0 w fun t147 w =>
 Ex t146 1 w fun t148 w =>
 Al P 30 w fun t28 w =>
 Sto P 30 t28 t147 w fun w =>
 Bn P .neq 31 true t136 (.int .i64 0) w fun t150 w =>
 Gd t150 false (fun k => k t142 w) w fun t152 w =>
 Gd t150 false (fun k => Bn P .neq 31 true t152 (.int .i64 0) w k) w fun t153 w =>
 Pick t150 (.bool true) t153 w fun t154 w =>
 Gd t154 false (fun k => k t148 w) w fun t156 w =>
 Gd t154 false (fun k => Bn P .neq 31 true t156 (.int .i64 0) w k) w fun t157 w =>
 Pick t154 (.bool true) t157 w fun t158 w =>
 Gd t158 false (fun k => Ld P 30 t24 w k) w fun t160 w =>
 Gd t158 false (fun k => Ld P 30 t15 w k) w fun t161 w =>
 Gd t158 false (fun k => Bn P .neq 30 false t160 t161 w k) w fun t162 w =>
 Pick t158 (.bool true) t162 w fun t163 w =>
 Gd t163 false (fun k => Ld P 30 t26 w k) w fun t165 w =>
 Gd t163 false (fun k => Ld P 30 t16 w k) w fun t166 w =>
 Gd t163 false (fun k => Bn P .neq 30 false t165 t166 w k) w fun t167 w =>
 Pick t163 (.bool true) t167 w fun t168 w =>
 Gd t168 false (fun k => Ld P 30 t28 w k) w fun t170 w =>
 Gd t168 false (fun k => Ld P 30 t22 w k) w fun t171 w =>
 Gd t168 false (fun k => Bn P .neq 30 false t170 t171 w k) w fun t172 w =>
 Pick t168 (.bool true) t172 w fun t173 w =>
 If t173
 (R (.returned (.bool false)) w)
 (Bt P .len #[23] 3 #[t47] w fun t175 w =>
 Bt P .len #[23] 3 #[t52] w fun t177 w =>
 Bt P .min #[3, 3] 3 #[t175, t177] w fun t178 w =>
 Lp2 (.slice none 0 0) (.int .i64 0) w (fun t31 t32 w k1 =>
 Bn P .lss 3 false t32 t178 w fun t181 w =>
 If t181
 (Jn2 (fun k2 =>
 Dv P true (Instr.indexAt 23 t47 t32) w.drew fun t187 =>
 Dv P false (Instr.loadAt 30 t187) w.drew fun t188 =>
 Dv P true (Instr.indexAt 23 t52 t32) w.drew fun t191 =>
 Dv P false (Instr.loadAt 30 t191) w.drew fun t192 =>
 (Cl P 25 #[t188, t192] w.drew (Pk R) fun t193 w =>
 ExP t193 0 fun t194 =>
 ExP t193 1 fun t195 =>
 Al P 30 w fun t33 w =>
 Ke P (Instr.loadAt 30 t187) t188 w <|
 Ke P (Instr.loadAt 30 t191) t192 w <|
 Sto P 30 t33 t194 w fun w =>
 k2 t33 t195 w) ∧
 (Al P 30 w.drew fun t33x1 w =>
 Ke P (Instr.loadAt 30 t187) t188 w <|
 Ke P (Instr.loadAt 30 t191) t192 w <|
 Cl P 25 #[t188, t192] w (Pk R) fun t193x1 w =>
 ExP t193x1 0 fun t194x1 =>
 ExP t193x1 1 fun t195x1 =>
 Sto P 30 t33x1 t194x1 w fun w =>
 k2 t33x1 t195x1 w))
 (fun t33x2 t34 w =>
 Bn P .neq 31 true t34 (.int .i64 0) w fun t197 w =>
 If t197
 (R (.returned (.bool false)) w)
 (Ld P 30 t33x2 w fun t199 w =>
 Bs P 23 1 [(0, t199)] w fun t200 w =>
 Bt P .append #[23, 23] 23 #[t31, t200] w fun t201 w =>
 Bn P .add 3 true t32 (.int .i64 1) w fun t183 w =>
 k1 t201 t183 w)))
 (Jn2 (fun k3 =>
 Dv P true (Instr.sliceAt 23 t47 none (some t178) none) w.drew fun t205 =>
 Dv P true (Instr.sliceAt 23 t48 none (some t178) none) w.drew fun t208 =>
 (Cl P 14 #[t205, t208] w.drew (Pk R) fun t209 w =>
 ExP t209 0 fun t210 =>
 ExP t209 1 fun t211 =>
 ExP t209 2 fun t212 =>
 (Al P 30 w fun t35 w =>
 Al P 30 w fun t36 w =>
 Sto P 30 t35 t210 w fun w =>
 Sto P 30 t36 t211 w fun w =>
 k3 t212 t35 w) ∧
 (Al P 30 w fun t36x1 w =>
 Al P 30 w fun t35x1 w =>
 Sto P 30 t35x1 t210 w fun w =>
 Sto P 30 t36x1 t211 w fun w =>
 k3 t212 t35x1 w)) ∧
 ((Al P 30 w.drew fun t35x2 w =>
 (Cl P 14 #[t205, t208] w (Pk R) fun t209x1 w =>
 ExP t209x1 0 fun t210x1 =>
 ExP t209x1 1 fun t211x1 =>
 ExP t209x1 2 fun t212x1 =>
 Al P 30 w fun t36x2 w =>
 Sto P 30 t35x2 t210x1 w fun w =>
 Sto P 30 t36x2 t211x1 w fun w =>
 k3 t212x1 t35x2 w) ∧
 (Al P 30 w fun t36x3 w =>
 Cl P 14 #[t205, t208] w (Pk R) fun t209x2 w =>
 ExP t209x2 0 fun t210x2 =>
 ExP t209x2 1 fun t211x2 =>
 ExP t209x2 2 fun t212x2 =>
 Sto P 30 t35x2 t210x2 w fun w =>
 Sto P 30 t36x3 t211x2 w fun w =>
 k3 t212x2 t35x2 w)) ∧
 (Al P 30 w.drew fun t36x4 w =>
 (Cl P 14 #[t205, t208] w (Pk R) fun t209x3 w =>
 ExP t209x3 0 fun t210x3 =>
 ExP t209x3 1 fun t211x3 =>
 ExP t209x3 2 fun t212x3 =>
 Al P 30 w fun t35x3 w =>
 Sto P 30 t35x3 t210x3 w fun w =>
 Sto P 30 t36x4 t211x3 w fun w =>
 k3 t212x3 t35x3 w) ∧
 (Al P 30 w fun t35x4 w =>
 Cl P 14 #[t205, t208] w (Pk R) fun t209x4 w =>
 ExP t209x4 0 fun t210x4 =>
 ExP t209x4 1 fun t211x4 =>
 ExP t209x4 2 fun t212x4 =>
 Sto P 30 t35x4 t210x4 w fun w =>
 Sto P 30 t36x4 t211x4 w fun w =>
 k3 t212x4 t35x4 w))))
 (fun t11 t35x5 w =>
 Jn2 (fun k4 =>
 Dv P true (Instr.sliceAt 23 t52 none (some t178) none) w.drew fun t216 =>
 Dv P true (Instr.sliceAt 23 t48 none (some t178) none) w.drew fun t219 =>
 (Cl P 14 #[t216, t219] w.drew (Pk R) fun t220 w =>
 ExP t220 0 fun t221 =>
 ExP t220 1 fun t222 =>
 ExP t220 2 fun t223 =>
 (Al P 30 w fun t37 w =>
 Al P 30 w fun t38 w =>
 Sto P 30 t37 t221 w fun w =>
 Sto P 30 t38 t222 w fun w =>
 k4 t223 t37 w) ∧
 (Al P 30 w fun t38x1 w =>
 Al P 30 w fun t37x1 w =>
 Sto P 30 t37x1 t221 w fun w =>
 Sto P 30 t38x1 t222 w fun w =>
 k4 t223 t37x1 w)) ∧
 ((Al P 30 w.drew fun t37x2 w =>
 (Cl P 14 #[t216, t219] w (Pk R) fun t220x1 w =>
 ExP t220x1 0 fun t221x1 =>
 ExP t220x1 1 fun t222x1 =>
 ExP t220x1 2 fun t223x1 =>
 Al P 30 w fun t38x2 w =>
 Sto P 30 t37x2 t221x1 w fun w =>
 Sto P 30 t38x2 t222x1 w fun w =>
 k4 t223x1 t37x2 w) ∧
 (Al P 30 w fun t38x3 w =>
 Cl P 14 #[t216, t219] w (Pk R) fun t220x2 w =>
 ExP t220x2 0 fun t221x2 =>
 ExP t220x2 1 fun t222x2 =>
 ExP t220x2 2 fun t223x2 =>
 Sto P 30 t37x2 t221x2 w fun w =>
 Sto P 30 t38x3 t222x2 w fun w =>
 k4 t223x2 t37x2 w)) ∧
 (Al P 30 w.drew fun t38x4 w =>
 (Cl P 14 #[t216, t219] w (Pk R) fun t220x3 w =>
 ExP t220x3 0 fun t221x3 =>
 ExP t220x3 1 fun t222x3 =>
 ExP t220x3 2 fun t223x3 =>
 Al P 30 w fun t37x3 w =>
 Sto P 30 t37x3 t221x3 w fun w =>
 Sto P 30 t38x4 t222x3 w fun w =>
 k4 t223x3 t37x3 w) ∧
 (Al P 30 w fun t37x4 w =>
 Cl P 14 #[t216, t219] w (Pk R) fun t220x4 w =>
 ExP t220x4 0 fun t221x4 =>
 ExP t220x4 1 fun t222x4 =>
 ExP t220x4 2 fun t223x4 =>
 Sto P 30 t37x4 t221x4 w fun w =>
 Sto P 30 t38x4 t222x4 w fun w =>
 k4 t223x4 t37x4 w))))
 (fun t14 t37x5 w =>
 Sc P 23 t48 none (some t178) none w fun t228 w =>
 Cl P 14 #[t31, t228] w (Pk R) fun t229 w =>
 Ex t229 0 w fun t230 w =>
 Ex t229 1 w fun t231 w =>
 Ex t229 2 w fun t232 w =>
 Al P 30 w fun t39 w =>
 Al P 30 w fun t40 w =>
 Sto P 30 t39 t230 w fun w =>
 Sto P 30 t40 t231 w fun w =>
 Ld P 30 t35x5 w fun t234 w =>
 Ld P 30 t37x5 w fun t235 w =>
 Cl P 25 #[t234, t235] w (Pk R) fun t236 w =>
 Ex t236 0 w fun t237 w =>
 Ex t236 1 w fun t238 w =>
 Al P 30 w fun t41 w =>
 Sto P 30 t41 t237 w fun w =>
 Bn P .eql 31 true t11 (.int .i64 0) w fun t240 w =>
 Gd t240 true (fun k => k t14 w) w fun t242 w =>
 Gd t240 true (fun k => Bn P .eql 31 true t242 (.int .i64 0) w k) w fun t243 w =>
 Pick t240 t243 (.bool false) w fun t244 w =>
 Gd t244 true (fun k => k t232 w) w fun t246 w =>
 Gd t244 true (fun k => Bn P .eql 31 true t246 (.int .i64 0) w k) w fun t247 w =>
 Pick t244 t247 (.bool false) w fun t248 w =>
 Gd t248 true (fun k => k t238 w) w fun t250 w =>
 Gd t248 true (fun k => Bn P .eql 31 true t250 (.int .i64 0) w k) w fun t251 w =>
 Pick t248 t251 (.bool false) w fun t252 w =>
 Gd t252 true (fun k => Ld P 30 t41 w k) w fun t254 w =>
 Gd t252 true (fun k => Ld P 30 t39 w k) w fun t255 w =>
 Gd t252 true (fun k => Bn P .eql 30 false t254 t255 w k) w fun t256 w =>
 Pick t252 t256 (.bool false) w fun t257 w =>
 R (.returned t257) w)))))))
theorem e_law16_EstimateAdds {t0 t1 : Value} {w : World} {R : Ending → World → Prop} (h : s_law16_EstimateAdds Tryz.prog t0 t1 w R) : Calls Tryz.prog 7 #[t0, t1] w R :=
 enter (h := (.sq .z (.sq (.sq .z (.cd (.sq .z .z) .z)) (.sq .z (.sq .z (.sq .z (.sq .z (.sq .z (.sq .z (.sq .z (.sq .z (.sq (.sq .z (.cd (.sq .z .z) .z)) (.sq .z (.sq .z (.sq .z (.sq (.sq .z (.cd (.sq .z .z) .z)) (.sq .z (.sq .z (.sq (.sq .z (.bk (.lp [31, 32] [4, 33, 34, 179, 180, 181, 182, 183, 184, 185, 186, 187, 188, 189, 190, 191, 192, 193, 194, 195, 196, 197, 198, 199, 200, 201] (.sq (.sq .z (.cd .z .z)) (.sq (.bk (.jn [33, 34] [184, 185, 186, 187, 188, 189, 190, 191, 192, 193, 194, 195] (.dr (.pur true 0 (.pur true 1 (.pur true 2 (.pur false 3 (.pur true 4 (.pur true 5 (.pur true 6 (.pur false 7 (.alt (.eff 8 [] (.pur true 9 (.pur true 10 (.pur true 11 (.eff 12 [3, 7] (.eff 13 [] (.pur true 14 .done))))))) (.eff 12 [3, 7] (.eff 8 [] (.pur true 9 (.pur true 10 (.pur true 11 (.eff 13 [] (.pur true 14 .done))))))))))))))))) (.sq (.sq .z (.cd (.sq .z .z) .z)) .z))) .z))))) (.jn [11, 35] [36, 202, 203, 204, 205, 206, 207, 208, 209, 210, 211, 212] (.dr (.pur true 0 (.pur true 1 (.pur true 2 (.pur true 3 (.pur true 4 (.pur true 5 (.alt (.eff 6 [] (.pur true 7 (.pur true 8 (.pur true 9 (.pur true 10 (.alt (.eff 11 [] (.eff 12 [] (.eff 13 [] (.eff 14 [] (.pur true 15 .done))))) (.eff 12 [] (.eff 11 [] (.eff 13 [] (.eff 14 [] (.pur true 15 .done))))))))))) (.alt (.eff 11 [] (.alt (.eff 6 [] (.pur true 7 (.pur true 8 (.pur true 9 (.pur true 10 (.eff 12 [] (.eff 13 [] (.eff 14 [] (.pur true 15 .done))))))))) (.eff 12 [] (.eff 6 [] (.pur true 7 (.pur true 8 (.pur true 9 (.pur true 10 (.eff 13 [] (.eff 14 [] (.pur true 15 .done))))))))))) (.eff 12 [] (.alt (.eff 6 [] (.pur true 7 (.pur true 8 (.pur true 9 (.pur true 10 (.eff 11 [] (.eff 13 [] (.eff 14 [] (.pur true 15 .done))))))))) (.eff 11 [] (.eff 6 [] (.pur true 7 (.pur true 8 (.pur true 9 (.pur true 10 (.eff 13 [] (.eff 14 [] (.pur true 15 .done)))))))))))))))))))) (.jn [14, 37] [38, 213, 214, 215, 216, 217, 218, 219, 220, 221, 222, 223] (.dr (.pur true 0 (.pur true 1 (.pur true 2 (.pur true 3 (.pur true 4 (.pur true 5 (.alt (.eff 6 [] (.pur true 7 (.pur true 8 (.pur true 9 (.pur true 10 (.alt (.eff 11 [] (.eff 12 [] (.eff 13 [] (.eff 14 [] (.pur true 15 .done))))) (.eff 12 [] (.eff 11 [] (.eff 13 [] (.eff 14 [] (.pur true 15 .done))))))))))) (.alt (.eff 11 [] (.alt (.eff 6 [] (.pur true 7 (.pur true 8 (.pur true 9 (.pur true 10 (.eff 12 [] (.eff 13 [] (.eff 14 [] (.pur true 15 .done))))))))) (.eff 12 [] (.eff 6 [] (.pur true 7 (.pur true 8 (.pur true 9 (.pur true 10 (.eff 13 [] (.eff 14 [] (.pur true 15 .done))))))))))) (.eff 12 [] (.alt (.eff 6 [] (.pur true 7 (.pur true 8 (.pur true 9 (.pur true 10 (.eff 11 [] (.eff 13 [] (.eff 14 [] (.pur true 15 .done))))))))) (.eff 11 [] (.eff 6 [] (.pur true 7 (.pur true 8 (.pur true 9 (.pur true 10 (.eff 13 [] (.eff 14 [] (.pur true 15 .done)))))))))))))))))))) (.sq .z (.sq .z (.sq .z .z)))))))))))))))))))))))) (args := [t0, t1]) Tryz.func7 (by kernel_rfl) (by kernel_rfl) (by kernel_rfl) (Eq.mp (by kernel_rfl) h)
end Go.Proofs.YtnocjgmmglmfiaaGreatDoor
