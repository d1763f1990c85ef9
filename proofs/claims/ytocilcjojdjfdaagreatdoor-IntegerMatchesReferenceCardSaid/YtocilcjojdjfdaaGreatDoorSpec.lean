/-
  The formulas of the program's functions, printed by a program of ours, each proved by the kernel. By an AI agent.
-/
import Derived.Test.YtocilcjojdjfdaaGreatDoorEng
import Derived.Test.YtocilcjojdjfdaaGreatDoorProg
set_option linter.unusedSimpArgs false
set_option linter.unusedVariables false
namespace Go.Proofs.YtocilcjojdjfdaaGreatDoor
open Go Go.Eng Go.Shelf
set_option maxRecDepth 100000
set_option linter.unusedVariables false
def s_law03_IntegerRing (P : Program) (t0 t1 t2 : Value) (w : World) (R : Ending → World → Prop) : Prop :=
  Cl P 12 #[] w (Pk R) fun t46 w =>
  Cl P 13 #[t0, (.int .i64 60)] w (Pk R) fun t48 w =>
  Cl P 13 #[t1, (.int .i64 60)] w (Pk R) fun t50 w =>
  Cl P 13 #[t2, (.int .i64 60)] w (Pk R) fun t52 w =>
  Cl P 14 #[t48, t50] w (Pk R) fun t56 w =>
  Ex t56 0 w fun t57 w =>
  Ex t56 1 w fun t58 w =>
  Cl P 14 #[t50, t48] w (Pk R) fun t62 w =>
  Ex t62 0 w fun t63 w =>
  Ex t62 1 w fun t64 w =>
  Cl P 14 #[t57, t52] w (Pk R) fun t68 w =>
  Ex t68 0 w fun t69 w =>
  Ex t68 1 w fun t70 w =>
  Cl P 14 #[t50, t52] w (Pk R) fun t74 w =>
  Ex t74 0 w fun t75 w =>
  Ex t74 1 w fun t76 w =>
  Cl P 14 #[t48, t75] w (Pk R) fun t80 w =>
  Ex t80 0 w fun t81 w =>
  Ex t80 1 w fun t82 w =>
  Cl P 15 #[t48, t50] w (Pk R) fun t86 w =>
  Ex t86 0 w fun t87 w =>
  Ex t86 1 w fun t88 w =>
  Cl P 15 #[t50, t48] w (Pk R) fun t92 w =>
  Ex t92 0 w fun t93 w =>
  Ex t92 1 w fun t94 w =>
  Cl P 15 #[t87, t52] w (Pk R) fun t98 w =>
  Ex t98 0 w fun t99 w =>
  Ex t98 1 w fun t100 w =>
  Cl P 15 #[t50, t52] w (Pk R) fun t104 w =>
  Ex t104 0 w fun t105 w =>
  Ex t104 1 w fun t106 w =>
  Cl P 15 #[t48, t105] w (Pk R) fun t110 w =>
  Ex t110 0 w fun t111 w =>
  Ex t110 1 w fun t112 w =>
  Cl P 15 #[t57, t52] w (Pk R) fun t116 w =>
  Ex t116 0 w fun t117 w =>
  Ex t116 1 w fun t118 w =>
  Cl P 15 #[t48, t52] w (Pk R) fun t122 w =>
  Ex t122 0 w fun t123 w =>
  Ex t122 1 w fun t124 w =>
  Cl P 14 #[t123, t105] w (Pk R) fun t128 w =>
  Ex t128 0 w fun t129 w =>
  Ex t128 1 w fun t130 w =>
  Cl P 16 #[t48, t50] w (Pk R) fun t134 w =>
  Ex t134 0 w fun t135 w =>
  Ex t134 1 w fun t136 w =>
  Cl P 14 #[t135, t50] w (Pk R) fun t140 w =>
  Ex t140 0 w fun t141 w =>
  Ex t140 1 w fun t142 w =>
  Cl P 15 #[t48, (str [49])] w (Pk R) fun t145 w =>
  Ex t145 0 w fun t146 w =>
  Ex t145 1 w fun t147 w =>
  Cl P 15 #[t48, (str [48])] w (Pk R) fun t150 w =>
  Ex t150 0 w fun t151 w =>
  Ex t150 1 w fun t152 w =>
  Bn P .eql 24 true t58 (.int .i64 0) w fun t154 w =>
  Gd t154 true (fun k => k t64 w) w fun t156 w =>
  Gd t154 true (fun k => Bn P .eql 24 true t156 (.int .i64 0) w k) w fun t157 w =>
  Pick t154 t157 (.bool false) w fun t158 w =>
  Gd t158 true (fun k => k t70 w) w fun t160 w =>
  Gd t158 true (fun k => Bn P .eql 24 true t160 (.int .i64 0) w k) w fun t161 w =>
  Pick t158 t161 (.bool false) w fun t162 w =>
  Gd t162 true (fun k => k t76 w) w fun t164 w =>
  Gd t162 true (fun k => Bn P .eql 24 true t164 (.int .i64 0) w k) w fun t165 w =>
  Pick t162 t165 (.bool false) w fun t166 w =>
  Gd t166 true (fun k => k t82 w) w fun t168 w =>
  Gd t166 true (fun k => Bn P .eql 24 true t168 (.int .i64 0) w k) w fun t169 w =>
  Pick t166 t169 (.bool false) w fun t170 w =>
  Gd t170 true (fun k => k t88 w) w fun t172 w =>
  Gd t170 true (fun k => Bn P .eql 24 true t172 (.int .i64 0) w k) w fun t173 w =>
  Pick t170 t173 (.bool false) w fun t174 w =>
  Gd t174 true (fun k => k t94 w) w fun t176 w =>
  Gd t174 true (fun k => Bn P .eql 24 true t176 (.int .i64 0) w k) w fun t177 w =>
  Pick t174 t177 (.bool false) w fun t178 w =>
  Gd t178 true (fun k => k t100 w) w fun t180 w =>
  Gd t178 true (fun k => Bn P .eql 24 true t180 (.int .i64 0) w k) w fun t181 w =>
  Pick t178 t181 (.bool false) w fun t182 w =>
  Gd t182 true (fun k => k t106 w) w fun t184 w =>
  Gd t182 true (fun k => Bn P .eql 24 true t184 (.int .i64 0) w k) w fun t185 w =>
  Pick t182 t185 (.bool false) w fun t186 w =>
  Gd t186 true (fun k => k t112 w) w fun t188 w =>
  Gd t186 true (fun k => Bn P .eql 24 true t188 (.int .i64 0) w k) w fun t189 w =>
  Pick t186 t189 (.bool false) w fun t190 w =>
  Gd t190 true (fun k => k t118 w) w fun t192 w =>
  Gd t190 true (fun k => Bn P .eql 24 true t192 (.int .i64 0) w k) w fun t193 w =>
  Pick t190 t193 (.bool false) w fun t194 w =>
  Gd t194 true (fun k => k t124 w) w fun t196 w =>
  Gd t194 true (fun k => Bn P .eql 24 true t196 (.int .i64 0) w k) w fun t197 w =>
  Pick t194 t197 (.bool false) w fun t198 w =>
  Gd t198 true (fun k => k t130 w) w fun t200 w =>
  Gd t198 true (fun k => Bn P .eql 24 true t200 (.int .i64 0) w k) w fun t201 w =>
  Pick t198 t201 (.bool false) w fun t202 w =>
  Gd t202 true (fun k => k t136 w) w fun t204 w =>
  Gd t202 true (fun k => Bn P .eql 24 true t204 (.int .i64 0) w k) w fun t205 w =>
  Pick t202 t205 (.bool false) w fun t206 w =>
  Gd t206 true (fun k => k t142 w) w fun t208 w =>
  Gd t206 true (fun k => Bn P .eql 24 true t208 (.int .i64 0) w k) w fun t209 w =>
  Pick t206 t209 (.bool false) w fun t210 w =>
  Gd t210 true (fun k => k t147 w) w fun t212 w =>
  Gd t210 true (fun k => Bn P .eql 24 true t212 (.int .i64 0) w k) w fun t213 w =>
  Pick t210 t213 (.bool false) w fun t214 w =>
  Gd t214 true (fun k => k t152 w) w fun t216 w =>
  Gd t214 true (fun k => Bn P .eql 24 true t216 (.int .i64 0) w k) w fun t217 w =>
  Pick t214 t217 (.bool false) w fun t218 w =>
  Gd t46 true (fun k => k t218 w) w fun t221 w =>
  Pick t46 t221 (.bool false) w fun t222 w =>
  Gd t222 true (fun k => k t57 w) w fun t224 w =>
  Gd t222 true (fun k => k t63 w) w fun t225 w =>
  Gd t222 true (fun k => Bn P .eql 9 false t224 t225 w k) w fun t226 w =>
  Pick t222 t226 (.bool false) w fun t227 w =>
  Gd t227 true (fun k => k t69 w) w fun t229 w =>
  Gd t227 true (fun k => k t81 w) w fun t230 w =>
  Gd t227 true (fun k => Bn P .eql 9 false t229 t230 w k) w fun t231 w =>
  Pick t227 t231 (.bool false) w fun t232 w =>
  Gd t232 true (fun k => k t87 w) w fun t234 w =>
  Gd t232 true (fun k => k t93 w) w fun t235 w =>
  Gd t232 true (fun k => Bn P .eql 9 false t234 t235 w k) w fun t236 w =>
  Pick t232 t236 (.bool false) w fun t237 w =>
  Gd t237 true (fun k => k t99 w) w fun t239 w =>
  Gd t237 true (fun k => k t111 w) w fun t240 w =>
  Gd t237 true (fun k => Bn P .eql 9 false t239 t240 w k) w fun t241 w =>
  Pick t237 t241 (.bool false) w fun t242 w =>
  Gd t242 true (fun k => k t117 w) w fun t244 w =>
  Gd t242 true (fun k => k t129 w) w fun t245 w =>
  Gd t242 true (fun k => Bn P .eql 9 false t244 t245 w k) w fun t246 w =>
  Pick t242 t246 (.bool false) w fun t247 w =>
  Gd t247 true (fun k => k t141 w) w fun t249 w =>
  Gd t247 true (fun k => k t48 w) w fun t250 w =>
  Gd t247 true (fun k => Bn P .eql 9 false t249 t250 w k) w fun t251 w =>
  Pick t247 t251 (.bool false) w fun t252 w =>
  Gd t252 true (fun k => k t146 w) w fun t254 w =>
  Gd t252 true (fun k => k t48 w) w fun t255 w =>
  Gd t252 true (fun k => Bn P .eql 9 false t254 t255 w k) w fun t256 w =>
  Pick t252 t256 (.bool false) w fun t257 w =>
  Gd t257 true (fun k => k t151 w) w fun t259 w =>
  Gd t257 true (fun k => Bn P .eql 9 true t259 (str [48]) w k) w fun t260 w =>
  Pick t257 t260 (.bool false) w fun t261 w =>
  R (.returned t261) w
theorem e_law03_IntegerRing {t0 t1 t2 : Value} {w : World} {R : Ending → World → Prop} (h : s_law03_IntegerRing Tryz.prog t0 t1 t2 w R) : Calls Tryz.prog 3 #[t0, t1, t2] w R :=
  enter (h := (.sq .z (.sq .z (.sq .z (.sq .z (.sq .z (.sq .z (.sq .z (.sq .z (.sq .z (.sq .z (.sq .z (.sq .z (.sq .z (.sq .z (.sq .z (.sq .z (.sq .z (.sq .z (.sq .z (.sq .z (.sq .z (.sq .z (.sq .z (.sq .z .z))))))))))))))))))))))))) (args := [t0, t1, t2]) Tryz.func3 (by kernel_rfl) (by kernel_rfl) (by kernel_rfl) (Eq.mp (by kernel_rfl) h)
theorem n_law03_IntegerRing : Enters Tryz.prog 3 := enters_of Tryz.func3 (by kernel_rfl) rfl
def s_law03_IntegerDivided (P : Program) (t0 t1 : Value) (w : World) (R : Ending → World → Prop) : Prop :=
  Cl P 12 #[] w (Pk R) fun t22 w =>
  Cl P 13 #[t0, (.int .i64 90)] w (Pk R) fun t24 w =>
  Cl P 13 #[t1, (.int .i64 60)] w (Pk R) fun t26 w =>
  Cl P 17 #[t24, t26] w (Pk R) fun t30 w =>
  Ex t30 0 w fun t31 w =>
  Ex t30 1 w fun t32 w =>
  Ex t30 2 w fun t33 w =>
  Bn P .eql 9 true t26 (str [48]) w fun t35 w =>
  If t35
  (Gd t22 true (fun k => k t33 w) w fun t38 w =>
  Gd t22 true (fun k => Bn P .eql 24 true t38 (.int .i64 30) w k) w fun t39 w =>
  Pick t22 t39 (.bool false) w fun t40 w =>
  R (.returned t40) w)
  (Cl P 15 #[t31, t26] w (Pk R) fun t44 w =>
  Ex t44 0 w fun t45 w =>
  Ex t44 1 w fun t46 w =>
  Cl P 14 #[t45, t32] w (Pk R) fun t50 w =>
  Ex t50 0 w fun t51 w =>
  Ex t50 1 w fun t52 w =>
  Cl P 15 #[t26, (str [49])] w (Pk R) fun t55 w =>
  Ex t55 0 w fun t56 w =>
  Ex t55 1 w fun t57 w =>
  Jn2 (fun k1 =>
  Cl P 18 #[t26, (str [48])] w (Pk R) fun t59 w =>
  Bn P .lss 3 true t59 (.int .i64 0) w fun t60 w =>
  If t60
  (Cl P 16 #[(str [48]), t26] w (Pk R) fun t63 w =>
  Ex t63 0 w fun t64 w =>
  Ex t63 1 w fun t65 w =>
  k1 t64 t65 w)
  (k1 t56 t57 w))
  (fun t15 t16 w =>
  Cl P 15 #[t24, t26] w (Pk R) fun t69 w =>
  Ex t69 0 w fun t70 w =>
  Ex t69 1 w fun t71 w =>
  Cl P 17 #[t70, t26] w (Pk R) fun t75 w =>
  Ex t75 0 w fun t76 w =>
  Ex t75 1 w fun t77 w =>
  Ex t75 2 w fun t78 w =>
  Gd t22 true (fun k => k t33 w) w fun t81 w =>
  Gd t22 true (fun k => Bn P .eql 24 true t81 (.int .i64 0) w k) w fun t82 w =>
  Pick t22 t82 (.bool false) w fun t83 w =>
  Gd t83 true (fun k => k t46 w) w fun t85 w =>
  Gd t83 true (fun k => Bn P .eql 24 true t85 (.int .i64 0) w k) w fun t86 w =>
  Pick t83 t86 (.bool false) w fun t87 w =>
  Gd t87 true (fun k => k t52 w) w fun t89 w =>
  Gd t87 true (fun k => Bn P .eql 24 true t89 (.int .i64 0) w k) w fun t90 w =>
  Pick t87 t90 (.bool false) w fun t91 w =>
  Gd t91 true (fun k => k t16 w) w fun t93 w =>
  Gd t91 true (fun k => Bn P .eql 24 true t93 (.int .i64 0) w k) w fun t94 w =>
  Pick t91 t94 (.bool false) w fun t95 w =>
  Gd t95 true (fun k => k t51 w) w fun t97 w =>
  Gd t95 true (fun k => k t24 w) w fun t98 w =>
  Gd t95 true (fun k => Bn P .eql 9 false t97 t98 w k) w fun t99 w =>
  Pick t95 t99 (.bool false) w fun t100 w =>
  Gd t100 true (fun k => k t32 w) w fun t102 w =>
  Gd t100 true (fun k => Cl P 18 #[t102, (str [48])] w (Pk R) k) w fun t103 w =>
  Gd t100 true (fun k => Bn P .geq 3 true t103 (.int .i64 0) w k) w fun t104 w =>
  Pick t100 t104 (.bool false) w fun t105 w =>
  Gd t105 true (fun k => k t32 w) w fun t107 w =>
  Gd t105 true (fun k => k t15 w) w fun t108 w =>
  Gd t105 true (fun k => Cl P 18 #[t107, t108] w (Pk R) k) w fun t109 w =>
  Gd t105 true (fun k => Bn P .lss 3 true t109 (.int .i64 0) w k) w fun t110 w =>
  Pick t105 t110 (.bool false) w fun t111 w =>
  Gd t111 true (fun k => k t32 w) w fun t113 w =>
  Gd t111 true (fun k => Cl P 19 #[t113] w (Pk R) k) w fun t114 w =>
  Pick t111 t114 (.bool false) w fun t115 w =>
  Gd t115 true (fun k => k t71 w) w fun t117 w =>
  Gd t115 true (fun k => Bn P .eql 24 true t117 (.int .i64 0) w k) w fun t118 w =>
  Pick t115 t118 (.bool false) w fun t119 w =>
  Gd t119 true (fun k => k t78 w) w fun t121 w =>
  Gd t119 true (fun k => Bn P .eql 24 true t121 (.int .i64 0) w k) w fun t122 w =>
  Pick t119 t122 (.bool false) w fun t123 w =>
  Gd t123 true (fun k => k t76 w) w fun t125 w =>
  Gd t123 true (fun k => k t24 w) w fun t126 w =>
  Gd t123 true (fun k => Bn P .eql 9 false t125 t126 w k) w fun t127 w =>
  Pick t123 t127 (.bool false) w fun t128 w =>
  Gd t128 true (fun k => k t77 w) w fun t130 w =>
  Gd t128 true (fun k => Bn P .eql 9 true t130 (str [48]) w k) w fun t131 w =>
  Pick t128 t131 (.bool false) w fun t132 w =>
  R (.returned t132) w))
theorem e_law03_IntegerDivided {t0 t1 : Value} {w : World} {R : Ending → World → Prop} (h : s_law03_IntegerDivided Tryz.prog t0 t1 w R) : Calls Tryz.prog 4 #[t0, t1] w R :=
  enter (h := (.sq .z (.sq .z (.sq .z (.sq .z (.sq .z (.sq (.sq .z (.cd (.sq .z .z) .z)) (.sq .z (.sq .z (.sq .z (.jn [15, 16] [58, 59, 60, 61, 62, 63, 64, 65] (.sq .z (.cd .z .z)) (.sq .z (.sq .z (.sq .z .z)))))))))))))) (args := [t0, t1]) Tryz.func4 (by kernel_rfl) (by kernel_rfl) (by kernel_rfl) (Eq.mp (by kernel_rfl) h)
theorem n_law03_IntegerDivided : Enters Tryz.prog 4 := enters_of Tryz.func4 (by kernel_rfl) rfl
def s_law03_IntegerCommon (P : Program) (t0 t1 t2 : Value) (w : World) (R : Ending → World → Prop) : Prop :=
  Cl P 12 #[] w (Pk R) fun t32 w =>
  Cl P 13 #[t0, (.int .i64 40)] w (Pk R) fun t34 w =>
  Cl P 13 #[t1, (.int .i64 40)] w (Pk R) fun t36 w =>
  Cl P 13 #[t2, (.int .i64 40)] w (Pk R) fun t38 w =>
  Cl P 20 #[t34, t36] w (Pk R) fun t42 w =>
  Ex t42 0 w fun t43 w =>
  Ex t42 1 w fun t44 w =>
  Cl P 20 #[t36, t34] w (Pk R) fun t48 w =>
  Ex t48 0 w fun t49 w =>
  Ex t48 1 w fun t50 w =>
  Bn P .neq 24 true t44 (.int .i64 0) w fun t52 w =>
  Gd t52 false (fun k => k t50 w) w fun t54 w =>
  Gd t52 false (fun k => Bn P .neq 24 true t54 (.int .i64 0) w k) w fun t55 w =>
  Pick t52 (.bool true) t55 w fun t56 w =>
  Gd t56 false (fun k => k t43 w) w fun t58 w =>
  Gd t56 false (fun k => k t49 w) w fun t59 w =>
  Gd t56 false (fun k => Bn P .neq 9 false t58 t59 w k) w fun t60 w =>
  Pick t56 (.bool true) t60 w fun t61 w =>
  Gd t61 false (fun k => k t43 w) w fun t63 w =>
  Gd t61 false (fun k => Cl P 18 #[t63, (str [48])] w (Pk R) k) w fun t64 w =>
  Gd t61 false (fun k => Bn P .lss 3 true t64 (.int .i64 0) w k) w fun t65 w =>
  Pick t61 (.bool true) t65 w fun t66 w =>
  If t66
  (R (.returned (.bool false)) w)
  (Bn P .eql 9 true t34 (str [48]) w fun t68 w =>
  Gd t68 true (fun k => k t36 w) w fun t70 w =>
  Gd t68 true (fun k => Bn P .eql 9 true t70 (str [48]) w k) w fun t71 w =>
  Pick t68 t71 (.bool false) w fun t72 w =>
  If t72
  (Gd t32 true (fun k => k t43 w) w fun t75 w =>
  Gd t32 true (fun k => Bn P .eql 9 true t75 (str [48]) w k) w fun t76 w =>
  Pick t32 t76 (.bool false) w fun t77 w =>
  R (.returned t77) w)
  (Cl P 17 #[t34, t43] w (Pk R) fun t81 w =>
  Ex t81 0 w fun t82 w =>
  Ex t81 1 w fun t83 w =>
  Ex t81 2 w fun t84 w =>
  Cl P 17 #[t36, t43] w (Pk R) fun t88 w =>
  Ex t88 0 w fun t89 w =>
  Ex t88 1 w fun t90 w =>
  Ex t88 2 w fun t91 w =>
  Cl P 20 #[t82, t89] w (Pk R) fun t95 w =>
  Ex t95 0 w fun t96 w =>
  Ex t95 1 w fun t97 w =>
  Cl P 15 #[t34, t38] w (Pk R) fun t101 w =>
  Ex t101 0 w fun t102 w =>
  Ex t101 1 w fun t103 w =>
  Cl P 15 #[t36, t38] w (Pk R) fun t107 w =>
  Ex t107 0 w fun t108 w =>
  Ex t107 1 w fun t109 w =>
  Cl P 20 #[t102, t108] w (Pk R) fun t113 w =>
  Ex t113 0 w fun t114 w =>
  Ex t113 1 w fun t115 w =>
  Cl P 15 #[t43, t38] w (Pk R) fun t119 w =>
  Ex t119 0 w fun t120 w =>
  Ex t119 1 w fun t121 w =>
  Jn2 (fun k1 =>
  Cl P 18 #[t120, (str [48])] w (Pk R) fun t123 w =>
  Bn P .lss 3 true t123 (.int .i64 0) w fun t124 w =>
  If t124
  (Cl P 16 #[(str [48]), t120] w (Pk R) fun t127 w =>
  Ex t127 0 w fun t128 w =>
  Ex t127 1 w fun t129 w =>
  k1 t128 t129 w)
  (k1 t120 t121 w))
  (fun t29 t30 w =>
  Bn P .eql 24 true t84 (.int .i64 0) w fun t131 w =>
  Gd t131 true (fun k => k t91 w) w fun t133 w =>
  Gd t131 true (fun k => Bn P .eql 24 true t133 (.int .i64 0) w k) w fun t134 w =>
  Pick t131 t134 (.bool false) w fun t135 w =>
  Gd t135 true (fun k => k t97 w) w fun t137 w =>
  Gd t135 true (fun k => Bn P .eql 24 true t137 (.int .i64 0) w k) w fun t138 w =>
  Pick t135 t138 (.bool false) w fun t139 w =>
  Gd t139 true (fun k => k t103 w) w fun t141 w =>
  Gd t139 true (fun k => Bn P .eql 24 true t141 (.int .i64 0) w k) w fun t142 w =>
  Pick t139 t142 (.bool false) w fun t143 w =>
  Gd t143 true (fun k => k t109 w) w fun t145 w =>
  Gd t143 true (fun k => Bn P .eql 24 true t145 (.int .i64 0) w k) w fun t146 w =>
  Pick t143 t146 (.bool false) w fun t147 w =>
  Gd t147 true (fun k => k t115 w) w fun t149 w =>
  Gd t147 true (fun k => Bn P .eql 24 true t149 (.int .i64 0) w k) w fun t150 w =>
  Pick t147 t150 (.bool false) w fun t151 w =>
  Gd t151 true (fun k => k t30 w) w fun t153 w =>
  Gd t151 true (fun k => Bn P .eql 24 true t153 (.int .i64 0) w k) w fun t154 w =>
  Pick t151 t154 (.bool false) w fun t155 w =>
  Gd t32 true (fun k => k t155 w) w fun t158 w =>
  Pick t32 t158 (.bool false) w fun t159 w =>
  Gd t159 true (fun k => k t83 w) w fun t161 w =>
  Gd t159 true (fun k => Bn P .eql 9 true t161 (str [48]) w k) w fun t162 w =>
  Pick t159 t162 (.bool false) w fun t163 w =>
  Gd t163 true (fun k => k t90 w) w fun t165 w =>
  Gd t163 true (fun k => Bn P .eql 9 true t165 (str [48]) w k) w fun t166 w =>
  Pick t163 t166 (.bool false) w fun t167 w =>
  Gd t167 true (fun k => k t96 w) w fun t169 w =>
  Gd t167 true (fun k => Bn P .eql 9 true t169 (str [49]) w k) w fun t170 w =>
  Pick t167 t170 (.bool false) w fun t171 w =>
  Gd t171 true (fun k => k t114 w) w fun t173 w =>
  Gd t171 true (fun k => k t29 w) w fun t174 w =>
  Gd t171 true (fun k => Bn P .eql 9 false t173 t174 w k) w fun t175 w =>
  Pick t171 t175 (.bool false) w fun t176 w =>
  R (.returned t176) w)))
theorem e_law03_IntegerCommon {t0 t1 t2 : Value} {w : World} {R : Ending → World → Prop} (h : s_law03_IntegerCommon Tryz.prog t0 t1 t2 w R) : Calls Tryz.prog 5 #[t0, t1, t2] w R :=
  enter (h := (.sq .z (.sq .z (.sq .z (.sq .z (.sq .z (.sq .z (.sq .z (.sq (.sq .z (.cd (.sq .z .z) .z)) (.sq (.sq .z (.cd (.sq .z .z) .z)) (.sq .z (.sq .z (.sq .z (.sq .z (.sq .z (.sq .z (.sq .z (.jn [29, 30] [122, 123, 124, 125, 126, 127, 128, 129] (.sq .z (.cd .z .z)) (.sq .z (.sq .z .z)))))))))))))))))))) (args := [t0, t1, t2]) Tryz.func5 (by kernel_rfl) (by kernel_rfl) (by kernel_rfl) (Eq.mp (by kernel_rfl) h)
theorem n_law03_IntegerCommon : Enters Tryz.prog 5 := enters_of Tryz.func5 (by kernel_rfl) rfl
def s_law03_IntegerRoot (P : Program) (t0 : Value) (w : World) (R : Ending → World → Prop) : Prop :=
  Cl P 12 #[] w (Pk R) fun t19 w =>
  Cl P 13 #[t0, (.int .i64 80)] w (Pk R) fun t21 w =>
  Cl P 21 #[t21] w (Pk R) fun t24 w =>
  Ex t24 0 w fun t25 w =>
  Ex t24 1 w fun t26 w =>
  Cl P 15 #[t21, t21] w (Pk R) fun t30 w =>
  Ex t30 0 w fun t31 w =>
  Ex t30 1 w fun t32 w =>
  Cl P 21 #[t31] w (Pk R) fun t35 w =>
  Ex t35 0 w fun t36 w =>
  Ex t35 1 w fun t37 w =>
  Cl P 14 #[t36, t21] w (Pk R) fun t41 w =>
  Ex t41 0 w fun t42 w =>
  Ex t41 1 w fun t43 w =>
  Bn P .neq 24 true t32 (.int .i64 0) w fun t45 w =>
  Gd t45 false (fun k => k t37 w) w fun t47 w =>
  Gd t45 false (fun k => Bn P .neq 24 true t47 (.int .i64 0) w k) w fun t48 w =>
  Pick t45 (.bool true) t48 w fun t49 w =>
  Gd t49 false (fun k => k t43 w) w fun t51 w =>
  Gd t49 false (fun k => Bn P .neq 24 true t51 (.int .i64 0) w k) w fun t52 w =>
  Pick t49 (.bool true) t52 w fun t53 w =>
  Gd t53 false (fun k => k t36 w) w fun t55 w =>
  Gd t53 false (fun k => k t21 w) w fun t56 w =>
  Gd t53 false (fun k => Bn P .neq 9 false t55 t56 w k) w fun t57 w =>
  Gd t53 false (fun k => k t57 w) w fun t58 w =>
  Gd t58 true (fun k => k t42 w) w fun t59 w =>
  Gd t58 true (fun k => Bn P .neq 9 true t59 (str [48]) w k) w fun t60 w =>
  Gd t53 false (fun k => Pick t58 t60 (.bool false) w k) w fun t61 w =>
  Pick t53 (.bool true) t61 w fun t62 w =>
  If t62
  (R (.returned (.bool false)) w)
  (Cl P 18 #[t21, (str [48])] w (Pk R) fun t64 w =>
  Bn P .lss 3 true t64 (.int .i64 0) w fun t65 w =>
  If t65
  (Gd t19 true (fun k => k t26 w) w fun t68 w =>
  Gd t19 true (fun k => Bn P .eql 24 true t68 (.int .i64 30) w k) w fun t69 w =>
  Pick t19 t69 (.bool false) w fun t70 w =>
  Gd t70 true (fun k => k t25 w) w fun t72 w =>
  Gd t70 true (fun k => Bn P .eql 9 true t72 (str []) w k) w fun t73 w =>
  Pick t70 t73 (.bool false) w fun t74 w =>
  R (.returned t74) w)
  (Cl P 15 #[t25, t25] w (Pk R) fun t78 w =>
  Ex t78 0 w fun t79 w =>
  Ex t78 1 w fun t80 w =>
  Cl P 14 #[t25, (str [49])] w (Pk R) fun t83 w =>
  Ex t83 0 w fun t84 w =>
  Ex t83 1 w fun t85 w =>
  Cl P 15 #[t84, t84] w (Pk R) fun t89 w =>
  Ex t89 0 w fun t90 w =>
  Ex t89 1 w fun t91 w =>
  Gd t19 true (fun k => k t26 w) w fun t94 w =>
  Gd t19 true (fun k => Bn P .eql 24 true t94 (.int .i64 0) w k) w fun t95 w =>
  Pick t19 t95 (.bool false) w fun t96 w =>
  Gd t96 true (fun k => k t80 w) w fun t98 w =>
  Gd t96 true (fun k => Bn P .eql 24 true t98 (.int .i64 0) w k) w fun t99 w =>
  Pick t96 t99 (.bool false) w fun t100 w =>
  Gd t100 true (fun k => k t85 w) w fun t102 w =>
  Gd t100 true (fun k => Bn P .eql 24 true t102 (.int .i64 0) w k) w fun t103 w =>
  Pick t100 t103 (.bool false) w fun t104 w =>
  Gd t104 true (fun k => k t91 w) w fun t106 w =>
  Gd t104 true (fun k => Bn P .eql 24 true t106 (.int .i64 0) w k) w fun t107 w =>
  Pick t104 t107 (.bool false) w fun t108 w =>
  Gd t108 true (fun k => k t79 w) w fun t110 w =>
  Gd t108 true (fun k => k t21 w) w fun t111 w =>
  Gd t108 true (fun k => Cl P 18 #[t110, t111] w (Pk R) k) w fun t112 w =>
  Gd t108 true (fun k => Bn P .leq 3 true t112 (.int .i64 0) w k) w fun t113 w =>
  Pick t108 t113 (.bool false) w fun t114 w =>
  Gd t114 true (fun k => k t90 w) w fun t116 w =>
  Gd t114 true (fun k => k t21 w) w fun t117 w =>
  Gd t114 true (fun k => Cl P 18 #[t116, t117] w (Pk R) k) w fun t118 w =>
  Gd t114 true (fun k => Bn P .gtr 3 true t118 (.int .i64 0) w k) w fun t119 w =>
  Pick t114 t119 (.bool false) w fun t120 w =>
  R (.returned t120) w))
theorem e_law03_IntegerRoot {t0 : Value} {w : World} {R : Ending → World → Prop} (h : s_law03_IntegerRoot Tryz.prog t0 w R) : Calls Tryz.prog 6 #[t0] w R :=
  enter (h := (.sq .z (.sq .z (.sq .z (.sq .z (.sq .z (.sq .z (.sq .z (.sq (.sq .z (.cd (.sq .z .z) .z)) (.sq (.sq .z (.cd (.sq .z .z) .z)) (.sq .z (.sq .z (.sq .z (.sq .z .z)))))))))))))) (args := [t0]) Tryz.func6 (by kernel_rfl) (by kernel_rfl) (by kernel_rfl) (Eq.mp (by kernel_rfl) h)
theorem n_law03_IntegerRoot : Enters Tryz.prog 6 := enters_of Tryz.func6 (by kernel_rfl) rfl
def s_law03_IntegerOrder (P : Program) (t0 t1 t2 : Value) (w : World) (R : Ending → World → Prop) : Prop :=
  Cl P 12 #[] w (Pk R) fun t18 w =>
  Cl P 13 #[t0, (.int .i64 60)] w (Pk R) fun t20 w =>
  Cl P 13 #[t1, (.int .i64 60)] w (Pk R) fun t22 w =>
  Cl P 13 #[t2, (.int .i64 60)] w (Pk R) fun t24 w =>
  Cl P 18 #[t20, t22] w (Pk R) fun t27 w =>
  Cl P 16 #[t20, t22] w (Pk R) fun t31 w =>
  Ex t31 0 w fun t32 w =>
  Ex t31 1 w fun t33 w =>
  Cl P 14 #[t20, t24] w (Pk R) fun t37 w =>
  Ex t37 0 w fun t38 w =>
  Ex t37 1 w fun t39 w =>
  Cl P 14 #[t22, t24] w (Pk R) fun t43 w =>
  Ex t43 0 w fun t44 w =>
  Ex t43 1 w fun t45 w =>
  Bn P .neq 24 true t33 (.int .i64 0) w fun t47 w =>
  Gd t47 false (fun k => k t39 w) w fun t49 w =>
  Gd t47 false (fun k => Bn P .neq 24 true t49 (.int .i64 0) w k) w fun t50 w =>
  Pick t47 (.bool true) t50 w fun t51 w =>
  Gd t51 false (fun k => k t45 w) w fun t53 w =>
  Gd t51 false (fun k => Bn P .neq 24 true t53 (.int .i64 0) w k) w fun t54 w =>
  Pick t51 (.bool true) t54 w fun t55 w =>
  Gd t55 false (fun k => k t27 w) w fun t57 w =>
  Gd t55 false (fun k => Bn P .lss 3 true t57 (.int .i64 (-1)) w k) w fun t58 w =>
  Pick t55 (.bool true) t58 w fun t59 w =>
  Gd t59 false (fun k => k t27 w) w fun t61 w =>
  Gd t59 false (fun k => Bn P .gtr 3 true t61 (.int .i64 1) w k) w fun t62 w =>
  Pick t59 (.bool true) t62 w fun t63 w =>
  Gd t63 false (fun k => k t22 w) w fun t65 w =>
  Gd t63 false (fun k => k t20 w) w fun t66 w =>
  Gd t63 false (fun k => Cl P 18 #[t65, t66] w (Pk R) k) w fun t67 w =>
  Gd t63 false (fun k => k t27 w) w fun t68 w =>
  Gd t63 false (fun k => Un P .neg t68 w k) w fun t69 w =>
  Gd t63 false (fun k => Bn P .neq 3 false t67 t69 w k) w fun t70 w =>
  Pick t63 (.bool true) t70 w fun t71 w =>
  Gd t71 false (fun k => k t27 w) w fun t73 w =>
  Gd t71 false (fun k => Bn P .eql 3 true t73 (.int .i64 0) w k) w fun t74 w =>
  Gd t71 false (fun k => k t20 w) w fun t75 w =>
  Gd t71 false (fun k => k t22 w) w fun t76 w =>
  Gd t71 false (fun k => Bn P .eql 9 false t75 t76 w k) w fun t77 w =>
  Gd t71 false (fun k => Bn P .neq 4 false t74 t77 w k) w fun t78 w =>
  Pick t71 (.bool true) t78 w fun t79 w =>
  Gd t79 false (fun k => k t32 w) w fun t81 w =>
  Gd t79 false (fun k => Cl P 18 #[t81, (str [48])] w (Pk R) k) w fun t82 w =>
  Gd t79 false (fun k => k t27 w) w fun t83 w =>
  Gd t79 false (fun k => Bn P .neq 3 false t82 t83 w k) w fun t84 w =>
  Pick t79 (.bool true) t84 w fun t85 w =>
  Gd t85 false (fun k => k t38 w) w fun t87 w =>
  Gd t85 false (fun k => k t44 w) w fun t88 w =>
  Gd t85 false (fun k => Cl P 18 #[t87, t88] w (Pk R) k) w fun t89 w =>
  Gd t85 false (fun k => k t27 w) w fun t90 w =>
  Gd t85 false (fun k => Bn P .neq 3 false t89 t90 w k) w fun t91 w =>
  Pick t85 (.bool true) t91 w fun t92 w =>
  If t92
  (R (.returned (.bool false)) w)
  (Gd t18 true (fun k => k t27 w) w fun t95 w =>
  Gd t18 true (fun k => Bn P .gtr 3 true t95 (.int .i64 0) w k) w fun t96 w =>
  Gd t18 true (fun k => k t96 w) w fun t97 w =>
  Gd t97 false (fun k => k t22 w) w fun t98 w =>
  Gd t97 false (fun k => k t24 w) w fun t99 w =>
  Gd t97 false (fun k => Cl P 18 #[t98, t99] w (Pk R) k) w fun t100 w =>
  Gd t97 false (fun k => Bn P .gtr 3 true t100 (.int .i64 0) w k) w fun t101 w =>
  Gd t18 true (fun k => Pick t97 (.bool true) t101 w k) w fun t102 w =>
  Gd t18 true (fun k => k t102 w) w fun t103 w =>
  Gd t103 false (fun k => k t20 w) w fun t104 w =>
  Gd t103 false (fun k => k t24 w) w fun t105 w =>
  Gd t103 false (fun k => Cl P 18 #[t104, t105] w (Pk R) k) w fun t106 w =>
  Gd t103 false (fun k => Bn P .leq 3 true t106 (.int .i64 0) w k) w fun t107 w =>
  Gd t18 true (fun k => Pick t103 (.bool true) t107 w k) w fun t108 w =>
  Pick t18 t108 (.bool false) w fun t109 w =>
  R (.returned t109) w)
theorem e_law03_IntegerOrder {t0 t1 t2 : Value} {w : World} {R : Ending → World → Prop} (h : s_law03_IntegerOrder Tryz.prog t0 t1 t2 w R) : Calls Tryz.prog 7 #[t0, t1, t2] w R :=
  enter (h := (.sq .z (.sq .z (.sq .z (.sq .z (.sq .z (.sq .z (.sq .z (.sq .z (.sq .z (.sq (.sq .z (.cd (.sq .z .z) .z)) (.sq .z .z)))))))))))) (args := [t0, t1, t2]) Tryz.func7 (by kernel_rfl) (by kernel_rfl) (by kernel_rfl) (Eq.mp (by kernel_rfl) h)
theorem n_law03_IntegerOrder : Enters Tryz.prog 7 := enters_of Tryz.func7 (by kernel_rfl) rfl
def s_law03_IntegerLimits (P : Program) (t0 t1 t2 : Value) (w : World) (R : Ending → World → Prop) : Prop :=
  Cl P 12 #[] w (Pk R) fun t21 w =>
  Cl P 13 #[t0, (.int .i64 5)] w (Pk R) fun t23 w =>
  Cl P 22 #[(.int .i64 200)] w (Pk R) fun t24 w =>
  Cl P 14 #[t24, t23] w (Pk R) fun t28 w =>
  Ex t28 0 w fun t29 w =>
  Ex t28 1 w fun t30 w =>
  Bn P .add 9 true (str [45]) t24 w fun t33 w =>
  Cl P 16 #[t33, t23] w (Pk R) fun t35 w =>
  Ex t35 0 w fun t36 w =>
  Ex t35 1 w fun t37 w =>
  Cl P 23 #[t1, (.int .i64 200)] w (Pk R) fun t39 w =>
  Cl P 23 #[t2, (.int .i64 200)] w (Pk R) fun t41 w =>
  Cl P 22 #[t39] w (Pk R) fun t44 w =>
  Cl P 14 #[t44, (str [49])] w (Pk R) fun t45 w =>
  Ex t45 0 w fun t46 w =>
  Ex t45 1 w fun t47 w =>
  Jn2 (fun k1 =>
  Bn P .eql 3 true t39 (.int .i64 0) w fun t49 w =>
  If t49
  (Cl P 14 #[(str [48]), (str [49])] w (Pk R) fun t51 w =>
  Ex t51 0 w fun t52 w =>
  Ex t51 1 w fun t53 w =>
  k1 t52 t53 w)
  (k1 t46 t47 w))
  (fun t14 t15 w =>
  Cl P 22 #[t41] w (Pk R) fun t55 w =>
  Bn P .add 9 true (str [49]) t55 w fun t56 w =>
  Cl P 15 #[t14, t56] w (Pk R) fun t60 w =>
  Ex t60 0 w fun t61 w =>
  Ex t60 1 w fun t62 w =>
  Bn P .add 3 false t39 t41 w fun t65 w =>
  Bn P .lss 3 true t65 (.int .i64 200) w fun t66 w =>
  Cl P 18 #[t23, (str [48])] w (Pk R) fun t68 w =>
  Bn P .gtr 3 true t68 (.int .i64 0) w fun t69 w =>
  Bn P .neq 24 true t15 (.int .i64 0) w fun t71 w =>
  Gd t71 false (fun k => k t30 w) w fun t73 w =>
  Gd t71 false (fun k => Bn P .eql 24 true t73 (.int .i64 0) w k) w fun t74 w =>
  Gd t71 false (fun k => k t69 w) w fun t75 w =>
  Gd t71 false (fun k => Bn P .eql 4 false t74 t75 w k) w fun t76 w =>
  Pick t71 (.bool true) t76 w fun t77 w =>
  Gd t77 false (fun k => k t37 w) w fun t79 w =>
  Gd t77 false (fun k => Bn P .eql 24 true t79 (.int .i64 0) w k) w fun t80 w =>
  Gd t77 false (fun k => k t69 w) w fun t81 w =>
  Gd t77 false (fun k => Bn P .eql 4 false t80 t81 w k) w fun t82 w =>
  Pick t77 (.bool true) t82 w fun t83 w =>
  Gd t83 false (fun k => k t62 w) w fun t85 w =>
  Gd t83 false (fun k => Bn P .eql 24 true t85 (.int .i64 0) w k) w fun t86 w =>
  Gd t83 false (fun k => k t66 w) w fun t87 w =>
  Gd t83 false (fun k => Bn P .neq 4 false t86 t87 w k) w fun t88 w =>
  Pick t83 (.bool true) t88 w fun t89 w =>
  If t89
  (R (.returned (.bool false)) w)
  (Gd t69 true (fun k => k t29 w) w fun t92 w =>
  Gd t69 true (fun k => Bn P .neq 9 true t92 (str []) w k) w fun t93 w =>
  Gd t69 true (fun k => k t93 w) w fun t94 w =>
  Gd t94 false (fun k => k t36 w) w fun t95 w =>
  Gd t94 false (fun k => Bn P .neq 9 true t95 (str []) w k) w fun t96 w =>
  Gd t69 true (fun k => Pick t94 (.bool true) t96 w k) w fun t97 w =>
  Gd t69 true (fun k => k t97 w) w fun t98 w =>
  Gd t98 false (fun k => k t30 w) w fun t99 w =>
  Gd t98 false (fun k => Bn P .neq 24 true t99 (.int .i64 30) w k) w fun t100 w =>
  Gd t69 true (fun k => Pick t98 (.bool true) t100 w k) w fun t101 w =>
  Pick t69 t101 (.bool false) w fun t102 w =>
  Gd t102 false (fun k => k t66 w) w fun t104 w =>
  Gd t102 false (fun k => Un P .not t104 w k) w fun t105 w =>
  Gd t102 false (fun k => k t105 w) w fun t106 w =>
  Gd t106 true (fun k => k t61 w) w fun t107 w =>
  Gd t106 true (fun k => Bn P .neq 9 true t107 (str []) w k) w fun t108 w =>
  Gd t106 true (fun k => k t108 w) w fun t109 w =>
  Gd t109 false (fun k => k t62 w) w fun t110 w =>
  Gd t109 false (fun k => Bn P .neq 24 true t110 (.int .i64 30) w k) w fun t111 w =>
  Gd t106 true (fun k => Pick t109 (.bool true) t111 w k) w fun t112 w =>
  Gd t102 false (fun k => Pick t106 t112 (.bool false) w k) w fun t113 w =>
  Pick t102 (.bool true) t113 w fun t114 w =>
  If t114
  (R (.returned (.bool false)) w)
  (Gd t21 true (fun k => k t66 w) w fun t117 w =>
  Gd t21 true (fun k => Un P .not t117 w k) w fun t118 w =>
  Gd t21 true (fun k => k t118 w) w fun t119 w =>
  Gd t119 false (fun k => k t61 w) w fun t120 w =>
  Gd t119 false (fun k => Bt P .len #[9] 3 #[t120] w k) w fun t121 w =>
  Gd t119 false (fun k => k t39 w) w fun t122 w =>
  Gd t119 false (fun k => k t41 w) w fun t123 w =>
  Gd t119 false (fun k => Bn P .add 3 false t122 t123 w k) w fun t124 w =>
  Gd t119 false (fun k => Bn P .add 3 true t124 (.int .i64 1) w k) w fun t125 w =>
  Gd t119 false (fun k => Bn P .eql 3 false t121 t125 w k) w fun t126 w =>
  Gd t21 true (fun k => Pick t119 (.bool true) t126 w k) w fun t127 w =>
  Pick t21 t127 (.bool false) w fun t128 w =>
  Gd t128 true (fun k => k t24 w) w fun t130 w =>
  Gd t128 true (fun k => Bn P .add 9 true t130 (str [57]) w k) w fun t131 w =>
  Gd t128 true (fun k => Cl P 19 #[t131] w (Pk R) k) w fun t132 w =>
  Gd t128 true (fun k => Un P .not t132 w k) w fun t133 w =>
  Pick t128 t133 (.bool false) w fun t134 w =>
  Gd t134 true (fun k => k t24 w) w fun t136 w =>
  Gd t134 true (fun k => Bn P .add 9 true (str [45]) t136 w k) w fun t137 w =>
  Gd t134 true (fun k => Cl P 19 #[t137] w (Pk R) k) w fun t138 w =>
  Pick t134 t138 (.bool false) w fun t139 w =>
  R (.returned t139) w)))
theorem e_law03_IntegerLimits {t0 t1 t2 : Value} {w : World} {R : Ending → World → Prop} (h : s_law03_IntegerLimits Tryz.prog t0 t1 t2 w R) : Calls Tryz.prog 8 #[t0, t1, t2] w R :=
  enter (h := (.sq .z (.sq .z (.sq .z (.sq .z (.sq .z (.sq .z (.sq .z (.sq .z (.sq .z (.jn [14, 15] [48, 49, 50, 51, 52, 53] (.sq .z (.cd .z .z)) (.sq .z (.sq .z (.sq .z (.sq .z (.sq (.sq .z (.cd (.sq .z .z) .z)) (.sq (.sq .z (.cd (.sq .z .z) .z)) (.sq .z .z)))))))))))))))))) (args := [t0, t1, t2]) Tryz.func8 (by kernel_rfl) (by kernel_rfl) (by kernel_rfl) (Eq.mp (by kernel_rfl) h)
theorem n_law03_IntegerLimits : Enters Tryz.prog 8 := enters_of Tryz.func8 (by kernel_rfl) rfl
def s_law03_IntegerMatchesReference (P : Program) (t0 t1 t2 : Value) (w : World) (R : Ending → World → Prop) : Prop :=
  Cl P 12 #[] w (Pk R) fun t24 w =>
  Bt P .len #[9] 3 #[t0] w fun t27 w =>
  Bt P .min #[3, 3] 3 #[t27, (.int .i64 210)] w fun t28 w =>
  Sc P 9 t0 none (some t28) none w fun t29 w =>
  Bt P .len #[9] 3 #[t1] w fun t32 w =>
  Bt P .min #[3, 3] 3 #[t32, (.int .i64 210)] w fun t33 w =>
  Sc P 9 t1 none (some t33) none w fun t34 w =>
  Bd P 37 [(0, t29), (1, t34)] w fun t37 w =>
  Cl P 13 #[t29, (.int .i64 70)] w (Pk R) fun t39 w =>
  Cl P 13 #[t34, (.int .i64 30)] w (Pk R) fun t41 w =>
  Bd P 37 [(0, t39), (1, t41)] w fun t42 w =>
  Cl P 13 #[t29, (.int .i64 12)] w (Pk R) fun t44 w =>
  Cl P 24 #[t2] w (Pk R) fun t46 w =>
  Bd P 37 [(0, t44), (1, t46)] w fun t47 w =>
  Bs P 38 3 [(0, t37), (1, t42), (2, t47)] w fun t48 w =>
  Bt P .len #[38] 3 #[t48] w fun t49 w =>
  Lp1 (.int .i64 0) w (fun t50 w k1 =>
  Bn P .lss 3 false t50 t49 w fun t51 w =>
  If t51
  (Ia P 38 t48 t50 w fun t52 w =>
  Ld P 37 t52 w fun t53 w =>
  Al P 37 w fun t9 w =>
  Sto P 37 t9 t53 w fun w =>
  Ia P 37 t9 (.int .i64 0) w fun t55 w =>
  Ld P 9 t55 w fun t56 w =>
  Ia P 37 t9 (.int .i64 1) w fun t57 w =>
  Ld P 9 t57 w fun t58 w =>
  Cl P 14 #[t56, t58] w (Pk R) fun t59 w =>
  Ex t59 0 w fun t60 w =>
  Ex t59 1 w fun t61 w =>
  Ia P 37 t9 (.int .i64 0) w fun t63 w =>
  Ld P 9 t63 w fun t64 w =>
  Ia P 37 t9 (.int .i64 1) w fun t65 w =>
  Ld P 9 t65 w fun t66 w =>
  Cl P 25 #[t64, t66] w (Pk R) fun t67 w =>
  Ex t67 0 w fun t68 w =>
  Ex t67 1 w fun t69 w =>
  Bn P .neq 9 false t60 t68 w fun t72 w =>
  Gd t72 false (fun k => k t61 w) w fun t74 w =>
  Gd t72 false (fun k => k t69 w) w fun t75 w =>
  Gd t72 false (fun k => Bn P .neq 24 false t74 t75 w k) w fun t76 w =>
  Pick t72 (.bool true) t76 w fun t77 w =>
  If t77
  (R (.returned (.bool false)) w)
  (Ia P 37 t9 (.int .i64 0) w fun t79 w =>
  Ld P 9 t79 w fun t80 w =>
  Ia P 37 t9 (.int .i64 1) w fun t81 w =>
  Ld P 9 t81 w fun t82 w =>
  Cl P 16 #[t80, t82] w (Pk R) fun t83 w =>
  Ex t83 0 w fun t84 w =>
  Ex t83 1 w fun t85 w =>
  Ia P 37 t9 (.int .i64 0) w fun t87 w =>
  Ld P 9 t87 w fun t88 w =>
  Ia P 37 t9 (.int .i64 1) w fun t89 w =>
  Ld P 9 t89 w fun t90 w =>
  Cl P 26 #[t88, t90] w (Pk R) fun t91 w =>
  Ex t91 0 w fun t92 w =>
  Ex t91 1 w fun t93 w =>
  Bn P .neq 9 false t84 t92 w fun t96 w =>
  Gd t96 false (fun k => k t85 w) w fun t98 w =>
  Gd t96 false (fun k => k t93 w) w fun t99 w =>
  Gd t96 false (fun k => Bn P .neq 24 false t98 t99 w k) w fun t100 w =>
  Pick t96 (.bool true) t100 w fun t101 w =>
  If t101
  (R (.returned (.bool false)) w)
  (Ia P 37 t9 (.int .i64 0) w fun t103 w =>
  Ld P 9 t103 w fun t104 w =>
  Ia P 37 t9 (.int .i64 1) w fun t105 w =>
  Ld P 9 t105 w fun t106 w =>
  Cl P 15 #[t104, t106] w (Pk R) fun t107 w =>
  Ex t107 0 w fun t108 w =>
  Ex t107 1 w fun t109 w =>
  Ia P 37 t9 (.int .i64 0) w fun t111 w =>
  Ld P 9 t111 w fun t112 w =>
  Ia P 37 t9 (.int .i64 1) w fun t113 w =>
  Ld P 9 t113 w fun t114 w =>
  Cl P 27 #[t112, t114] w (Pk R) fun t115 w =>
  Ex t115 0 w fun t116 w =>
  Ex t115 1 w fun t117 w =>
  Bn P .neq 9 false t108 t116 w fun t120 w =>
  Gd t120 false (fun k => k t109 w) w fun t122 w =>
  Gd t120 false (fun k => k t117 w) w fun t123 w =>
  Gd t120 false (fun k => Bn P .neq 24 false t122 t123 w k) w fun t124 w =>
  Pick t120 (.bool true) t124 w fun t125 w =>
  If t125
  (R (.returned (.bool false)) w)
  (Ia P 37 t9 (.int .i64 0) w fun t127 w =>
  Ld P 9 t127 w fun t128 w =>
  Ia P 37 t9 (.int .i64 1) w fun t129 w =>
  Ld P 9 t129 w fun t130 w =>
  Cl P 17 #[t128, t130] w (Pk R) fun t131 w =>
  Ex t131 0 w fun t132 w =>
  Ex t131 1 w fun t133 w =>
  Ex t131 2 w fun t134 w =>
  Ia P 37 t9 (.int .i64 0) w fun t136 w =>
  Ld P 9 t136 w fun t137 w =>
  Ia P 37 t9 (.int .i64 1) w fun t138 w =>
  Ld P 9 t138 w fun t139 w =>
  Cl P 28 #[t137, t139] w (Pk R) fun t140 w =>
  Ex t140 0 w fun t141 w =>
  Ex t140 1 w fun t142 w =>
  Ex t140 2 w fun t143 w =>
  Bn P .neq 9 false t132 t141 w fun t146 w =>
  Gd t146 false (fun k => k t133 w) w fun t148 w =>
  Gd t146 false (fun k => k t142 w) w fun t149 w =>
  Gd t146 false (fun k => Bn P .neq 9 false t148 t149 w k) w fun t150 w =>
  Pick t146 (.bool true) t150 w fun t151 w =>
  Gd t151 false (fun k => k t134 w) w fun t153 w =>
  Gd t151 false (fun k => k t143 w) w fun t154 w =>
  Gd t151 false (fun k => Bn P .neq 24 false t153 t154 w k) w fun t155 w =>
  Pick t151 (.bool true) t155 w fun t156 w =>
  If t156
  (R (.returned (.bool false)) w)
  (Ia P 37 t9 (.int .i64 0) w fun t158 w =>
  Ld P 9 t158 w fun t159 w =>
  Ia P 37 t9 (.int .i64 1) w fun t160 w =>
  Ld P 9 t160 w fun t161 w =>
  Cl P 20 #[t159, t161] w (Pk R) fun t162 w =>
  Ex t162 0 w fun t163 w =>
  Ex t162 1 w fun t164 w =>
  Ia P 37 t9 (.int .i64 0) w fun t166 w =>
  Ld P 9 t166 w fun t167 w =>
  Ia P 37 t9 (.int .i64 1) w fun t168 w =>
  Ld P 9 t168 w fun t169 w =>
  Cl P 29 #[t167, t169] w (Pk R) fun t170 w =>
  Ex t170 0 w fun t171 w =>
  Ex t170 1 w fun t172 w =>
  Bn P .neq 9 false t163 t171 w fun t175 w =>
  Gd t175 false (fun k => k t164 w) w fun t177 w =>
  Gd t175 false (fun k => k t172 w) w fun t178 w =>
  Gd t175 false (fun k => Bn P .neq 24 false t177 t178 w k) w fun t179 w =>
  Pick t175 (.bool true) t179 w fun t180 w =>
  If t180
  (R (.returned (.bool false)) w)
  (Ia P 37 t9 (.int .i64 0) w fun t182 w =>
  Ld P 9 t182 w fun t183 w =>
  Cl P 21 #[t183] w (Pk R) fun t184 w =>
  Ex t184 0 w fun t185 w =>
  Ex t184 1 w fun t186 w =>
  Ia P 37 t9 (.int .i64 0) w fun t188 w =>
  Ld P 9 t188 w fun t189 w =>
  Cl P 30 #[t189] w (Pk R) fun t190 w =>
  Ex t190 0 w fun t191 w =>
  Ex t190 1 w fun t192 w =>
  Bn P .neq 9 false t185 t191 w fun t195 w =>
  Gd t195 false (fun k => k t186 w) w fun t197 w =>
  Gd t195 false (fun k => k t192 w) w fun t198 w =>
  Gd t195 false (fun k => Bn P .neq 24 false t197 t198 w k) w fun t199 w =>
  Pick t195 (.bool true) t199 w fun t200 w =>
  If t200
  (R (.returned (.bool false)) w)
  (Ia P 37 t9 (.int .i64 0) w fun t202 w =>
  Ld P 9 t202 w fun t203 w =>
  Cl P 31 #[t203] w (Pk R) fun t204 w =>
  Ex t204 0 w fun t205 w =>
  Ex t204 1 w fun t206 w =>
  Ia P 37 t9 (.int .i64 0) w fun t208 w =>
  Ld P 9 t208 w fun t209 w =>
  Cl P 32 #[t209] w (Pk R) fun t210 w =>
  Ex t210 0 w fun t211 w =>
  Ex t210 1 w fun t212 w =>
  Dv P true (bn .neq 3 false t205 t211) w.drew fun t215 =>
  GdP t215 false (fun k => k t206) fun t217 =>
  GdP t215 false (fun k => k t212) fun t218 =>
  GdP t215 false (fun k => Dv P true (bn .neq 24 false t217 t218) w.drew k) fun t219 =>
  PickP t215 (.bool true) t219 fun t220 =>
  GdP t220 false (fun k => Dv P true (Instr.indexAt 37 t9 (.int .i64 0)) w.drew k) fun t222 =>
  GdP t220 false (fun k => Dv P false (Instr.loadAt 9 t222) w.drew k) fun t223 =>
  GdP t220 false (fun k => Dv P true (Instr.indexAt 37 t9 (.int .i64 0)) w.drew k) fun t225 =>
  GdP t220 false (fun k => Dv P false (Instr.loadAt 9 t225) w.drew k) fun t226 =>
  Gd t220 false (fun k => Cl P 19 #[t223] w.drew (Pk R) k) w.drew fun t224 w =>
  Kg t220 false P (Instr.loadAt 9 t225) t226 w <|
  Gd t220 false (fun k => Cl P 33 #[t226] w (Pk R) k) w fun t227 w =>
  GdP t220 false (fun k => Dv P true (bn .neq 4 false t224 t227) w k) fun t228 =>
  PickP t220 (.bool true) t228 fun t229 =>
  GdP t229 false (fun k => Dv P true (Instr.indexAt 37 t9 (.int .i64 0)) w k) fun t231 =>
  GdP t229 false (fun k => Dv P false (Instr.loadAt 9 t231) w k) fun t232 =>
  GdP t229 false (fun k => Dv P true (Instr.indexAt 37 t9 (.int .i64 1)) w k) fun t233 =>
  GdP t229 false (fun k => Dv P false (Instr.loadAt 9 t233) w k) fun t234 =>
  GdP t229 false (fun k => Dv P true (Instr.indexAt 37 t9 (.int .i64 0)) w k) fun t236 =>
  GdP t229 false (fun k => Dv P false (Instr.loadAt 9 t236) w k) fun t237 =>
  GdP t229 false (fun k => Dv P true (Instr.indexAt 37 t9 (.int .i64 1)) w k) fun t238 =>
  GdP t229 false (fun k => Dv P false (Instr.loadAt 9 t238) w k) fun t239 =>
  Gd t229 false (fun k => Cl P 18 #[t232, t234] w (Pk R) k) w fun t235 w =>
  Kg t229 false P (Instr.loadAt 9 t236) t237 w <|
  Kg t229 false P (Instr.loadAt 9 t238) t239 w <|
  Gd t229 false (fun k => Cl P 34 #[t237, t239] w (Pk R) k) w fun t240 w =>
  GdP t229 false (fun k => Dv P true (bn .neq 3 false t235 t240) w k) fun t241 =>
  PickP t229 (.bool true) t241 fun t242 =>
  If t242
  (R (.returned (.bool false)) w)
  (Bn P .add 3 true t50 (.int .i64 1) w fun t243 w =>
  k1 t243 w))))))))
  (Gd t24 true (fun k => k t2 w) w fun t246 w =>
  Gd t24 true (fun k => Cl P 35 #[t246] w (Pk R) k) w fun t247 w =>
  Gd t24 true (fun k => k t2 w) w fun t248 w =>
  Gd t24 true (fun k => Cl P 24 #[t248] w (Pk R) k) w fun t249 w =>
  Gd t24 true (fun k => Bn P .eql 9 false t247 t249 w k) w fun t250 w =>
  Pick t24 t250 (.bool false) w fun t251 w =>
  R (.returned t251) w))
theorem e_law03_IntegerMatchesReference {t0 t1 t2 : Value} {w : World} {R : Ending → World → Prop} (h : s_law03_IntegerMatchesReference Tryz.prog t0 t1 t2 w R) : Calls Tryz.prog 9 #[t0, t1, t2] w R :=
  enter (h := (.sq .z (.sq .z (.sq .z (.sq .z (.sq (.sq .z (.bk (.lp [50] [6, 9, 10, 11, 12, 13, 14, 15, 16, 17, 18, 19, 20, 21, 22, 23, 51, 52, 53, 54, 55, 56, 57, 58, 59, 60, 61, 62, 63, 64, 65, 66, 67, 68, 69, 70, 71, 72, 73, 74, 75, 76, 77, 78, 79, 80, 81, 82, 83, 84, 85, 86, 87, 88, 89, 90, 91, 92, 93, 94, 95, 96, 97, 98, 99, 100, 101, 102, 103, 104, 105, 106, 107, 108, 109, 110, 111, 112, 113, 114, 115, 116, 117, 118, 119, 120, 121, 122, 123, 124, 125, 126, 127, 128, 129, 130, 131, 132, 133, 134, 135, 136, 137, 138, 139, 140, 141, 142, 143, 144, 145, 146, 147, 148, 149, 150, 151, 152, 153, 154, 155, 156, 157, 158, 159, 160, 161, 162, 163, 164, 165, 166, 167, 168, 169, 170, 171, 172, 173, 174, 175, 176, 177, 178, 179, 180, 181, 182, 183, 184, 185, 186, 187, 188, 189, 190, 191, 192, 193, 194, 195, 196, 197, 198, 199, 200, 201, 202, 203, 204, 205, 206, 207, 208, 209, 210, 211, 212, 213, 214, 215, 216, 217, 218, 219, 220, 221, 222, 223, 224, 225, 226, 227, 228, 229, 230, 231, 232, 233, 234, 235, 236, 237, 238, 239, 240, 241, 242, 243] (.sq .z (.sq (.cd .z .z) (.sq (.bk (.sq .z (.sq .z (.sq .z (.sq (.sq .z (.cd (.sq .z .z) .z)) (.sq .z (.sq .z (.sq (.sq .z (.cd (.sq .z .z) .z)) (.sq .z (.sq .z (.sq (.sq .z (.cd (.sq .z .z) .z)) (.sq .z (.sq .z (.sq (.sq .z (.cd (.sq .z .z) .z)) (.sq .z (.sq .z (.sq (.sq .z (.cd (.sq .z .z) .z)) (.sq .z (.sq .z (.sq (.sq .z (.cd (.sq .z .z) .z)) (.sq .z (.sq .z (.sq (.dr (.pur true 0 (.pur true 1 (.pur true 2 (.pur true 3 (.pur true 4 (.pur true 5 (.pur true 6 (.pur true 7 (.pur true 8 (.pur true 9 (.pur false 10 (.pur true 12 (.pur false 13 (.eff 11 [13] (.eff 14 [] (.pur true 15 (.pur true 16 (.pur true 17 (.pur true 18 (.pur false 19 (.pur true 20 (.pur false 21 (.pur true 23 (.pur false 24 (.pur true 25 (.pur false 26 (.eff 22 [24, 26] (.eff 27 [] (.pur true 28 (.pur true 29 .done))))))))))))))))))))))))))))))) (.cd (.sq .z .z) .z)))))))))))))))))))))))) .z)))))) (.sq .z .z))))))) (args := [t0, t1, t2]) Tryz.func9 (by kernel_rfl) (by kernel_rfl) (by kernel_rfl) (Eq.mp (by kernel_rfl) h)
theorem n_law03_IntegerMatchesReference : Enters Tryz.prog 9 := enters_of Tryz.func9 (by kernel_rfl) rfl
def s_law03_IntegerMachine (P : Program) (t0 t1 : Value) (w : World) (R : Ending → World → Prop) : Prop :=
  Cl P 12 #[] w (Pk R) fun t24 w =>
  Cv P 21 3 t0 w fun t26 w =>
  Cv P 21 3 t1 w fun t28 w =>
  Cl P 35 #[t26] w (Pk R) fun t30 w =>
  Cl P 35 #[t28] w (Pk R) fun t32 w =>
  Cl P 31 #[t30] w (Pk R) fun t35 w =>
  Ex t35 0 w fun t36 w =>
  Ex t35 1 w fun t37 w =>
  Cl P 14 #[t30, t32] w (Pk R) fun t41 w =>
  Ex t41 0 w fun t42 w =>
  Ex t41 1 w fun t43 w =>
  Cl P 16 #[t30, t32] w (Pk R) fun t47 w =>
  Ex t47 0 w fun t48 w =>
  Ex t47 1 w fun t49 w =>
  Cl P 15 #[t30, t32] w (Pk R) fun t53 w =>
  Ex t53 0 w fun t54 w =>
  Ex t53 1 w fun t55 w =>
  Bn P .neq 24 true t37 (.int .i64 0) w fun t57 w =>
  Gd t57 false (fun k => k t43 w) w fun t59 w =>
  Gd t57 false (fun k => Bn P .neq 24 true t59 (.int .i64 0) w k) w fun t60 w =>
  Pick t57 (.bool true) t60 w fun t61 w =>
  Gd t61 false (fun k => k t49 w) w fun t63 w =>
  Gd t61 false (fun k => Bn P .neq 24 true t63 (.int .i64 0) w k) w fun t64 w =>
  Pick t61 (.bool true) t64 w fun t65 w =>
  Gd t65 false (fun k => k t55 w) w fun t67 w =>
  Gd t65 false (fun k => Bn P .neq 24 true t67 (.int .i64 0) w k) w fun t68 w =>
  Pick t65 (.bool true) t68 w fun t69 w =>
  Gd t69 false (fun k => k t36 w) w fun t71 w =>
  Gd t69 false (fun k => k t26 w) w fun t72 w =>
  Gd t69 false (fun k => Bn P .neq 3 false t71 t72 w k) w fun t73 w =>
  Pick t69 (.bool true) t73 w fun t74 w =>
  Gd t74 false (fun k => k t42 w) w fun t76 w =>
  Gd t74 false (fun k => k t26 w) w fun t77 w =>
  Gd t74 false (fun k => k t28 w) w fun t78 w =>
  Gd t74 false (fun k => Bn P .add 3 false t77 t78 w k) w fun t79 w =>
  Gd t74 false (fun k => Cl P 35 #[t79] w (Pk R) k) w fun t80 w =>
  Gd t74 false (fun k => Bn P .neq 9 false t76 t80 w k) w fun t81 w =>
  Pick t74 (.bool true) t81 w fun t82 w =>
  Gd t82 false (fun k => k t48 w) w fun t84 w =>
  Gd t82 false (fun k => k t26 w) w fun t85 w =>
  Gd t82 false (fun k => k t28 w) w fun t86 w =>
  Gd t82 false (fun k => Bn P .sub 3 false t85 t86 w k) w fun t87 w =>
  Gd t82 false (fun k => Cl P 35 #[t87] w (Pk R) k) w fun t88 w =>
  Gd t82 false (fun k => Bn P .neq 9 false t84 t88 w k) w fun t89 w =>
  Pick t82 (.bool true) t89 w fun t90 w =>
  Gd t90 false (fun k => k t54 w) w fun t92 w =>
  Gd t90 false (fun k => k t26 w) w fun t93 w =>
  Gd t90 false (fun k => k t28 w) w fun t94 w =>
  Gd t90 false (fun k => Bn P .mul 3 false t93 t94 w k) w fun t95 w =>
  Gd t90 false (fun k => Cl P 35 #[t95] w (Pk R) k) w fun t96 w =>
  Gd t90 false (fun k => Bn P .neq 9 false t92 t96 w k) w fun t97 w =>
  Pick t90 (.bool true) t97 w fun t98 w =>
  If t98
  (R (.returned (.bool false)) w)
  (Jn1 (fun k1 =>
  Bn P .lss 3 false t26 t28 w fun t101 w =>
  If t101
  (k1 (.int .i64 (-1)) w)
  (k1 (.int .i64 0) w))
  (fun t18 w =>
  Jn1 (fun k2 =>
  Bn P .gtr 3 false t26 t28 w fun t104 w =>
  If t104
  (k2 (.int .i64 1) w)
  (k2 t18 w))
  (fun t18x1 w =>
  Cl P 18 #[t30, t32] w (Pk R) fun t107 w =>
  Bn P .neq 3 false t107 t18x1 w fun t109 w =>
  If t109
  (R (.returned (.bool false)) w)
  (Cl P 17 #[t30, t32] w (Pk R) fun t113 w =>
  Ex t113 0 w fun t114 w =>
  Ex t113 1 w fun t115 w =>
  Ex t113 2 w fun t116 w =>
  Bn P .eql 3 true t28 (.int .i64 0) w fun t118 w =>
  If t118
  (Gd t24 true (fun k => k t116 w) w fun t121 w =>
  Gd t24 true (fun k => Bn P .eql 24 true t121 (.int .i64 30) w k) w fun t122 w =>
  Pick t24 t122 (.bool false) w fun t123 w =>
  Gd t123 true (fun k => k t114 w) w fun t125 w =>
  Gd t123 true (fun k => Bn P .eql 9 true t125 (str []) w k) w fun t126 w =>
  Pick t123 t126 (.bool false) w fun t127 w =>
  Gd t127 true (fun k => k t115 w) w fun t129 w =>
  Gd t127 true (fun k => Bn P .eql 9 true t129 (str []) w k) w fun t130 w =>
  Pick t127 t130 (.bool false) w fun t131 w =>
  R (.returned t131) w)
  (Bn P .rem 3 false t26 t28 w fun t134 w =>
  Bn P .quo 3 false t26 t28 w fun t137 w =>
  Jn2 (fun k3 =>
  Bn P .lss 3 true t134 (.int .i64 0) w fun t139 w =>
  Gd t139 true (fun k => k t28 w) w fun t141 w =>
  Gd t139 true (fun k => Bn P .gtr 3 true t141 (.int .i64 0) w k) w fun t142 w =>
  Pick t139 t142 (.bool false) w fun t143 w =>
  If t143
  (Bn P .add 3 false t134 t28 w fun t146 w =>
  Bn P .sub 3 true t137 (.int .i64 1) w fun t148 w =>
  k3 t146 t148 w)
  (k3 t134 t137 w))
  (fun t22 t23 w =>
  Jn2 (fun k4 =>
  Bn P .lss 3 true t22 (.int .i64 0) w fun t150 w =>
  If t150
  (Bn P .sub 3 false t22 t28 w fun t153 w =>
  Bn P .add 3 true t23 (.int .i64 1) w fun t155 w =>
  k4 t153 t155 w)
  (k4 t22 t23 w))
  (fun t22x1 t23x1 w =>
  Gd t24 true (fun k => k t116 w) w fun t158 w =>
  Gd t24 true (fun k => Bn P .eql 24 true t158 (.int .i64 0) w k) w fun t159 w =>
  Pick t24 t159 (.bool false) w fun t160 w =>
  Gd t160 true (fun k => k t114 w) w fun t162 w =>
  Gd t160 true (fun k => k t23x1 w) w fun t163 w =>
  Gd t160 true (fun k => Cl P 35 #[t163] w (Pk R) k) w fun t164 w =>
  Gd t160 true (fun k => Bn P .eql 9 false t162 t164 w k) w fun t165 w =>
  Pick t160 t165 (.bool false) w fun t166 w =>
  Gd t166 true (fun k => k t115 w) w fun t168 w =>
  Gd t166 true (fun k => k t22x1 w) w fun t169 w =>
  Gd t166 true (fun k => Cl P 35 #[t169] w (Pk R) k) w fun t170 w =>
  Gd t166 true (fun k => Bn P .eql 9 false t168 t170 w k) w fun t171 w =>
  Pick t166 t171 (.bool false) w fun t172 w =>
  R (.returned t172) w)))))))
theorem e_law03_IntegerMachine {t0 t1 : Value} {w : World} {R : Ending → World → Prop} (h : s_law03_IntegerMachine Tryz.prog t0 t1 w R) : Calls Tryz.prog 10 #[t0, t1] w R :=
  enter (h := (.sq .z (.sq .z (.sq .z (.sq .z (.sq .z (.sq .z (.sq .z (.sq .z (.sq .z (.sq .z (.sq (.sq .z (.cd (.sq .z .z) .z)) (.sq .z (.jn [18] [99, 100, 101] (.sq .z (.cd .z .z)) (.jn [18] [102, 103, 104] (.sq .z (.cd .z .z)) (.sq (.sq .z (.cd (.sq .z .z) .z)) (.sq .z (.sq (.sq .z (.cd (.sq .z .z) .z)) (.sq .z (.sq .z (.jn [22, 23] [138, 139, 140, 141, 142, 143, 144, 145, 146, 147, 148] (.sq .z (.cd (.sq .z .z) .z)) (.jn [22, 23] [149, 150, 151, 152, 153, 154, 155] (.sq .z (.cd (.sq .z .z) .z)) (.sq .z .z))))))))))))))))))))))) (args := [t0, t1]) Tryz.func10 (by kernel_rfl) (by kernel_rfl) (by kernel_rfl) (Eq.mp (by kernel_rfl) h)
theorem n_law03_IntegerMachine : Enters Tryz.prog 10 := enters_of Tryz.func10 (by kernel_rfl) rfl
def s_law03_IntegerText (P : Program) (t0 t1 : Value) (w : World) (R : Ending → World → Prop) : Prop :=
  Cl P 12 #[] w (Pk R) fun t11 w =>
  Bt P .len #[9] 3 #[t1] w fun t14 w =>
  Bt P .min #[3, 3] 3 #[t14, (.int .i64 30)] w fun t15 w =>
  Sc P 9 t1 none (some t15) none w fun t16 w =>
  Cl P 35 #[t0] w (Pk R) fun t18 w =>
  Cl P 31 #[t18] w (Pk R) fun t21 w =>
  Ex t21 0 w fun t22 w =>
  Ex t21 1 w fun t23 w =>
  Cl P 31 #[t16] w (Pk R) fun t26 w =>
  Ex t26 0 w fun t27 w =>
  Ex t26 1 w fun t28 w =>
  Bn P .neq 24 true t28 (.int .i64 0) w fun t30 w =>
  If t30
  (Gd t11 true (fun k => k t23 w) w fun t33 w =>
  Gd t11 true (fun k => Bn P .eql 24 true t33 (.int .i64 0) w k) w fun t34 w =>
  Pick t11 t34 (.bool false) w fun t35 w =>
  Gd t35 true (fun k => k t22 w) w fun t37 w =>
  Gd t35 true (fun k => k t0 w) w fun t38 w =>
  Gd t35 true (fun k => Bn P .eql 3 false t37 t38 w k) w fun t39 w =>
  Pick t35 t39 (.bool false) w fun t40 w =>
  Gd t40 true (fun k => k t18 w) w fun t42 w =>
  Gd t40 true (fun k => Cl P 19 #[t42] w (Pk R) k) w fun t43 w =>
  Pick t40 t43 (.bool false) w fun t44 w =>
  Gd t44 true (fun k => k t27 w) w fun t46 w =>
  Gd t44 true (fun k => Bn P .eql 3 true t46 (.int .i64 0) w k) w fun t47 w =>
  Pick t44 t47 (.bool false) w fun t48 w =>
  Gd t48 true (fun k => k t28 w) w fun t50 w =>
  Gd t48 true (fun k => Bn P .eql 24 true t50 (.int .i64 30) w k) w fun t51 w =>
  Pick t48 t51 (.bool false) w fun t52 w =>
  R (.returned t52) w)
  (Gd t11 true (fun k => k t23 w) w fun t55 w =>
  Gd t11 true (fun k => Bn P .eql 24 true t55 (.int .i64 0) w k) w fun t56 w =>
  Pick t11 t56 (.bool false) w fun t57 w =>
  Gd t57 true (fun k => k t22 w) w fun t59 w =>
  Gd t57 true (fun k => k t0 w) w fun t60 w =>
  Gd t57 true (fun k => Bn P .eql 3 false t59 t60 w k) w fun t61 w =>
  Pick t57 t61 (.bool false) w fun t62 w =>
  Gd t62 true (fun k => k t18 w) w fun t64 w =>
  Gd t62 true (fun k => Cl P 19 #[t64] w (Pk R) k) w fun t65 w =>
  Pick t62 t65 (.bool false) w fun t66 w =>
  Gd t66 true (fun k => k t16 w) w fun t68 w =>
  Gd t66 true (fun k => Cl P 19 #[t68] w (Pk R) k) w fun t69 w =>
  Pick t66 t69 (.bool false) w fun t70 w =>
  Gd t70 true (fun k => k t27 w) w fun t72 w =>
  Gd t70 true (fun k => Cl P 35 #[t72] w (Pk R) k) w fun t73 w =>
  Gd t70 true (fun k => k t16 w) w fun t74 w =>
  Gd t70 true (fun k => Bn P .eql 9 false t73 t74 w k) w fun t75 w =>
  Pick t70 t75 (.bool false) w fun t76 w =>
  R (.returned t76) w)
theorem e_law03_IntegerText {t0 t1 : Value} {w : World} {R : Ending → World → Prop} (h : s_law03_IntegerText Tryz.prog t0 t1 w R) : Calls Tryz.prog 11 #[t0, t1] w R :=
  enter (h := (.sq .z (.sq .z (.sq .z (.sq .z (.sq .z (.sq .z (.sq (.sq .z (.cd (.sq .z .z) .z)) (.sq .z .z))))))))) (args := [t0, t1]) Tryz.func11 (by kernel_rfl) (by kernel_rfl) (by kernel_rfl) (Eq.mp (by kernel_rfl) h)
theorem n_law03_IntegerText : Enters Tryz.prog 11 := enters_of Tryz.func11 (by kernel_rfl) rfl
def s_law03_sane (P : Program) (w : World) (R : Ending → World → Prop) : Prop :=
  Cl P 14 #[(str [57, 57, 57]), (str [49])] w (Pk R) fun t23 w =>
  Ex t23 0 w fun t24 w =>
  Ex t23 1 w fun t25 w =>
  Cl P 16 #[(str [49]), (str [49, 48, 48, 48])] w (Pk R) fun t27 w =>
  Ex t27 0 w fun t28 w =>
  Ex t27 1 w fun t29 w =>
  Cl P 15 #[(str [45, 49, 50]), (str [49, 50])] w (Pk R) fun t31 w =>
  Ex t31 0 w fun t32 w =>
  Ex t31 1 w fun t33 w =>
  Cl P 17 #[(str [45, 55]), (str [50])] w (Pk R) fun t35 w =>
  Ex t35 0 w fun t36 w =>
  Ex t35 1 w fun t37 w =>
  Ex t35 2 w fun t38 w =>
  Cl P 17 #[(str [45, 55]), (str [45, 50])] w (Pk R) fun t40 w =>
  Ex t40 0 w fun t41 w =>
  Ex t40 1 w fun t42 w =>
  Ex t40 2 w fun t43 w =>
  Cl P 20 #[(str [49, 50]), (str [45, 49, 56])] w (Pk R) fun t45 w =>
  Ex t45 0 w fun t46 w =>
  Ex t45 1 w fun t47 w =>
  Cl P 21 #[(str [57, 57])] w (Pk R) fun t49 w =>
  Ex t49 0 w fun t50 w =>
  Ex t49 1 w fun t51 w =>
  Cl P 21 #[(str [45, 49])] w (Pk R) fun t53 w =>
  Ex t53 0 w fun t54 w =>
  Ex t53 1 w fun t55 w =>
  Cl P 14 #[(str [48, 48, 55]), (str [49])] w (Pk R) fun t57 w =>
  Ex t57 0 w fun t58 w =>
  Ex t57 1 w fun t59 w =>
  Bn P .eql 24 true t25 (.int .i64 0) w fun t61 w =>
  Gd t61 true (fun k => k t29 w) w fun t63 w =>
  Gd t61 true (fun k => Bn P .eql 24 true t63 (.int .i64 0) w k) w fun t64 w =>
  Pick t61 t64 (.bool false) w fun t65 w =>
  Gd t65 true (fun k => k t33 w) w fun t67 w =>
  Gd t65 true (fun k => Bn P .eql 24 true t67 (.int .i64 0) w k) w fun t68 w =>
  Pick t65 t68 (.bool false) w fun t69 w =>
  Gd t69 true (fun k => k t38 w) w fun t71 w =>
  Gd t69 true (fun k => Bn P .eql 24 true t71 (.int .i64 0) w k) w fun t72 w =>
  Pick t69 t72 (.bool false) w fun t73 w =>
  Gd t73 true (fun k => k t43 w) w fun t75 w =>
  Gd t73 true (fun k => Bn P .eql 24 true t75 (.int .i64 0) w k) w fun t76 w =>
  Pick t73 t76 (.bool false) w fun t77 w =>
  Gd t77 true (fun k => k t47 w) w fun t79 w =>
  Gd t77 true (fun k => Bn P .eql 24 true t79 (.int .i64 0) w k) w fun t80 w =>
  Pick t77 t80 (.bool false) w fun t81 w =>
  Gd t81 true (fun k => k t51 w) w fun t83 w =>
  Gd t81 true (fun k => Bn P .eql 24 true t83 (.int .i64 0) w k) w fun t84 w =>
  Pick t81 t84 (.bool false) w fun t85 w =>
  Gd t85 true (fun k => k t55 w) w fun t87 w =>
  Gd t85 true (fun k => Bn P .eql 24 true t87 (.int .i64 30) w k) w fun t88 w =>
  Pick t85 t88 (.bool false) w fun t89 w =>
  Gd t89 true (fun k => k t59 w) w fun t91 w =>
  Gd t89 true (fun k => Bn P .eql 24 true t91 (.int .i64 30) w k) w fun t92 w =>
  Pick t89 t92 (.bool false) w fun t93 w =>
  Gd t93 true (fun k => k t24 w) w fun t96 w =>
  Gd t93 true (fun k => Bn P .eql 9 true t96 (str [49, 48, 48, 48]) w k) w fun t97 w =>
  Pick t93 t97 (.bool false) w fun t98 w =>
  Gd t98 true (fun k => k t28 w) w fun t100 w =>
  Gd t98 true (fun k => Bn P .eql 9 true t100 (str [45, 57, 57, 57]) w k) w fun t101 w =>
  Pick t98 t101 (.bool false) w fun t102 w =>
  Gd t102 true (fun k => k t32 w) w fun t104 w =>
  Gd t102 true (fun k => Bn P .eql 9 true t104 (str [45, 49, 52, 52]) w k) w fun t105 w =>
  Pick t102 t105 (.bool false) w fun t106 w =>
  Gd t106 true (fun k => k t36 w) w fun t108 w =>
  Gd t106 true (fun k => Bn P .eql 9 true t108 (str [45, 52]) w k) w fun t109 w =>
  Pick t106 t109 (.bool false) w fun t110 w =>
  Gd t110 true (fun k => k t37 w) w fun t112 w =>
  Gd t110 true (fun k => Bn P .eql 9 true t112 (str [49]) w k) w fun t113 w =>
  Pick t110 t113 (.bool false) w fun t114 w =>
  Gd t114 true (fun k => k t41 w) w fun t116 w =>
  Gd t114 true (fun k => Bn P .eql 9 true t116 (str [52]) w k) w fun t117 w =>
  Pick t114 t117 (.bool false) w fun t118 w =>
  Gd t118 true (fun k => k t42 w) w fun t120 w =>
  Gd t118 true (fun k => Bn P .eql 9 true t120 (str [49]) w k) w fun t121 w =>
  Pick t118 t121 (.bool false) w fun t122 w =>
  Gd t122 true (fun k => k t46 w) w fun t124 w =>
  Gd t122 true (fun k => Bn P .eql 9 true t124 (str [54]) w k) w fun t125 w =>
  Pick t122 t125 (.bool false) w fun t126 w =>
  Gd t126 true (fun k => k t50 w) w fun t128 w =>
  Gd t126 true (fun k => Bn P .eql 9 true t128 (str [57]) w k) w fun t129 w =>
  Pick t126 t129 (.bool false) w fun t130 w =>
  Gd t130 true (fun k => Cl P 19 #[(str [45, 55])] w (Pk R) k) w fun t132 w =>
  Pick t130 t132 (.bool false) w fun t133 w =>
  Gd t133 true (fun k => Cl P 19 #[(str [45, 48])] w (Pk R) k) w fun t135 w =>
  Gd t133 true (fun k => Un P .not t135 w k) w fun t136 w =>
  Pick t133 t136 (.bool false) w fun t137 w =>
  Gd t137 true (fun k => Cl P 19 #[(str [])] w (Pk R) k) w fun t139 w =>
  Gd t137 true (fun k => Un P .not t139 w k) w fun t140 w =>
  Pick t137 t140 (.bool false) w fun t141 w =>
  Gd t141 true (fun k => Cl P 18 #[(str [45, 56]), (str [45, 55])] w (Pk R) k) w fun t143 w =>
  Gd t141 true (fun k => Bn P .lss 3 true t143 (.int .i64 0) w k) w fun t144 w =>
  Pick t141 t144 (.bool false) w fun t145 w =>
  R (.returned t145) w
theorem e_law03_sane {w : World} {R : Ending → World → Prop} (h : s_law03_sane Tryz.prog  w R) : Calls Tryz.prog 12 #[] w R :=
  enter (h := (.sq .z (.sq .z (.sq .z (.sq .z (.sq .z (.sq .z (.sq .z (.sq .z (.sq .z (.sq .z (.sq .z (.sq .z .z))))))))))))) (args := []) Tryz.func12 (by kernel_rfl) (by kernel_rfl) (by kernel_rfl) (Eq.mp (by kernel_rfl) h)
theorem n_law03_sane : Enters Tryz.prog 12 := enters_of Tryz.func12 (by kernel_rfl) rfl
def s_ref03_Made (P : Program) (t0 t1 : Value) (w : World) (R : Ending → World → Prop) : Prop :=
  Lp2 (.slice none 0 0) (.int .i64 0) w (fun t5 t6 w k1 =>
  Bt P .len #[9] 3 #[t0] w fun t11 w =>
  Bn P .lss 3 false t6 t11 w fun t12 w =>
  Gd t12 true (fun k => k t6 w) w fun t14 w =>
  Gd t12 true (fun k => k t1 w) w fun t15 w =>
  Gd t12 true (fun k => Bn P .lss 3 false t14 t15 w k) w fun t16 w =>
  Pick t12 t16 (.bool false) w fun t17 w =>
  If t17
  (Ix P 9 t0 t6 w fun t23 w =>
  Cv P 5 3 t23 w fun t24 w =>
  Bn P .rem 3 true t24 (.int .i64 10) w fun t25 w =>
  Bs P 44 1 [(0, t25)] w fun t26 w =>
  Bt P .append #[44, 44] 44 #[t5, t26] w fun t27 w =>
  Bn P .add 3 true t6 (.int .i64 1) w fun t19 w =>
  k1 t27 t19 w)
  (Dv P true (bV .len #[9] 3 #[t0]) w.drew fun t30 =>
  Dv P true (bn .gtr 3 true t30 (.int .i64 0)) w.drew fun t31 =>
  GdP t31 true (fun k => k t0) fun t33 =>
  GdP t31 true (fun k => Dv P true (Instr.index 9 t33 (.int .i64 0)) w.drew k) fun t34 =>
  GdP t31 true (fun k => Dv P true (bn .geq 5 true t34 (.int .u8 128)) w.drew k) fun t35 =>
  PickP t31 t35 (.bool false) fun t36 =>
  Cl P 37 #[t5] w.drew (Pk R) fun t38 w =>
  Cl P 36 #[t36, t38] w (Pk R) fun t39 w =>
  ExP t39 0 fun t40 =>
  ExP t39 1 fun t41 =>
  R (.returned t40) w))
theorem e_ref03_Made {t0 t1 : Value} {w : World} {R : Ending → World → Prop} (h : s_ref03_Made Tryz.prog t0 t1 w R) : Calls Tryz.prog 13 #[t0, t1] w R :=
  enter (h := (.sq .z (.sq .z (.sq (.sq .z (.bk (.lp [5, 6] [9, 10, 11, 12, 13, 14, 15, 16, 17, 18, 19, 20, 21, 22, 23, 24, 25, 26, 27] (.sq (.sq .z (.cd .z .z)) (.sq (.bk .z) .z))))) (.sq (.dr (.pur true 0 (.pur true 1 (.pur true 2 (.pur true 3 (.pur true 4 (.pur true 5 (.pur true 6 (.pur true 7 (.pur true 8 (.eff 9 [] (.eff 10 [] (.pur true 11 (.pur true 12 (.pur true 13 (.pur true 14 (.pur true 15 .done))))))))))))))))) (.sq .z .z)))))) (args := [t0, t1]) Tryz.func13 (by kernel_rfl) (by kernel_rfl) (by kernel_rfl) (Eq.mp (by kernel_rfl) h)
theorem n_ref03_Made : Enters Tryz.prog 13 := enters_of Tryz.func13 (by kernel_rfl) rfl
def s_integer_Add (P : Program) (t0 t1 : Value) (w : World) (R : Ending → World → Prop) : Prop :=
  Cl P 38 #[t0, t1] w (Pk R) fun t12 w =>
  Ex t12 0 w fun t13 w =>
  Ex t12 1 w fun t14 w =>
  Ex t12 2 w fun t15 w =>
  Al P 50 w fun t6 w =>
  Al P 50 w fun t7 w =>
  Sto P 50 t6 t13 w fun w =>
  Sto P 50 t7 t14 w fun w =>
  Un P .not t15 w fun t17 w =>
  If t17
  (R (.returned (.tuple #[(str []), (.int .i64 30)])) w)
  (Ld P 50 t6 w fun t18 w =>
  Ld P 50 t7 w fun t19 w =>
  Cl P 39 #[t18, t19] w (Pk R) fun t20 w =>
  Cl P 40 #[t20] w (Pk R) fun t21 w =>
  Ex t21 0 w fun t22 w =>
  Ex t21 1 w fun t23 w =>
  R (.returned (.tuple #[t22, t23])) w)
theorem e_integer_Add {t0 t1 : Value} {w : World} {R : Ending → World → Prop} (h : s_integer_Add Tryz.prog t0 t1 w R) : Calls Tryz.prog 14 #[t0, t1] w R :=
  enter (h := (.sq .z (.sq .z (.sq (.sq .z (.cd (.sq .z .z) .z)) (.sq .z .z))))) (args := [t0, t1]) Tryz.func14 (by kernel_rfl) (by kernel_rfl) (by kernel_rfl) (Eq.mp (by kernel_rfl) h)
theorem n_integer_Add : Enters Tryz.prog 14 := enters_of Tryz.func14 (by kernel_rfl) rfl
def s_integer_Mul (P : Program) (t0 t1 : Value) (w : World) (R : Ending → World → Prop) : Prop :=
  Cl P 38 #[t0, t1] w (Pk R) fun t12 w =>
  Ex t12 0 w fun t13 w =>
  Ex t12 1 w fun t14 w =>
  Ex t12 2 w fun t15 w =>
  Al P 50 w fun t6 w =>
  Al P 50 w fun t7 w =>
  Sto P 50 t6 t13 w fun w =>
  Sto P 50 t7 t14 w fun w =>
  Un P .not t15 w fun t17 w =>
  If t17
  (R (.returned (.tuple #[(str []), (.int .i64 30)])) w)
  (Dv P true (Instr.fieldAt 50 t6 0) w.drew fun t18 =>
  Dv P false (Instr.loadAt 4 t18) w.drew fun t19 =>
  Dv P true (Instr.fieldAt 50 t7 0) w.drew fun t20 =>
  Dv P false (Instr.loadAt 4 t20) w.drew fun t21 =>
  Dv P true (bn .neq 4 false t19 t21) w.drew fun t22 =>
  Dv P true (Instr.fieldAt 50 t6 1) w.drew fun t23 =>
  Dv P false (Instr.loadAt 48 t23) w.drew fun t24 =>
  Dv P true (Instr.fieldAt 50 t7 1) w.drew fun t25 =>
  Dv P false (Instr.loadAt 48 t25) w.drew fun t26 =>
  Cl P 41 #[t24, t26] w.drew (Pk R) fun t27 w =>
  Ke P (Instr.loadAt 4 t18) t19 w <|
  Ke P (Instr.loadAt 4 t20) t21 w <|
  Dv P true (Instr.build 50 #[(0, t22), (1, t27)]) w fun t28 =>
  Cl P 40 #[t28] w (Pk R) fun t29 w =>
  ExP t29 0 fun t30 =>
  ExP t29 1 fun t31 =>
  R (.returned (.tuple #[t30, t31])) w)
theorem e_integer_Mul {t0 t1 : Value} {w : World} {R : Ending → World → Prop} (h : s_integer_Mul Tryz.prog t0 t1 w R) : Calls Tryz.prog 15 #[t0, t1] w R :=
  enter (h := (.sq .z (.sq .z (.sq (.sq .z (.cd (.sq .z .z) .z)) (.sq (.dr (.pur true 0 (.pur false 1 (.pur true 2 (.pur false 3 (.pur true 4 (.pur true 5 (.pur false 6 (.pur true 7 (.pur false 8 (.eff 9 [1, 3] (.pur true 10 (.eff 11 [] (.pur true 12 (.pur true 13 (.pur true 14 (.pur true 15 .done))))))))))))))))) .z))))) (args := [t0, t1]) Tryz.func15 (by kernel_rfl) (by kernel_rfl) (by kernel_rfl) (Eq.mp (by kernel_rfl) h)
theorem n_integer_Mul : Enters Tryz.prog 15 := enters_of Tryz.func15 (by kernel_rfl) rfl
def s_integer_Sub (P : Program) (t0 t1 : Value) (w : World) (R : Ending → World → Prop) : Prop :=
  Cl P 38 #[t0, t1] w (Pk R) fun t12 w =>
  Ex t12 0 w fun t13 w =>
  Ex t12 1 w fun t14 w =>
  Ex t12 2 w fun t15 w =>
  Al P 50 w fun t6 w =>
  Al P 50 w fun t7 w =>
  Sto P 50 t6 t13 w fun w =>
  Sto P 50 t7 t14 w fun w =>
  Un P .not t15 w fun t17 w =>
  If t17
  (R (.returned (.tuple #[(str []), (.int .i64 30)])) w)
  (Fa P 50 t7 0 w fun t18 w =>
  Ld P 4 t18 w fun t19 w =>
  Un P .not t19 w fun t20 w =>
  Fa P 50 t7 0 w fun t21 w =>
  Sto P 4 t21 t20 w fun w =>
  Ld P 50 t6 w fun t22 w =>
  Ld P 50 t7 w fun t23 w =>
  Cl P 39 #[t22, t23] w (Pk R) fun t24 w =>
  Cl P 40 #[t24] w (Pk R) fun t25 w =>
  Ex t25 0 w fun t26 w =>
  Ex t25 1 w fun t27 w =>
  R (.returned (.tuple #[t26, t27])) w)
theorem e_integer_Sub {t0 t1 : Value} {w : World} {R : Ending → World → Prop} (h : s_integer_Sub Tryz.prog t0 t1 w R) : Calls Tryz.prog 16 #[t0, t1] w R :=
  enter (h := (.sq .z (.sq .z (.sq (.sq .z (.cd (.sq .z .z) .z)) (.sq .z (.sq .z .z)))))) (args := [t0, t1]) Tryz.func16 (by kernel_rfl) (by kernel_rfl) (by kernel_rfl) (Eq.mp (by kernel_rfl) h)
theorem n_integer_Sub : Enters Tryz.prog 16 := enters_of Tryz.func16 (by kernel_rfl) rfl
def s_integer_Div (P : Program) (t0 t1 : Value) (w : World) (R : Ending → World → Prop) : Prop :=
  Cl P 38 #[t0, t1] w (Pk R) fun t19 w =>
  Ex t19 0 w fun t20 w =>
  Ex t19 1 w fun t21 w =>
  Ex t19 2 w fun t22 w =>
  Al P 50 w fun t7 w =>
  Al P 50 w fun t8 w =>
  Sto P 50 t7 t20 w fun w =>
  Sto P 50 t8 t21 w fun w =>
  Un P .not t22 w fun t24 w =>
  Gd t24 false (fun k => Fa P 50 t8 1 w k) w fun t26 w =>
  Gd t24 false (fun k => Ld P 48 t26 w k) w fun t27 w =>
  Gd t24 false (fun k => Bt P .len #[48] 3 #[t27] w k) w fun t28 w =>
  Gd t24 false (fun k => Bn P .eql 3 true t28 (.int .i64 0) w k) w fun t29 w =>
  Pick t24 (.bool true) t29 w fun t30 w =>
  If t30
  (R (.returned (.tuple #[(str []), (str []), (.int .i64 30)])) w)
  (Fa P 50 t7 1 w fun t32 w =>
  Ld P 48 t32 w fun t33 w =>
  Fa P 50 t8 1 w fun t34 w =>
  Ld P 48 t34 w fun t35 w =>
  Cl P 42 #[t33, t35] w (Pk R) fun t36 w =>
  Ex t36 0 w fun t37 w =>
  Ex t36 1 w fun t38 w =>
  Jn2 (fun k1 =>
  Fa P 50 t7 0 w fun t39 w =>
  Ld P 4 t39 w fun t40 w =>
  Gd t40 true (fun k => k t38 w) w fun t42 w =>
  Gd t40 true (fun k => Bt P .len #[48] 3 #[t42] w k) w fun t43 w =>
  Gd t40 true (fun k => Bn P .gtr 3 true t43 (.int .i64 0) w k) w fun t44 w =>
  Pick t40 t44 (.bool false) w fun t45 w =>
  If t45
  (Dv P true (Instr.fieldAt 50 t8 1) w.drew fun t49 =>
  Dv P false (Instr.loadAt 48 t49) w.drew fun t50 =>
  Cl P 44 #[] w.drew (Pk R) fun t47 w =>
  Ke P (Instr.loadAt 48 t49) t50 w <|
  Cl P 43 #[t37, t47] w (Pk R) fun t48 w =>
  Ke P (Instr.loadAt 48 t49) t50 w <|
  Cl P 45 #[t50, t38] w (Pk R) fun t52 w =>
  k1 t48 t52 w)
  (k1 t37 t38 w))
  (fun t10 t11 w =>
  Fa P 50 t7 0 w fun t54 w =>
  Ld P 4 t54 w fun t55 w =>
  Fa P 50 t8 0 w fun t56 w =>
  Ld P 4 t56 w fun t57 w =>
  Bn P .neq 4 false t55 t57 w fun t58 w =>
  Bd P 50 [(0, t58), (1, t10)] w fun t60 w =>
  Cl P 40 #[t60] w (Pk R) fun t61 w =>
  Ex t61 0 w fun t62 w =>
  Ex t61 1 w fun t63 w =>
  Bn P .neq 24 true t63 (.int .i64 0) w fun t65 w =>
  If t65
  (R (.returned (.tuple #[(str []), (str []), t63])) w)
  (Bd P 50 [(1, t11)] w fun t69 w =>
  Cl P 40 #[t69] w (Pk R) fun t70 w =>
  Ex t70 0 w fun t71 w =>
  Ex t70 1 w fun t72 w =>
  R (.returned (.tuple #[t62, t71, (.int .i64 0)])) w)))
theorem e_integer_Div {t0 t1 : Value} {w : World} {R : Ending → World → Prop} (h : s_integer_Div Tryz.prog t0 t1 w R) : Calls Tryz.prog 17 #[t0, t1] w R :=
  enter (h := (.sq .z (.sq .z (.sq (.sq .z (.cd (.sq .z .z) .z)) (.sq .z (.jn [10, 11] [39, 40, 41, 42, 43, 44, 45, 46, 47, 48, 49, 50, 51, 52] (.sq .z (.cd (.dr (.pur true 0 (.pur true 3 (.pur false 4 (.pur true 5 (.eff 1 [4] (.eff 2 [4] (.eff 6 [] (.pur true 7 (.pur true 8 .done)))))))))) .z)) (.sq .z (.sq (.sq .z (.cd (.sq .z .z) .z)) (.sq .z (.sq .z .z)))))))))) (args := [t0, t1]) Tryz.func17 (by kernel_rfl) (by kernel_rfl) (by kernel_rfl) (Eq.mp (by kernel_rfl) h)
theorem n_integer_Div : Enters Tryz.prog 17 := enters_of Tryz.func17 (by kernel_rfl) rfl
def s_integer_Compare (P : Program) (t0 t1 : Value) (w : World) (R : Ending → World → Prop) : Prop :=
  Cl P 38 #[t0, t1] w (Pk R) fun t11 w =>
  Ex t11 0 w fun t12 w =>
  Ex t11 1 w fun t13 w =>
  Ex t11 2 w fun t14 w =>
  Al P 50 w fun t5 w =>
  Al P 50 w fun t6 w =>
  Sto P 50 t5 t12 w fun w =>
  Sto P 50 t6 t13 w fun w =>
  Un P .not t14 w fun t17 w =>
  If t17
  (R (.returned (.int .i64 0)) w)
  (Fa P 50 t5 0 w fun t19 w =>
  Ld P 4 t19 w fun t20 w =>
  Gd t20 true (fun k => Fa P 50 t6 0 w k) w fun t22 w =>
  Gd t20 true (fun k => Ld P 4 t22 w k) w fun t23 w =>
  Pick t20 t23 (.bool false) w fun t24 w =>
  If t24
  (Fa P 50 t6 1 w fun t25 w =>
  Ld P 48 t25 w fun t26 w =>
  Fa P 50 t5 1 w fun t27 w =>
  Ld P 48 t27 w fun t28 w =>
  Cl P 46 #[t26, t28] w (Pk R) fun t29 w =>
  R (.returned t29) w)
  (Fa P 50 t5 0 w fun t31 w =>
  Ld P 4 t31 w fun t32 w =>
  If t32
  (R (.returned (.int .i64 (-1))) w)
  (Fa P 50 t6 0 w fun t34 w =>
  Ld P 4 t34 w fun t35 w =>
  If t35
  (R (.returned (.int .i64 1)) w)
  (Fa P 50 t5 1 w fun t36 w =>
  Ld P 48 t36 w fun t37 w =>
  Fa P 50 t6 1 w fun t38 w =>
  Ld P 48 t38 w fun t39 w =>
  Cl P 46 #[t37, t39] w (Pk R) fun t40 w =>
  R (.returned t40) w))))
theorem e_integer_Compare {t0 t1 : Value} {w : World} {R : Ending → World → Prop} (h : s_integer_Compare Tryz.prog t0 t1 w R) : Calls Tryz.prog 18 #[t0, t1] w R :=
  enter (h := (.sq .z (.sq .z (.sq (.bk (.sq .z (.cd (.sq .z .z) (.sq .z (.cd (.sq .z .z) (.sq .z (.cd (.sq .z .z) (.sq .z (.cd (.sq .z .z) .z))))))))) (.sq .z .z))))) (args := [t0, t1]) Tryz.func18 (by kernel_rfl) (by kernel_rfl) (by kernel_rfl) (Eq.mp (by kernel_rfl) h)
theorem n_integer_Compare : Enters Tryz.prog 18 := enters_of Tryz.func18 (by kernel_rfl) rfl
def s_integer_Valid (P : Program) (t0 : Value) (w : World) (R : Ending → World → Prop) : Prop :=
  Cl P 47 #[t0] w (Pk R) fun t4 w =>
  R (.returned t4) w
theorem e_integer_Valid {t0 : Value} {w : World} {R : Ending → World → Prop} (h : s_integer_Valid Tryz.prog t0 w R) : Calls Tryz.prog 19 #[t0] w R :=
  enter (h := (.sq .z (.sq .z .z))) (args := [t0]) Tryz.func19 (by kernel_rfl) (by kernel_rfl) (by kernel_rfl) (Eq.mp (by kernel_rfl) h)
theorem n_integer_Valid : Enters Tryz.prog 19 := enters_of Tryz.func19 (by kernel_rfl) rfl
def s_integer_Gcd (P : Program) (t0 t1 : Value) (w : World) (R : Ending → World → Prop) : Prop :=
  Cl P 38 #[t0, t1] w (Pk R) fun t16 w =>
  Ex t16 0 w fun t17 w =>
  Ex t16 1 w fun t18 w =>
  Ex t16 2 w fun t19 w =>
  Al P 50 w fun t6 w =>
  Al P 50 w fun t7 w =>
  Sto P 50 t6 t17 w fun w =>
  Sto P 50 t7 t18 w fun w =>
  Un P .not t19 w fun t21 w =>
  If t21
  (R (.returned (.tuple #[(str []), (.int .i64 30)])) w)
  (Dv P true (Instr.fieldAt 50 t6 1) w.drew fun t22 =>
  Dv P false (Instr.loadAt 48 t22) w.drew fun t23 =>
  Dv P true (Instr.fieldAt 50 t7 1) w.drew fun t24 =>
  Dv P false (Instr.loadAt 48 t24) w.drew fun t25 =>
  Lp2 t23 t25 w.drew (fun t9 t10 w k1 =>
  Bt P .len #[48] 3 #[t10] w fun t27 w =>
  Bn P .gtr 3 true t27 (.int .i64 0) w fun t28 w =>
  If t28
  (Cl P 42 #[t9, t10] w (Pk R) fun t32 w =>
  Ex t32 0 w fun t33 w =>
  Ex t32 1 w fun t34 w =>
  k1 t10 t34 w)
  (Bd P 50 [(1, t9)] w fun t38 w =>
  Cl P 40 #[t38] w (Pk R) fun t39 w =>
  Ex t39 0 w fun t40 w =>
  Ex t39 1 w fun t41 w =>
  R (.returned (.tuple #[t40, t41])) w)))
theorem e_integer_Gcd {t0 t1 : Value} {w : World} {R : Ending → World → Prop} (h : s_integer_Gcd Tryz.prog t0 t1 w R) : Calls Tryz.prog 20 #[t0, t1] w R :=
  enter (h := (.sq .z (.sq .z (.sq (.sq .z (.cd (.sq .z .z) .z)) (.sq (.dr (.pur true 0 (.pur false 1 (.pur true 2 (.pur false 3 (.pur true 4 (.pur true 5 .done))))))) (.sq (.bk (.lp [9, 10] [11, 12, 26, 27, 28, 29, 30, 31, 32, 33, 34, 35, 36] (.sq (.sq .z (.cd .z .z)) (.bk (.sq .z .z))))) (.sq .z .z))))))) (args := [t0, t1]) Tryz.func20 (by kernel_rfl) (by kernel_rfl) (by kernel_rfl) (Eq.mp (by kernel_rfl) h)
theorem n_integer_Gcd : Enters Tryz.prog 20 := enters_of Tryz.func20 (by kernel_rfl) rfl
def s_integer_Root (P : Program) (t0 : Value) (w : World) (R : Ending → World → Prop) : Prop :=
  Cl P 38 #[t0, (str [48])] w (Pk R) fun t14 w =>
  Ex t14 0 w fun t15 w =>
  Ex t14 1 w fun t16 w =>
  Ex t14 2 w fun t17 w =>
  Al P 50 w fun t4 w =>
  Al P 50 w fun t5 w =>
  Sto P 50 t4 t15 w fun w =>
  Sto P 50 t5 t16 w fun w =>
  Un P .not t17 w fun t19 w =>
  Gd t19 false (fun k => Fa P 50 t4 0 w k) w fun t21 w =>
  Gd t19 false (fun k => Ld P 4 t21 w k) w fun t22 w =>
  Pick t19 (.bool true) t22 w fun t23 w =>
  If t23
  (R (.returned (.tuple #[(str []), (.int .i64 30)])) w)
  (Fa P 50 t4 1 w fun t24 w =>
  Ld P 48 t24 w fun t25 w =>
  Bt P .len #[48] 3 #[t25] w fun t26 w =>
  Bn P .add 3 true t26 (.int .i64 1) w fun t27 w =>
  Bn P .quo 3 true t27 (.int .i64 2) w fun t28 w =>
  Ms P 48 t28 t28 w fun t29 w =>
  Bs P 48 1 [(0, (.int .i64 1))] w fun t30 w =>
  Bt P .append #[48, 48] 48 #[t29, t30] w fun t31 w =>
  Lp1 t31 w (fun t7 w k1 =>
  Fa P 50 t4 1 w fun t32 w =>
  Ld P 48 t32 w fun t33 w =>
  Bt P .len #[48] 3 #[t33] w fun t34 w =>
  Bn P .gtr 3 true t34 (.int .i64 0) w fun t35 w =>
  If t35
  (Fa P 50 t4 1 w fun t37 w =>
  Ld P 48 t37 w fun t38 w =>
  Cl P 42 #[t38, t7] w (Pk R) fun t40 w =>
  Ex t40 0 w fun t41 w =>
  Ex t40 1 w fun t42 w =>
  Cl P 43 #[t7, t41] w (Pk R) fun t46 w =>
  Bs P 48 1 [(0, (.int .i64 2))] w fun t47 w =>
  Cl P 42 #[t46, t47] w (Pk R) fun t48 w =>
  Ex t48 0 w fun t49 w =>
  Ex t48 1 w fun t50 w =>
  Cl P 46 #[t49, t7] w (Pk R) fun t53 w =>
  Bn P .geq 3 true t53 (.int .i64 0) w fun t54 w =>
  If t54
  (Bd P 50 [(1, t7)] w fun t56 w =>
  Cl P 40 #[t56] w (Pk R) fun t57 w =>
  Ex t57 0 w fun t58 w =>
  Ex t57 1 w fun t59 w =>
  R (.returned (.tuple #[t58, t59])) w)
  (k1 t49 w))
  (R (.returned (.tuple #[(str [48]), (.int .i64 0)])) w)))
theorem e_integer_Root {t0 : Value} {w : World} {R : Ending → World → Prop} (h : s_integer_Root Tryz.prog t0 w R) : Calls Tryz.prog 21 #[t0] w R :=
  enter (h := (.sq .z (.sq .z (.sq (.sq .z (.cd (.sq .z .z) .z)) (.sq .z (.sq (.bk (.lp [7] [2, 3, 8, 9, 10, 11, 32, 33, 34, 35, 36, 37, 38, 39, 40, 41, 42, 43, 44, 45, 46, 47, 48, 49, 50, 51, 52, 53, 54, 55, 56, 57, 58, 59, 60] (.sq (.sq .z (.cd .z .z)) (.bk (.sq .z (.sq .z (.sq (.sq .z (.cd (.sq .z .z) .z)) .z))))))) (.sq .z .z))))))) (args := [t0]) Tryz.func21 (by kernel_rfl) (by kernel_rfl) (by kernel_rfl) (Eq.mp (by kernel_rfl) h)
theorem n_integer_Root : Enters Tryz.prog 21 := enters_of Tryz.func21 (by kernel_rfl) rfl
def s_law03_nines (P : Program) (t0 : Value) (w : World) (R : Ending → World → Prop) : Prop :=
  Lp2 (str []) (.int .i64 0) w (fun t3 t4 w k1 =>
  Bn P .lss 3 false t4 t0 w fun t7 w =>
  If t7
  (Bn P .add 9 true t3 (str [57]) w fun t11 w =>
  Bn P .add 3 true t4 (.int .i64 1) w fun t9 w =>
  k1 t11 t9 w)
  (R (.returned t3) w))
theorem e_law03_nines {t0 : Value} {w : World} {R : Ending → World → Prop} (h : s_law03_nines Tryz.prog t0 w R) : Calls Tryz.prog 22 #[t0] w R :=
  enter (h := (.sq .z (.sq .z (.sq (.sq .z (.bk (.lp [3, 4] [5, 6, 7, 8, 9, 10, 11] (.sq (.sq .z (.cd .z .z)) (.sq (.bk .z) .z))))) (.sq .z .z))))) (args := [t0]) Tryz.func22 (by kernel_rfl) (by kernel_rfl) (by kernel_rfl) (Eq.mp (by kernel_rfl) h)
theorem n_law03_nines : Enters Tryz.prog 22 := enters_of Tryz.func22 (by kernel_rfl) rfl
def s_law03_pick (P : Program) (t0 t1 : Value) (w : World) (R : Ending → World → Prop) : Prop :=
  Bn P .lss 3 true t0 (.int .i64 0) w fun t6 w =>
  If t6
  (Bn P .add 3 true t0 (.int .i64 1) w fun t8 w =>
  Un P .neg t8 w fun t9 w =>
  Bn P .rem 3 false t9 t1 w fun t12 w =>
  R (.returned t12) w)
  (Bn P .rem 3 false t0 t1 w fun t12x1 w =>
  R (.returned t12x1) w)
theorem e_law03_pick {t0 t1 : Value} {w : World} {R : Ending → World → Prop} (h : s_law03_pick Tryz.prog t0 t1 w R) : Calls Tryz.prog 23 #[t0, t1] w R :=
  enter (h := (.sq .z (.sq (.sq .z (.cd .z .z)) (.sq .z .z)))) (args := [t0, t1]) Tryz.func23 (by kernel_rfl) (by kernel_rfl) (by kernel_rfl) (Eq.mp (by kernel_rfl) h)
theorem n_law03_pick : Enters Tryz.prog 23 := enters_of Tryz.func23 (by kernel_rfl) rfl
def s_ref03_FromInt (P : Program) (t0 : Value) (w : World) (R : Ending → World → Prop) : Prop :=
  Lp2 (.slice none 0 0) t0 w (fun t3 t4 w k1 =>
  Bn P .neq 3 true t4 (.int .i64 0) w fun t10 w =>
  If t10
  (Bn P .rem 3 true t4 (.int .i64 10) w fun t14 w =>
  Bn P .lss 3 true t14 (.int .i64 0) w fun t16 w =>
  If t16
  (Un P .neg t14 w fun t18 w =>
  Bs P 44 1 [(0, t18)] w fun t21 w =>
  Bt P .append #[44, 44] 44 #[t3, t21] w fun t22 w =>
  Bn P .quo 3 true t4 (.int .i64 10) w fun t12 w =>
  k1 t22 t12 w)
  (Bs P 44 1 [(0, t14)] w fun t21x1 w =>
  Bt P .append #[44, 44] 44 #[t3, t21x1] w fun t22x1 w =>
  Bn P .quo 3 true t4 (.int .i64 10) w fun t12x1 w =>
  k1 t22x1 t12x1 w))
  (Bn P .lss 3 true t0 (.int .i64 0) w fun t25 w =>
  Cl P 36 #[t25, t3] w (Pk R) fun t27 w =>
  Ex t27 0 w fun t28 w =>
  Ex t27 1 w fun t29 w =>
  R (.returned t28) w))
theorem e_ref03_FromInt {t0 : Value} {w : World} {R : Ending → World → Prop} (h : s_ref03_FromInt Tryz.prog t0 w R) : Calls Tryz.prog 24 #[t0] w R :=
  enter (h := (.sq .z (.sq .z (.sq (.sq .z (.bk (.lp [3, 4] [5, 9, 10, 11, 12, 13, 14, 15, 16, 17, 18, 19, 20, 21, 22] (.sq (.sq .z (.cd .z .z)) (.sq (.bk (.sq .z (.sq (.sq .z (.cd .z .z)) .z))) .z))))) (.sq .z (.sq .z .z)))))) (args := [t0]) Tryz.func24 (by kernel_rfl) (by kernel_rfl) (by kernel_rfl) (Eq.mp (by kernel_rfl) h)
theorem n_ref03_FromInt : Enters Tryz.prog 24 := enters_of Tryz.func24 (by kernel_rfl) rfl
def s_ref03_Add (P : Program) (t0 t1 : Value) (w : World) (R : Ending → World → Prop) : Prop :=
  Cl P 33 #[t0] w (Pk R) fun t11 w =>
  Un P .not t11 w fun t12 w =>
  Gd t12 false (fun k => k t1 w) w fun t14 w =>
  Gd t12 false (fun k => Cl P 33 #[t14] w (Pk R) k) w fun t15 w =>
  Gd t12 false (fun k => Un P .not t15 w k) w fun t16 w =>
  Pick t12 (.bool true) t16 w fun t17 w =>
  If t17
  (R (.returned (.tuple #[(str []), (.int .i64 30)])) w)
  (Cl P 48 #[t0] w (Pk R) fun t20 w =>
  Ex t20 0 w fun t21 w =>
  Ex t20 1 w fun t22 w =>
  Cl P 48 #[t1] w (Pk R) fun t25 w =>
  Ex t25 0 w fun t26 w =>
  Ex t25 1 w fun t27 w =>
  Cl P 49 #[t21, t22, t26, t27] w (Pk R) fun t32 w =>
  Ex t32 0 w fun t33 w =>
  Ex t32 1 w fun t34 w =>
  R (.returned (.tuple #[t33, t34])) w)
theorem e_ref03_Add {t0 t1 : Value} {w : World} {R : Ending → World → Prop} (h : s_ref03_Add Tryz.prog t0 t1 w R) : Calls Tryz.prog 25 #[t0, t1] w R :=
  enter (h := (.sq .z (.sq (.sq .z (.cd (.sq .z .z) .z)) (.sq .z (.sq .z (.sq .z .z)))))) (args := [t0, t1]) Tryz.func25 (by kernel_rfl) (by kernel_rfl) (by kernel_rfl) (Eq.mp (by kernel_rfl) h)
theorem n_ref03_Add : Enters Tryz.prog 25 := enters_of Tryz.func25 (by kernel_rfl) rfl
def s_ref03_Sub (P : Program) (t0 t1 : Value) (w : World) (R : Ending → World → Prop) : Prop :=
  Cl P 33 #[t0] w (Pk R) fun t11 w =>
  Un P .not t11 w fun t12 w =>
  Gd t12 false (fun k => k t1 w) w fun t14 w =>
  Gd t12 false (fun k => Cl P 33 #[t14] w (Pk R) k) w fun t15 w =>
  Gd t12 false (fun k => Un P .not t15 w k) w fun t16 w =>
  Pick t12 (.bool true) t16 w fun t17 w =>
  If t17
  (R (.returned (.tuple #[(str []), (.int .i64 30)])) w)
  (Cl P 48 #[t0] w (Pk R) fun t20 w =>
  Ex t20 0 w fun t21 w =>
  Ex t20 1 w fun t22 w =>
  Cl P 48 #[t1] w (Pk R) fun t25 w =>
  Ex t25 0 w fun t26 w =>
  Ex t25 1 w fun t27 w =>
  Un P .not t26 w fun t31 w =>
  Cl P 49 #[t21, t22, t31, t27] w (Pk R) fun t33 w =>
  Ex t33 0 w fun t34 w =>
  Ex t33 1 w fun t35 w =>
  R (.returned (.tuple #[t34, t35])) w)
theorem e_ref03_Sub {t0 t1 : Value} {w : World} {R : Ending → World → Prop} (h : s_ref03_Sub Tryz.prog t0 t1 w R) : Calls Tryz.prog 26 #[t0, t1] w R :=
  enter (h := (.sq .z (.sq (.sq .z (.cd (.sq .z .z) .z)) (.sq .z (.sq .z (.sq .z .z)))))) (args := [t0, t1]) Tryz.func26 (by kernel_rfl) (by kernel_rfl) (by kernel_rfl) (Eq.mp (by kernel_rfl) h)
theorem n_ref03_Sub : Enters Tryz.prog 26 := enters_of Tryz.func26 (by kernel_rfl) rfl
def s_ref03_Mul (P : Program) (t0 t1 : Value) (w : World) (R : Ending → World → Prop) : Prop :=
  Cl P 33 #[t0] w (Pk R) fun t11 w =>
  Un P .not t11 w fun t12 w =>
  Gd t12 false (fun k => k t1 w) w fun t14 w =>
  Gd t12 false (fun k => Cl P 33 #[t14] w (Pk R) k) w fun t15 w =>
  Gd t12 false (fun k => Un P .not t15 w k) w fun t16 w =>
  Pick t12 (.bool true) t16 w fun t17 w =>
  If t17
  (R (.returned (.tuple #[(str []), (.int .i64 30)])) w)
  (Cl P 48 #[t0] w (Pk R) fun t20 w =>
  Ex t20 0 w fun t21 w =>
  Ex t20 1 w fun t22 w =>
  Cl P 48 #[t1] w (Pk R) fun t25 w =>
  Ex t25 0 w fun t26 w =>
  Ex t25 1 w fun t27 w =>
  Bn P .neq 4 false t21 t26 w fun t30 w =>
  Cl P 51 #[t22, t27] w (Pk R) fun t33 w =>
  Cl P 50 #[t30, t33] w (Pk R) fun t34 w =>
  Ex t34 0 w fun t35 w =>
  Ex t34 1 w fun t36 w =>
  R (.returned (.tuple #[t35, t36])) w)
theorem e_ref03_Mul {t0 t1 : Value} {w : World} {R : Ending → World → Prop} (h : s_ref03_Mul Tryz.prog t0 t1 w R) : Calls Tryz.prog 27 #[t0, t1] w R :=
  enter (h := (.sq .z (.sq (.sq .z (.cd (.sq .z .z) .z)) (.sq .z (.sq .z (.sq .z .z)))))) (args := [t0, t1]) Tryz.func27 (by kernel_rfl) (by kernel_rfl) (by kernel_rfl) (Eq.mp (by kernel_rfl) h)
theorem n_ref03_Mul : Enters Tryz.prog 27 := enters_of Tryz.func27 (by kernel_rfl) rfl
def s_ref03_Div (P : Program) (t0 t1 : Value) (w : World) (R : Ending → World → Prop) : Prop :=
  Cl P 33 #[t0] w (Pk R) fun t18 w =>
  Un P .not t18 w fun t19 w =>
  Gd t19 false (fun k => k t1 w) w fun t21 w =>
  Gd t19 false (fun k => Cl P 33 #[t21] w (Pk R) k) w fun t22 w =>
  Gd t19 false (fun k => Un P .not t22 w k) w fun t23 w =>
  Pick t19 (.bool true) t23 w fun t24 w =>
  Gd t24 false (fun k => k t1 w) w fun t26 w =>
  Gd t24 false (fun k => Bn P .eql 9 true t26 (str [48]) w k) w fun t27 w =>
  Pick t24 (.bool true) t27 w fun t28 w =>
  If t28
  (R (.returned (.tuple #[(str []), (str []), (.int .i64 30)])) w)
  (Cl P 48 #[t0] w (Pk R) fun t31 w =>
  Ex t31 0 w fun t32 w =>
  Ex t31 1 w fun t33 w =>
  Cl P 48 #[t1] w (Pk R) fun t36 w =>
  Ex t36 0 w fun t37 w =>
  Ex t36 1 w fun t38 w =>
  Cl P 52 #[t33, t38] w (Pk R) fun t42 w =>
  Ex t42 0 w fun t43 w =>
  Ex t42 1 w fun t44 w =>
  Jn2 (fun k1 =>
  Gd t32 true (fun k => k t44 w) w fun t47 w =>
  Gd t32 true (fun k => Bt P .len #[44] 3 #[t47] w k) w fun t48 w =>
  Gd t32 true (fun k => Bn P .gtr 3 true t48 (.int .i64 0) w k) w fun t49 w =>
  Pick t32 t49 (.bool false) w fun t50 w =>
  If t50
  (Bs P 44 1 [(0, (.int .i64 1))] w fun t52 w =>
  Cl P 53 #[t43, t52] w (Pk R) fun t53 w =>
  Cl P 54 #[t38, t44] w (Pk R) fun t56 w =>
  k1 t53 t56 w)
  (k1 t43 t44 w))
  (fun t11 t12 w =>
  Bn P .neq 4 false t32 t37 w fun t60 w =>
  Cl P 50 #[t60, t11] w (Pk R) fun t62 w =>
  Ex t62 0 w fun t63 w =>
  Ex t62 1 w fun t64 w =>
  Cl P 36 #[(.bool false), t12] w (Pk R) fun t67 w =>
  Ex t67 0 w fun t68 w =>
  Ex t67 1 w fun t69 w =>
  Bn P .neq 24 true t64 (.int .i64 0) w fun t71 w =>
  If t71
  (R (.returned (.tuple #[(str []), (str []), t64])) w)
  (R (.returned (.tuple #[t63, t68, (.int .i64 0)])) w)))
theorem e_ref03_Div {t0 t1 : Value} {w : World} {R : Ending → World → Prop} (h : s_ref03_Div Tryz.prog t0 t1 w R) : Calls Tryz.prog 28 #[t0, t1] w R :=
  enter (h := (.sq .z (.sq (.sq .z (.cd (.sq .z .z) .z)) (.sq .z (.sq .z (.sq .z (.jn [11, 12] [45, 46, 47, 48, 49, 50, 51, 52, 53, 54, 55, 56] (.sq .z (.cd (.sq .z .z) .z)) (.sq .z (.sq .z (.sq (.sq .z (.cd (.sq .z .z) .z)) (.sq .z .z))))))))))) (args := [t0, t1]) Tryz.func28 (by kernel_rfl) (by kernel_rfl) (by kernel_rfl) (Eq.mp (by kernel_rfl) h)
theorem n_ref03_Div : Enters Tryz.prog 28 := enters_of Tryz.func28 (by kernel_rfl) rfl
def s_ref03_Gcd (P : Program) (t0 t1 : Value) (w : World) (R : Ending → World → Prop) : Prop :=
  Cl P 33 #[t0] w (Pk R) fun t13 w =>
  Un P .not t13 w fun t14 w =>
  Gd t14 false (fun k => k t1 w) w fun t16 w =>
  Gd t14 false (fun k => Cl P 33 #[t16] w (Pk R) k) w fun t17 w =>
  Gd t14 false (fun k => Un P .not t17 w k) w fun t18 w =>
  Pick t14 (.bool true) t18 w fun t19 w =>
  If t19
  (R (.returned (.tuple #[(str []), (.int .i64 30)])) w)
  (Cl P 48 #[t0] w (Pk R) fun t22 w =>
  Ex t22 0 w fun t23 w =>
  Ex t22 1 w fun t24 w =>
  Cl P 48 #[t1] w (Pk R) fun t27 w =>
  Ex t27 0 w fun t28 w =>
  Ex t27 1 w fun t29 w =>
  Lp2 t24 t29 w (fun t7 t9 w k1 =>
  Bt P .len #[44] 3 #[t9] w fun t31 w =>
  Bn P .gtr 3 true t31 (.int .i64 0) w fun t32 w =>
  If t32
  (Cl P 52 #[t7, t9] w (Pk R) fun t36 w =>
  Ex t36 0 w fun t37 w =>
  Ex t36 1 w fun t38 w =>
  k1 t9 t38 w)
  (Cl P 50 #[(.bool false), t7] w (Pk R) fun t42 w =>
  Ex t42 0 w fun t43 w =>
  Ex t42 1 w fun t44 w =>
  R (.returned (.tuple #[t43, t44])) w)))
theorem e_ref03_Gcd {t0 t1 : Value} {w : World} {R : Ending → World → Prop} (h : s_ref03_Gcd Tryz.prog t0 t1 w R) : Calls Tryz.prog 29 #[t0, t1] w R :=
  enter (h := (.sq .z (.sq (.sq .z (.cd (.sq .z .z) .z)) (.sq .z (.sq .z (.sq (.bk (.lp [7, 9] [10, 11, 30, 31, 32, 33, 34, 35, 36, 37, 38, 39, 40] (.sq (.sq .z (.cd .z .z)) (.bk (.sq .z (.sq .z .z)))))) (.sq .z .z))))))) (args := [t0, t1]) Tryz.func29 (by kernel_rfl) (by kernel_rfl) (by kernel_rfl) (Eq.mp (by kernel_rfl) h)
theorem n_ref03_Gcd : Enters Tryz.prog 29 := enters_of Tryz.func29 (by kernel_rfl) rfl
def s_ref03_Root (P : Program) (t0 : Value) (w : World) (R : Ending → World → Prop) : Prop :=
  Cl P 33 #[t0] w (Pk R) fun t9 w =>
  Un P .not t9 w fun t10 w =>
  Gd t10 false (fun k => k t0 w) w fun t12 w =>
  Gd t10 false (fun k => Ix P 9 t12 (.int .i64 0) w k) w fun t13 w =>
  Gd t10 false (fun k => Bn P .eql 5 true t13 (.int .u8 45) w k) w fun t14 w =>
  Pick t10 (.bool true) t14 w fun t15 w =>
  If t15
  (R (.returned (.tuple #[(str []), (.int .i64 30)])) w)
  (Cl P 48 #[t0] w (Pk R) fun t18 w =>
  Ex t18 0 w fun t19 w =>
  Ex t18 1 w fun t20 w =>
  Bt P .len #[44] 3 #[t20] w fun t22 w =>
  Bn P .add 3 true t22 (.int .i64 1) w fun t23 w =>
  Bn P .quo 3 true t23 (.int .i64 2) w fun t24 w =>
  Ms P 44 t24 t24 w fun t25 w =>
  Bt P .len #[44] 3 #[t25] w fun t27 w =>
  Bn P .sub 3 true t27 (.int .i64 1) w fun t28 w =>
  Lp1 t28 w (fun t7 w k1 =>
  Bn P .geq 3 true t7 (.int .i64 0) w fun t30 w =>
  If t30
  (Ia P 44 t25 t7 w fun t35 w =>
  Sto P 3 t35 (.int .i64 9) w fun w =>
  Lp0 w (fun w k2 =>
  Ia P 44 t25 t7 w fun t38 w =>
  Ld P 3 t38 w fun t39 w =>
  Bn P .gtr 3 true t39 (.int .i64 0) w fun t40 w =>
  Gd t40 true (fun k => k t25 w) w fun t42 w =>
  Gd t40 true (fun k => Cl P 56 #[t42] w (Pk R) k) w fun t43 w =>
  Gd t40 true (fun k => k t25 w) w fun t44 w =>
  Gd t40 true (fun k => Cl P 56 #[t44] w (Pk R) k) w fun t45 w =>
  Gd t40 true (fun k => Cl P 51 #[t43, t45] w (Pk R) k) w fun t46 w =>
  Gd t40 true (fun k => k t20 w) w fun t47 w =>
  Gd t40 true (fun k => Cl P 55 #[t46, t47] w (Pk R) k) w fun t48 w =>
  Gd t40 true (fun k => Bn P .gtr 3 true t48 (.int .i64 0) w k) w fun t49 w =>
  Pick t40 t49 (.bool false) w fun t50 w =>
  If t50
  (Ia P 44 t25 t7 w fun t53 w =>
  Ld P 3 t53 w fun t54 w =>
  Bn P .sub 3 true t54 (.int .i64 1) w fun t55 w =>
  Ia P 44 t25 t7 w fun t56 w =>
  Sto P 3 t56 t55 w fun w =>
  k2 w)
  (Bn P .sub 3 true t7 (.int .i64 1) w fun t32 w =>
  k1 t32 w)))
  (Cl P 37 #[t25] w (Pk R) fun t58 w =>
  Cl P 50 #[(.bool false), t58] w (Pk R) fun t59 w =>
  Ex t59 0 w fun t60 w =>
  Ex t59 1 w fun t61 w =>
  R (.returned (.tuple #[t60, t61])) w)))
theorem e_ref03_Root {t0 : Value} {w : World} {R : Ending → World → Prop} (h : s_ref03_Root Tryz.prog t0 w R) : Calls Tryz.prog 30 #[t0] w R :=
  enter (h := (.sq .z (.sq (.sq .z (.cd (.sq .z .z) .z)) (.sq .z (.sq .z (.sq (.sq .z (.bk (.lp [7] [29, 30, 31, 32, 33, 34, 35, 36, 37, 38, 39, 40, 41, 42, 43, 44, 45, 46, 47, 48, 49, 50, 51, 52, 53, 54, 55, 56] (.sq (.sq .z (.cd .z .z)) (.sq (.bk (.sq .z (.bk (.lp [] [36, 37, 38, 39, 40, 41, 42, 43, 44, 45, 46, 47, 48, 49, 50, 51, 52, 53, 54, 55, 56] (.sq (.sq .z (.cd .z .z)) (.bk .z)))))) .z))))) (.sq .z .z))))))) (args := [t0]) Tryz.func30 (by kernel_rfl) (by kernel_rfl) (by kernel_rfl) (Eq.mp (by kernel_rfl) h)
theorem n_ref03_Root : Enters Tryz.prog 30 := enters_of Tryz.func30 (by kernel_rfl) rfl
def s_integer_ToInt (P : Program) (t0 : Value) (w : World) (R : Ending → World → Prop) : Prop :=
  Cl P 57 #[t0] w (Pk R) fun t8 w =>
  Ex t8 0 w fun t9 w =>
  Ex t8 1 w fun t10 w =>
  Cl P 47 #[t0] w (Pk R) fun t12 w =>
  Un P .not t12 w fun t13 w =>
  Gd t13 false (fun k => k t10 w) w fun t15 w =>
  Gd t13 false (fun k => Bn P .neq 69 true t15 .nilIface w k) w fun t16 w =>
  Pick t13 (.bool true) t16 w fun t17 w =>
  If t17
  (R (.returned (.tuple #[(.int .i64 0), (.int .i64 30)])) w)
  (R (.returned (.tuple #[t9, (.int .i64 0)])) w)
theorem e_integer_ToInt {t0 : Value} {w : World} {R : Ending → World → Prop} (h : s_integer_ToInt Tryz.prog t0 w R) : Calls Tryz.prog 31 #[t0] w R :=
  enter (h := (.sq .z (.sq .z (.sq (.sq .z (.cd (.sq .z .z) .z)) (.sq .z .z))))) (args := [t0]) Tryz.func31 (by kernel_rfl) (by kernel_rfl) (by kernel_rfl) (Eq.mp (by kernel_rfl) h)
theorem n_integer_ToInt : Enters Tryz.prog 31 := enters_of Tryz.func31 (by kernel_rfl) rfl
def s_ref03_ToInt (P : Program) (t0 : Value) (w : World) (R : Ending → World → Prop) : Prop :=
  Cl P 33 #[t0] w (Pk R) fun t8 w =>
  Un P .not t8 w fun t9 w =>
  Gd t9 false (fun k => k t0 w) w fun t11 w =>
  Gd t9 false (fun k => Cl P 34 #[t11, (str [45, 57, 50, 50, 51, 51, 55, 50, 48, 51, 54, 56, 53, 52, 55, 55, 53, 56, 48, 56])] w (Pk R) k) w fun t12 w =>
  Gd t9 false (fun k => Bn P .lss 3 true t12 (.int .i64 0) w k) w fun t13 w =>
  Pick t9 (.bool true) t13 w fun t14 w =>
  Gd t14 false (fun k => k t0 w) w fun t16 w =>
  Gd t14 false (fun k => Cl P 34 #[t16, (str [57, 50, 50, 51, 51, 55, 50, 48, 51, 54, 56, 53, 52, 55, 55, 53, 56, 48, 55])] w (Pk R) k) w fun t17 w =>
  Gd t14 false (fun k => Bn P .gtr 3 true t17 (.int .i64 0) w k) w fun t18 w =>
  Pick t14 (.bool true) t18 w fun t19 w =>
  If t19
  (R (.returned (.tuple #[(.int .i64 0), (.int .i64 30)])) w)
  (Lp2 (.int .i64 0) (.int .i64 0) w (fun t4 t5 w k1 =>
  Bt P .len #[9] 3 #[t0] w fun t22 w =>
  Bn P .lss 3 false t5 t22 w fun t23 w =>
  If t23
  (Ix P 9 t0 t5 w fun t28 w =>
  Bn P .eql 5 true t28 (.int .u8 45) w fun t29 w =>
  If t29
  (Bn P .add 3 true t5 (.int .i64 1) w fun t25 w =>
  k1 t4 t25 w)
  (Ix P 9 t0 t5 w fun t32 w =>
  Bn P .sub 5 true t32 (.int .u8 48) w fun t33 w =>
  Cv P 5 3 t33 w fun t34 w =>
  Ix P 9 t0 (.int .i64 0) w fun t36 w =>
  Bn P .eql 5 true t36 (.int .u8 45) w fun t37 w =>
  If t37
  (Un P .neg t34 w fun t39 w =>
  Bn P .mul 3 true (.int .i64 10) t4 w fun t41 w =>
  Bn P .add 3 false t41 t39 w fun t43 w =>
  Bn P .add 3 true t5 (.int .i64 1) w fun t25x1 w =>
  k1 t43 t25x1 w)
  (Bn P .mul 3 true (.int .i64 10) t4 w fun t41x1 w =>
  Bn P .add 3 false t41x1 t34 w fun t43x1 w =>
  Bn P .add 3 true t5 (.int .i64 1) w fun t25x2 w =>
  k1 t43x1 t25x2 w)))
  (R (.returned (.tuple #[t4, (.int .i64 0)])) w)))
theorem e_ref03_ToInt {t0 : Value} {w : World} {R : Ending → World → Prop} (h : s_ref03_ToInt Tryz.prog t0 w R) : Calls Tryz.prog 32 #[t0] w R :=
  enter (h := (.sq .z (.sq (.sq .z (.cd (.sq .z .z) .z)) (.sq .z (.sq (.sq .z (.bk (.lp [4, 5] [6, 20, 21, 22, 23, 24, 25, 26, 27, 28, 29, 30, 31, 32, 33, 34, 35, 36, 37, 38, 39, 40, 41, 42, 43] (.sq (.sq .z (.cd .z .z)) (.sq (.bk (.sq (.sq .z (.cd .z .z)) (.sq .z (.sq (.sq .z (.cd .z .z)) .z)))) .z))))) (.sq .z .z)))))) (args := [t0]) Tryz.func32 (by kernel_rfl) (by kernel_rfl) (by kernel_rfl) (Eq.mp (by kernel_rfl) h)
theorem n_ref03_ToInt : Enters Tryz.prog 32 := enters_of Tryz.func32 (by kernel_rfl) rfl
def s_ref03_Valid (P : Program) (t0 : Value) (w : World) (R : Ending → World → Prop) : Prop :=
  Jn1 (fun k1 =>
  Bt P .len #[9] 3 #[t0] w fun t5 w =>
  Bn P .gtr 3 true t5 (.int .i64 0) w fun t6 w =>
  Gd t6 true (fun k => k t0 w) w fun t8 w =>
  Gd t6 true (fun k => Ix P 9 t8 (.int .i64 0) w k) w fun t9 w =>
  Gd t6 true (fun k => Bn P .eql 5 true t9 (.int .u8 45) w k) w fun t10 w =>
  Pick t6 t10 (.bool false) w fun t11 w =>
  If t11
  (Sc P 9 t0 (some (.int .i64 1)) none none w fun t13 w =>
  Bn P .eql 9 true t13 (str [48]) w fun t15 w =>
  If t15
  (R (.returned (.bool false)) w)
  (k1 t13 w))
  (k1 t0 w))
  (fun t0x1 w =>
  Lp1 (.int .i64 0) w (fun t3 w k2 =>
  Bt P .len #[9] 3 #[t0x1] w fun t18 w =>
  Bn P .lss 3 false t3 t18 w fun t19 w =>
  If t19
  (Ix P 9 t0x1 t3 w fun t24 w =>
  Bn P .lss 5 true t24 (.int .u8 48) w fun t25 w =>
  Gd t25 false (fun k => k t0x1 w) w fun t27 w =>
  Gd t25 false (fun k => k t3 w) w fun t28 w =>
  Gd t25 false (fun k => Ix P 9 t27 t28 w k) w fun t29 w =>
  Gd t25 false (fun k => Bn P .gtr 5 true t29 (.int .u8 57) w k) w fun t30 w =>
  Pick t25 (.bool true) t30 w fun t31 w =>
  If t31
  (R (.returned (.bool false)) w)
  (Bn P .add 3 true t3 (.int .i64 1) w fun t21 w =>
  k2 t21 w))
  (Bt P .len #[9] 3 #[t0x1] w fun t33 w =>
  Bn P .gtr 3 true t33 (.int .i64 0) w fun t34 w =>
  Gd t34 true (fun k => k t0x1 w) w fun t36 w =>
  Gd t34 true (fun k => Bt P .len #[9] 3 #[t36] w k) w fun t37 w =>
  Gd t34 true (fun k => Bn P .leq 3 true t37 (.int .i64 200) w k) w fun t38 w =>
  Pick t34 t38 (.bool false) w fun t39 w =>
  Gd t39 true (fun k => k t0x1 w) w fun t41 w =>
  Gd t39 true (fun k => Bn P .eql 9 true t41 (str [48]) w k) w fun t42 w =>
  Gd t39 true (fun k => k t42 w) w fun t43 w =>
  Gd t43 false (fun k => k t0x1 w) w fun t44 w =>
  Gd t43 false (fun k => Ix P 9 t44 (.int .i64 0) w k) w fun t45 w =>
  Gd t43 false (fun k => Bn P .neq 5 true t45 (.int .u8 48) w k) w fun t46 w =>
  Gd t39 true (fun k => Pick t43 (.bool true) t46 w k) w fun t47 w =>
  Pick t39 t47 (.bool false) w fun t48 w =>
  R (.returned t48) w)))
theorem e_ref03_Valid {t0 : Value} {w : World} {R : Ending → World → Prop} (h : s_ref03_Valid Tryz.prog t0 w R) : Calls Tryz.prog 33 #[t0] w R :=
  enter (h := (.sq .z (.jn [0] [2, 4, 5, 6, 7, 8, 9, 10, 11, 12, 13, 14, 15] (.sq .z (.cd (.sq .z (.sq .z (.cd (.sq .z .z) .z))) .z)) (.sq (.sq .z (.bk (.lp [3] [2, 16, 17, 18, 19, 20, 21, 22, 23, 24, 25, 26, 27, 28, 29, 30, 31] (.sq (.sq .z (.cd .z .z)) (.sq (.bk (.sq .z (.cd (.sq .z .z) .z))) .z))))) (.sq .z .z))))) (args := [t0]) Tryz.func33 (by kernel_rfl) (by kernel_rfl) (by kernel_rfl) (Eq.mp (by kernel_rfl) h)
theorem n_ref03_Valid : Enters Tryz.prog 33 := enters_of Tryz.func33 (by kernel_rfl) rfl
def s_ref03_Compare (P : Program) (t0 t1 : Value) (w : World) (R : Ending → World → Prop) : Prop :=
  Cl P 33 #[t0] w (Pk R) fun t10 w =>
  Un P .not t10 w fun t11 w =>
  Gd t11 false (fun k => k t1 w) w fun t13 w =>
  Gd t11 false (fun k => Cl P 33 #[t13] w (Pk R) k) w fun t14 w =>
  Gd t11 false (fun k => Un P .not t14 w k) w fun t15 w =>
  Pick t11 (.bool true) t15 w fun t16 w =>
  If t16
  (R (.returned (.int .i64 0)) w)
  (Cl P 48 #[t0] w (Pk R) fun t19 w =>
  Ex t19 0 w fun t20 w =>
  Ex t19 1 w fun t21 w =>
  Cl P 48 #[t1] w (Pk R) fun t24 w =>
  Ex t24 0 w fun t25 w =>
  Ex t24 1 w fun t26 w =>
  Bn P .neq 4 false t20 t25 w fun t29 w =>
  If t29
  (If t20
  (R (.returned (.int .i64 (-1))) w)
  (R (.returned (.int .i64 1)) w))
  (If t20
  (Cl P 55 #[t26, t21] w (Pk R) fun t34 w =>
  R (.returned t34) w)
  (Cl P 55 #[t21, t26] w (Pk R) fun t37 w =>
  R (.returned t37) w)))
theorem e_ref03_Compare {t0 t1 : Value} {w : World} {R : Ending → World → Prop} (h : s_ref03_Compare Tryz.prog t0 t1 w R) : Calls Tryz.prog 34 #[t0, t1] w R :=
  enter (h := (.sq .z (.sq (.sq .z (.cd (.sq .z .z) .z)) (.sq .z (.sq .z (.sq (.sq .z (.cd (.sq (.sq .z (.cd (.sq .z .z) .z)) (.sq .z .z)) .z)) (.sq (.sq .z (.cd (.sq .z .z) .z)) (.sq .z .z)))))))) (args := [t0, t1]) Tryz.func34 (by kernel_rfl) (by kernel_rfl) (by kernel_rfl) (Eq.mp (by kernel_rfl) h)
theorem n_ref03_Compare : Enters Tryz.prog 34 := enters_of Tryz.func34 (by kernel_rfl) rfl
def s_integer_FromInt (P : Program) (t0 : Value) (w : World) (R : Ending → World → Prop) : Prop :=
  Cl P 58 #[t0] w (Pk R) fun t4 w =>
  R (.returned t4) w
theorem e_integer_FromInt {t0 : Value} {w : World} {R : Ending → World → Prop} (h : s_integer_FromInt Tryz.prog t0 w R) : Calls Tryz.prog 35 #[t0] w R :=
  enter (h := (.sq .z (.sq .z .z))) (args := [t0]) Tryz.func35 (by kernel_rfl) (by kernel_rfl) (by kernel_rfl) (Eq.mp (by kernel_rfl) h)
theorem n_integer_FromInt : Enters Tryz.prog 35 := enters_of Tryz.func35 (by kernel_rfl) rfl
def s_ref03_text (P : Program) (t0 t1 : Value) (w : World) (R : Ending → World → Prop) : Prop :=
  Bt P .len #[44] 3 #[t1] w fun t9 w =>
  Bn P .eql 3 true t9 (.int .i64 0) w fun t10 w =>
  If t10
  (R (.returned (.tuple #[(str [48]), (.bool true)])) w)
  (Jn1 (fun k1 =>
  If t0
  (Bs P 72 1 [(0, (.int .u8 45))] w fun t13 w =>
  Bt P .append #[72, 72] 72 #[(.slice none 0 0), t13] w fun t14 w =>
  k1 t14 w)
  (k1 (.slice none 0 0) w))
  (fun t6 w =>
  Bt P .len #[44] 3 #[t1] w fun t16 w =>
  Bn P .sub 3 true t16 (.int .i64 1) w fun t17 w =>
  Lp2 t6 t17 w (fun t6x1 t7 w k2 =>
  Bn P .geq 3 true t7 (.int .i64 0) w fun t19 w =>
  If t19
  (Ia P 44 t1 t7 w fun t25 w =>
  Ld P 3 t25 w fun t26 w =>
  Bn P .add 3 true (.int .i64 48) t26 w fun t27 w =>
  Cv P 3 5 t27 w fun t28 w =>
  Bs P 72 1 [(0, t28)] w fun t29 w =>
  Bt P .append #[72, 72] 72 #[t6x1, t29] w fun t30 w =>
  Bn P .sub 3 true t7 (.int .i64 1) w fun t21 w =>
  k2 t30 t21 w)
  (Cv P 72 9 t6x1 w fun t32 w =>
  Bt P .len #[44] 3 #[t1] w fun t34 w =>
  Bn P .leq 3 true t34 (.int .i64 200) w fun t35 w =>
  R (.returned (.tuple #[t32, t35])) w))))
theorem e_ref03_text {t0 t1 : Value} {w : World} {R : Ending → World → Prop} (h : s_ref03_text Tryz.prog t0 t1 w R) : Calls Tryz.prog 36 #[t0, t1] w R :=
  enter (h := (.sq .z (.sq (.sq .z (.cd (.sq .z .z) .z)) (.sq .z (.jn [6] [11, 12, 13, 14] (.sq .z (.cd .z .z)) (.sq (.sq .z (.bk (.lp [6, 7] [18, 19, 20, 21, 22, 23, 24, 25, 26, 27, 28, 29, 30] (.sq (.sq .z (.cd .z .z)) (.sq (.bk .z) .z))))) (.sq .z .z))))))) (args := [t0, t1]) Tryz.func36 (by kernel_rfl) (by kernel_rfl) (by kernel_rfl) (Eq.mp (by kernel_rfl) h)
theorem n_ref03_text : Enters Tryz.prog 36 := enters_of Tryz.func36 (by kernel_rfl) rfl
def s_ref03_trim (P : Program) (t0 : Value) (w : World) (R : Ending → World → Prop) : Prop :=
  Lp1 t0 w (fun t0x1 w k1 =>
  Bt P .len #[44] 3 #[t0x1] w fun t4 w =>
  Bn P .gtr 3 true t4 (.int .i64 0) w fun t5 w =>
  Gd t5 true (fun k => k t0x1 w) w fun t7 w =>
  Gd t5 true (fun k => k t0x1 w) w fun t8 w =>
  Gd t5 true (fun k => Bt P .len #[44] 3 #[t8] w k) w fun t9 w =>
  Gd t5 true (fun k => Bn P .sub 3 true t9 (.int .i64 1) w k) w fun t10 w =>
  Gd t5 true (fun k => Ia P 44 t7 t10 w k) w fun t11 w =>
  Gd t5 true (fun k => Ld P 3 t11 w k) w fun t12 w =>
  Gd t5 true (fun k => Bn P .eql 3 true t12 (.int .i64 0) w k) w fun t13 w =>
  Pick t5 t13 (.bool false) w fun t14 w =>
  If t14
  (Bt P .len #[44] 3 #[t0x1] w fun t17 w =>
  Bn P .sub 3 true t17 (.int .i64 1) w fun t18 w =>
  Sc P 44 t0x1 none (some t18) none w fun t19 w =>
  k1 t19 w)
  (R (.returned t0x1) w))
theorem e_ref03_trim {t0 : Value} {w : World} {R : Ending → World → Prop} (h : s_ref03_trim Tryz.prog t0 w R) : Calls Tryz.prog 37 #[t0] w R :=
  enter (h := (.sq .z (.sq (.bk (.lp [0] [3, 4, 5, 6, 7, 8, 9, 10, 11, 12, 13, 14, 15, 16, 17, 18, 19] (.sq (.sq .z (.cd .z .z)) (.bk .z)))) (.sq .z .z)))) (args := [t0]) Tryz.func37 (by kernel_rfl) (by kernel_rfl) (by kernel_rfl) (Eq.mp (by kernel_rfl) h)
theorem n_ref03_trim : Enters Tryz.prog 37 := enters_of Tryz.func37 (by kernel_rfl) rfl
def s_integer_both (P : Program) (t0 t1 : Value) (w : World) (R : Ending → World → Prop) : Prop :=
  Al P 50 w fun t4 w =>
  Al P 50 w fun t5 w =>
  Cl P 47 #[t0] w (Pk R) fun t8 w =>
  Un P .not t8 w fun t9 w =>
  Gd t9 false (fun k => k t1 w) w fun t11 w =>
  Gd t9 false (fun k => Cl P 47 #[t11] w (Pk R) k) w fun t12 w =>
  Gd t9 false (fun k => Un P .not t12 w k) w fun t13 w =>
  Pick t9 (.bool true) t13 w fun t14 w =>
  If t14
  (Bd P 50 [] w fun t15 w =>
  Bd P 50 [] w fun t16 w =>
  Sto P 50 t4 t15 w fun w =>
  Sto P 50 t5 t16 w fun w =>
  Rc P 50 t4 w fun r0 =>
  Rc P 50 t5 w fun r1 =>
  R (.returned (.tuple #[r0, r1, (.bool false)])) w)
  (Cl P 59 #[t0] w (Pk R) fun t18 w =>
  Cl P 59 #[t1] w (Pk R) fun t20 w =>
  Sto P 50 t4 t18 w fun w =>
  Sto P 50 t5 t20 w fun w =>
  Rc P 50 t4 w fun r0 =>
  Rc P 50 t5 w fun r1 =>
  R (.returned (.tuple #[r0, r1, (.bool true)])) w)
theorem e_integer_both {t0 t1 : Value} {w : World} {R : Ending → World → Prop} (h : s_integer_both Tryz.prog t0 t1 w R) : Calls Tryz.prog 38 #[t0, t1] w R :=
  enter (h := (.sq .z (.sq (.sq .z (.cd (.sq .z .z) .z)) (.sq .z .z)))) (args := [t0, t1]) Tryz.func38 (by kernel_rfl) (by kernel_rfl) (by kernel_rfl) (Eq.mp (by kernel_rfl) h)
theorem n_integer_both : Enters Tryz.prog 38 := enters_of Tryz.func38 (by kernel_rfl) rfl
def s_integer_signed_plus (P : Program) (t0 t1 : Value) (w : World) (R : Ending → World → Prop) : Prop :=
  Bx P 50 t0 w fun t2 w =>
  Bx P 50 t1 w fun t3 w =>
  Al P 50 w fun t4 w =>
  Fa P 50 t2 0 w fun t6 w =>
  Ld P 4 t6 w fun t7 w =>
  Fa P 50 t3 0 w fun t8 w =>
  Ld P 4 t8 w fun t9 w =>
  Bn P .eql 4 false t7 t9 w fun t10 w =>
  If t10
  (Dv P true (Instr.fieldAt 50 t2 0) w.drew fun t11 =>
  Dv P false (Instr.loadAt 4 t11) w.drew fun t12 =>
  Dv P true (Instr.fieldAt 50 t2 1) w.drew fun t13 =>
  Dv P false (Instr.loadAt 48 t13) w.drew fun t14 =>
  Dv P true (Instr.fieldAt 50 t3 1) w.drew fun t15 =>
  Dv P false (Instr.loadAt 48 t15) w.drew fun t16 =>
  Cl P 43 #[t14, t16] w.drew (Pk R) fun t17 w =>
  Ke P (Instr.loadAt 4 t11) t12 w <|
  Dv P true (Instr.build 50 #[(0, t12), (1, t17)]) w fun t18 =>
  Sto P 50 t4 t18 w fun w =>
  Rc P 50 t4 w fun r0 =>
  R (.returned r0) w)
  (Fa P 50 t2 1 w fun t20 w =>
  Ld P 48 t20 w fun t21 w =>
  Fa P 50 t3 1 w fun t22 w =>
  Ld P 48 t22 w fun t23 w =>
  Cl P 46 #[t21, t23] w (Pk R) fun t24 w =>
  Bn P .geq 3 true t24 (.int .i64 0) w fun t25 w =>
  If t25
  (Dv P true (Instr.fieldAt 50 t2 0) w.drew fun t26 =>
  Dv P false (Instr.loadAt 4 t26) w.drew fun t27 =>
  Dv P true (Instr.fieldAt 50 t2 1) w.drew fun t28 =>
  Dv P false (Instr.loadAt 48 t28) w.drew fun t29 =>
  Dv P true (Instr.fieldAt 50 t3 1) w.drew fun t30 =>
  Dv P false (Instr.loadAt 48 t30) w.drew fun t31 =>
  Cl P 45 #[t29, t31] w.drew (Pk R) fun t32 w =>
  Ke P (Instr.loadAt 4 t26) t27 w <|
  Dv P true (Instr.build 50 #[(0, t27), (1, t32)]) w fun t33 =>
  Sto P 50 t4 t33 w fun w =>
  Rc P 50 t4 w fun r0 =>
  R (.returned r0) w)
  (Dv P true (Instr.fieldAt 50 t3 0) w.drew fun t34 =>
  Dv P false (Instr.loadAt 4 t34) w.drew fun t35 =>
  Dv P true (Instr.fieldAt 50 t3 1) w.drew fun t36 =>
  Dv P false (Instr.loadAt 48 t36) w.drew fun t37 =>
  Dv P true (Instr.fieldAt 50 t2 1) w.drew fun t38 =>
  Dv P false (Instr.loadAt 48 t38) w.drew fun t39 =>
  Cl P 45 #[t37, t39] w.drew (Pk R) fun t40 w =>
  Ke P (Instr.loadAt 4 t34) t35 w <|
  Dv P true (Instr.build 50 #[(0, t35), (1, t40)]) w fun t41 =>
  Sto P 50 t4 t41 w fun w =>
  Rc P 50 t4 w fun r0 =>
  R (.returned r0) w))
theorem e_integer_signed_plus {t0 t1 : Value} {w : World} {R : Ending → World → Prop} (h : s_integer_signed_plus Tryz.prog t0 t1 w R) : Calls Tryz.prog 39 #[t0, t1] w R :=
  enter (h := (.sq .z (.sq (.bk (.sq .z (.cd (.sq (.dr (.pur true 0 (.pur false 1 (.pur true 2 (.pur false 3 (.pur true 4 (.pur false 5 (.eff 6 [1] (.pur true 7 (.eff 8 [] .done)))))))))) .z) (.sq .z (.cd (.sq (.dr (.pur true 0 (.pur false 1 (.pur true 2 (.pur false 3 (.pur true 4 (.pur false 5 (.eff 6 [1] (.pur true 7 (.eff 8 [] .done)))))))))) .z) .z))))) (.sq (.dr (.pur true 0 (.pur false 1 (.pur true 2 (.pur false 3 (.pur true 4 (.pur false 5 (.eff 6 [1] (.pur true 7 (.eff 8 [] .done)))))))))) .z)))) (args := [t0, t1]) Tryz.func39 (by kernel_rfl) (by kernel_rfl) (by kernel_rfl) (Eq.mp (by kernel_rfl) h)
theorem n_integer_signed_plus : Enters Tryz.prog 39 := enters_of Tryz.func39 (by kernel_rfl) rfl
def s_integer_signed_text (P : Program) (t0 : Value) (w : World) (R : Ending → World → Prop) : Prop :=
  Bx P 50 t0 w fun t1 w =>
  Fa P 50 t1 1 w fun t9 w =>
  Ld P 48 t9 w fun t10 w =>
  Bt P .len #[48] 3 #[t10] w fun t11 w =>
  Bn P .eql 3 true t11 (.int .i64 0) w fun t12 w =>
  If t12
  (R (.returned (.tuple #[(str [48]), (.int .i64 0)])) w)
  (Al P 76 w fun t4 w =>
  Fa P 50 t1 1 w fun t13 w =>
  Ld P 48 t13 w fun t14 w =>
  Cl P 60 #[t14] w (Pk R) fun t15 w =>
  Rf2 P t15 w (fun t16 t17 w next lv =>
  Cl P 58 #[t17] w (fun _ _ => False) fun t19 w =>
  Fa P 50 t1 1 w fun t21 w =>
  Ld P 48 t21 w fun t22 w =>
  Bt P .len #[48] 3 #[t22] w fun t23 w =>
  Bn P .sub 3 true t23 (.int .i64 1) w fun t24 w =>
  Bn P .lss 3 false t16 t24 w fun t25 w =>
  If t25
  (Bt P .len #[9] 3 #[t19] w fun t27 w =>
  Bn P .sub 3 true (.int .i64 4) t27 w fun t28 w =>
  Cl P 61 #[(str [48]), t28] w (fun _ _ => False) fun t29 w =>
  Bn P .add 9 false t29 t19 w fun t31 w =>
  Cl P 62 #[t4, t31] w (fun _ _ => False) fun t33 w =>
  next w)
  (Cl P 62 #[t4, t19] w (fun _ _ => False) fun t33x1 w =>
  next w))
  (fun D1 w =>
  Cl P 63 #[t4] w (fun c w => Tk P D1 w fun w => R (.panicked c) w) fun t34 w =>
  Bt P .len #[9] 3 #[t34] w fun t36 w =>
  Bn P .gtr 3 true t36 (.int .i64 200) w fun t37 w =>
  If t37
  (Tk P D1 w fun w =>
  R (.returned (.tuple #[(str []), (.int .i64 30)])) w)
  (Fa P 50 t1 0 w fun t38 w =>
  Ld P 4 t38 w fun t39 w =>
  If t39
  (Bn P .add 9 true (str [45]) t34 w fun t41 w =>
  Tk P D1 w fun w =>
  R (.returned (.tuple #[t41, (.int .i64 0)])) w)
  (Tk P D1 w fun w =>
  R (.returned (.tuple #[t34, (.int .i64 0)])) w)))
  (fun D1 w =>
  Tk P D1 w fun w =>
  R (.returned (.tuple #[(str []), (.int .i64 0)])) w) [])
theorem e_integer_signed_text {t0 : Value} {w : World} {R : Ending → World → Prop} (h : s_integer_signed_text Tryz.prog t0 w R) : Calls Tryz.prog 40 #[t0] w R :=
  enter (h := (.sq .z (.sq (.sq .z (.cd (.sq .z .z) .z)) (.sq .z (.sq (.sq .z (.bk (.rf (.bk (.sq .z (.sq (.sq .z (.cd .z .z)) .z))) []))) (.sq .z (.sq (.sq .z (.cd (.sq .z .z) .z)) (.sq (.sq .z (.cd (.sq .z .z) .z)) (.sq .z .z))))))))) (args := [t0]) Tryz.func40 (by kernel_rfl) (by kernel_rfl) (by kernel_rfl) (Eq.mp (by kernel_rfl) h)
theorem n_integer_signed_text : Enters Tryz.prog 40 := enters_of Tryz.func40 (by kernel_rfl) rfl
def s_integer_number_times (P : Program) (t0 t1 : Value) (w : World) (R : Ending → World → Prop) : Prop :=
  Bx P 48 t0 w fun t2 w =>
  Al P 48 w fun t5 w =>
  Cl P 60 #[t1] w (Pk R) fun t9 w =>
  Rf2 P t9 w (fun t10 t11 w next lv =>
  Jn0 (fun k1 =>
  Ld P 48 t5 w fun t12 w =>
  Bt P .len #[48] 3 #[t12] w fun t13 w =>
  Bn P .gtr 3 true t13 (.int .i64 0) w fun t14 w =>
  If t14
  (Bs P 48 1 [(0, (.int .i64 0))] w fun t15 w =>
  Ld P 48 t5 w fun t16 w =>
  Bt P .append #[48, 48] 48 #[t15, t16] w fun t17 w =>
  Sto P 48 t5 t17 w fun w =>
  k1 w)
  (k1 w))
  (fun w =>
  Dv P false (Instr.loadAt 48 t5) w.drew fun t18 =>
  Dv P false (Instr.loadAt 48 t2) w.drew fun t19 =>
  Cl P 64 #[t19, t11] w.drew (fun _ _ => False) fun t21 w =>
  Ke P (Instr.loadAt 48 t5) t18 w <|
  Cl P 43 #[t18, t21] w (fun _ _ => False) fun t22 w =>
  Sto P 48 t5 t22 w fun w =>
  next w))
  (fun D1 w =>
  Ld P 48 t5 w fun t23 w =>
  Tk P D1 w fun w =>
  R (.returned t23) w)
  (fun D1 w =>
  Tk P D1 w fun w =>
  R (.returned (.slice none 0 0)) w) []
theorem e_integer_number_times {t0 t1 : Value} {w : World} {R : Ending → World → Prop} (h : s_integer_number_times Tryz.prog t0 t1 w R) : Calls Tryz.prog 41 #[t0, t1] w R :=
  enter (h := (.sq .z (.sq .z (.sq (.sq .z (.bk (.rf (.bk (.jn [] [12, 13, 14, 15, 16, 17] (.sq .z (.cd .z .z)) (.dr (.pur false 0 (.pur false 1 (.pur true 2 (.eff 3 [0] (.eff 4 [] (.eff 5 [] .done))))))))) []))) (.sq .z .z))))) (args := [t0, t1]) Tryz.func41 (by kernel_rfl) (by kernel_rfl) (by kernel_rfl) (Eq.mp (by kernel_rfl) h)
theorem n_integer_number_times : Enters Tryz.prog 41 := enters_of Tryz.func41 (by kernel_rfl) rfl
def s_integer_number_over (P : Program) (t0 t1 : Value) (w : World) (R : Ending → World → Prop) : Prop :=
  Bx P 48 t1 w fun t3 w =>
  Al P 48 w fun t4 w =>
  Al P 48 w fun t5 w =>
  Bt P .len #[48] 3 #[t0] w fun t11 w =>
  Ms P 48 t11 t11 w fun t12 w =>
  Sto P 48 t4 t12 w fun w =>
  Cl P 60 #[t0] w (Pk R) fun t14 w =>
  Rf2 P t14 w (fun t15 t16 w next lv =>
  Bs P 48 1 [(0, t16)] w fun t18 w =>
  Ld P 48 t5 w fun t19 w =>
  Bt P .append #[48, 48] 48 #[t18, t19] w fun t20 w =>
  Cl P 65 #[t20] w (fun _ _ => False) fun t21 w =>
  Sto P 48 t5 t21 w fun w =>
  Ld P 48 t3 w fun t22 w =>
  Al P 81 w fun t8 w =>
  Sto P 81 t8 (.func (.func 64) #[t22] #[]) w fun w =>
  Dv P false (Instr.loadAt 48 t4) w.drew fun t25 =>
  Cl P 67 #[(.int .i64 9999), (.func (.func 66) #[] #[t8, t5])] w.drew (fun _ _ => False) fun t28 w =>
  Ke P (Instr.loadAt 48 t4) t25 w <|
  Dv P true (Instr.indexAt 48 t25 t15) w fun t29 =>
  Sto P 3 t29 t28 w fun w =>
  Dv P false (Instr.loadAt 48 t5) w.drew fun t30 =>
  Dv P false (Instr.loadAt 81 t8) w.drew fun t31 =>
  Dv P false (Instr.loadAt 48 t4) w.drew fun t32 =>
  Dv P true (Instr.indexAt 48 t32 t15) w.drew fun t34 =>
  Dv P false (Instr.loadAt 3 t34) w.drew fun t35 =>
  Cw P t31 #[t35] w.drew (fun _ _ => False) fun t36 w =>
  Ke P (Instr.loadAt 48 t5) t30 w <|
  Cl P 45 #[t30, t36] w (fun _ _ => False) fun t37 w =>
  Sto P 48 t5 t37 w fun w =>
  next w)
  (fun D1 w =>
  Dv P false (Instr.loadAt 48 t4) w.drew fun t38 =>
  Dv P false (Instr.loadAt 48 t5) w.drew fun t40 =>
  Cl P 65 #[t38] w.drew (fun c w => Tk P D1 w fun w => R (.panicked c) w) fun t39 w =>
  Ke P (Instr.loadAt 48 t5) t40 w <|
  Sto P 48 t4 t39 w fun w =>
  Ke P (Instr.loadAt 48 t5) t40 w <|
  Sto P 48 t5 t40 w fun w =>
  Tk P D1 w fun w =>
  Rc P 48 t4 w fun r0 =>
  Rc P 48 t5 w fun r1 =>
  R (.returned (.tuple #[r0, r1])) w)
  (fun D1 w =>
  Tk P D1 w fun w =>
  Rc P 48 t4 w fun r0 =>
  Rc P 48 t5 w fun r1 =>
  R (.returned (.tuple #[r0, r1])) w) []
theorem e_integer_number_over {t0 t1 : Value} {w : World} {R : Ending → World → Prop} (h : s_integer_number_over Tryz.prog t0 t1 w R) : Calls Tryz.prog 42 #[t0, t1] w R :=
  enter (h := (.sq .z (.sq .z (.sq (.sq .z (.bk (.rf (.bk (.sq .z (.sq .z (.sq .z (.sq (.dr (.pur false 0 (.pur true 1 (.pur true 2 (.eff 3 [0] (.pur true 4 (.eff 5 [] .done))))))) (.dr (.pur false 0 (.pur false 1 (.pur false 2 (.pur true 3 (.pur true 4 (.pur false 5 (.eff 6 [0] (.eff 7 [] (.eff 8 [] .done))))))))))))))) []))) (.sq (.dr (.pur false 0 (.pur false 2 (.eff 1 [2] (.eff 3 [2] (.eff 4 [] .done)))))) .z))))) (args := [t0, t1]) Tryz.func42 (by kernel_rfl) (by kernel_rfl) (by kernel_rfl) (Eq.mp (by kernel_rfl) h)
theorem n_integer_number_over : Enters Tryz.prog 42 := enters_of Tryz.func42 (by kernel_rfl) rfl
def s_integer_number_plus (P : Program) (t0 t1 : Value) (w : World) (R : Ending → World → Prop) : Prop :=
  Bx P 48 t0 w fun t2 w =>
  Bx P 48 t1 w fun t3 w =>
  Ld P 48 t2 w fun t5 w =>
  Bt P .len #[48] 3 #[t5] w fun t6 w =>
  Ld P 48 t3 w fun t7 w =>
  Bt P .len #[48] 3 #[t7] w fun t8 w =>
  Bt P .max #[3, 3] 3 #[t6, t8] w fun t9 w =>
  Cl P 68 #[t9, (.int .i64 0), (.func (.func 69) #[] #[t2, t3])] w (Pk R) fun t11 w =>
  Cl P 65 #[t11] w (Pk R) fun t12 w =>
  R (.returned t12) w
theorem e_integer_number_plus {t0 t1 : Value} {w : World} {R : Ending → World → Prop} (h : s_integer_number_plus Tryz.prog t0 t1 w R) : Calls Tryz.prog 43 #[t0, t1] w R :=
  enter (h := (.sq .z (.sq .z .z))) (args := [t0, t1]) Tryz.func43 (by kernel_rfl) (by kernel_rfl) (by kernel_rfl) (Eq.mp (by kernel_rfl) h)
theorem n_integer_number_plus : Enters Tryz.prog 43 := enters_of Tryz.func43 (by kernel_rfl) rfl
def s_integer_one (P : Program) (w : World) (R : Ending → World → Prop) : Prop :=
  Bs P 48 1 [(0, (.int .i64 1))] w fun t1 w =>
  R (.returned t1) w
theorem e_integer_one {w : World} {R : Ending → World → Prop} (h : s_integer_one Tryz.prog  w R) : Calls Tryz.prog 44 #[] w R :=
  enter (h := (.sq .z (.sq .z .z))) (args := []) Tryz.func44 (by kernel_rfl) (by kernel_rfl) (by kernel_rfl) (Eq.mp (by kernel_rfl) h)
theorem n_integer_one : Enters Tryz.prog 44 := enters_of Tryz.func44 (by kernel_rfl) rfl
def s_integer_number_minus (P : Program) (t0 t1 : Value) (w : World) (R : Ending → World → Prop) : Prop :=
  Bx P 48 t0 w fun t2 w =>
  Bx P 48 t1 w fun t3 w =>
  Ld P 48 t2 w fun t5 w =>
  Bt P .len #[48] 3 #[t5] w fun t6 w =>
  Cl P 68 #[t6, (.int .i64 0), (.func (.func 71) #[] #[t2, t3])] w (Pk R) fun t8 w =>
  Cl P 65 #[t8] w (Pk R) fun t9 w =>
  R (.returned t9) w
theorem e_integer_number_minus {t0 t1 : Value} {w : World} {R : Ending → World → Prop} (h : s_integer_number_minus Tryz.prog t0 t1 w R) : Calls Tryz.prog 45 #[t0, t1] w R :=
  enter (h := (.sq .z (.sq .z .z))) (args := [t0, t1]) Tryz.func45 (by kernel_rfl) (by kernel_rfl) (by kernel_rfl) (Eq.mp (by kernel_rfl) h)
theorem n_integer_number_minus : Enters Tryz.prog 45 := enters_of Tryz.func45 (by kernel_rfl) rfl
def s_integer_number_compare (P : Program) (t0 t1 : Value) (w : World) (R : Ending → World → Prop) : Prop :=
  Bx P 48 t1 w fun t3 w =>
  Al P 3 w fun t4 w =>
  Bt P .len #[48] 3 #[t0] w fun t8 w =>
  Ld P 48 t3 w fun t9 w =>
  Bt P .len #[48] 3 #[t9] w fun t10 w =>
  Bn P .neq 3 false t8 t10 w fun t11 w =>
  If t11
  (Bt P .len #[48] 3 #[t0] w fun t13 w =>
  Ld P 48 t3 w fun t14 w =>
  Bt P .len #[48] 3 #[t14] w fun t15 w =>
  Cl P 72 #[t13, t15] w (Pk R) fun t16 w =>
  Sto P 3 t4 t16 w fun w =>
  Rc P 3 t4 w fun r0 =>
  R (.returned r0) w)
  (Cl P 60 #[t0] w (Pk R) fun t18 w =>
  Rf2 P t18 w (fun t19 t20 w next lv =>
  Ld P 48 t3 w fun t22 w =>
  Ia P 48 t22 t19 w fun t24 w =>
  Ld P 3 t24 w fun t25 w =>
  Bn P .neq 3 false t20 t25 w fun t26 w =>
  If t26
  (Ld P 48 t3 w fun t28 w =>
  Ia P 48 t28 t19 w fun t30 w =>
  Ld P 3 t30 w fun t31 w =>
  Cl P 72 #[t20, t31] w (fun _ _ => False) fun t32 w =>
  Sto P 3 t4 t32 w fun w =>
  lv .ret w)
  (next w))
  (fun D1 w =>
  Sto P 3 t4 (.int .i64 0) w fun w =>
  Tk P D1 w fun w =>
  Rc P 3 t4 w fun r0 =>
  R (.returned r0) w)
  (fun D1 w =>
  Tk P D1 w fun w =>
  Rc P 3 t4 w fun r0 =>
  R (.returned r0) w) [])
theorem e_integer_number_compare {t0 t1 : Value} {w : World} {R : Ending → World → Prop} (h : s_integer_number_compare Tryz.prog t0 t1 w R) : Calls Tryz.prog 46 #[t0, t1] w R :=
  enter (h := (.sq .z (.sq (.sq .z (.cd (.sq .z .z) .z)) (.sq (.sq .z (.bk (.rf (.bk (.sq .z (.cd (.sq .z .z) .z))) []))) (.sq .z .z))))) (args := [t0, t1]) Tryz.func46 (by kernel_rfl) (by kernel_rfl) (by kernel_rfl) (Eq.mp (by kernel_rfl) h)
theorem n_integer_number_compare : Enters Tryz.prog 46 := enters_of Tryz.func46 (by kernel_rfl) rfl
def s_integer_isValid (P : Program) (t0 : Value) (w : World) (R : Ending → World → Prop) : Prop :=
  Cl P 73 #[t0, (str [45])] w (Pk R) fun t5 w =>
  Bn P .eql 9 true t5 (str []) w fun t7 w =>
  Gd t7 false (fun k => k t5 w) w fun t9 w =>
  Gd t7 false (fun k => Bt P .len #[9] 3 #[t9] w k) w fun t10 w =>
  Gd t7 false (fun k => Bn P .gtr 3 true t10 (.int .i64 200) w k) w fun t11 w =>
  Pick t7 (.bool true) t11 w fun t12 w =>
  Gd t12 false (fun k => k t5 w) w fun t14 w =>
  Gd t12 false (fun k => Cl P 74 #[t14, (str [48, 49, 50, 51, 52, 53, 54, 55, 56, 57])] w (Pk R) k) w fun t15 w =>
  Gd t12 false (fun k => Bn P .neq 9 true t15 (str []) w k) w fun t16 w =>
  Pick t12 (.bool true) t16 w fun t17 w =>
  If t17
  (R (.returned (.bool false)) w)
  (Bn P .eql 9 true t0 (str [48]) w fun t19 w =>
  Gd t19 false (fun k => k t5 w) w fun t21 w =>
  Gd t19 false (fun k => Ix P 9 t21 (.int .i64 0) w k) w fun t22 w =>
  Gd t19 false (fun k => Bn P .neq 5 true t22 (.int .u8 48) w k) w fun t23 w =>
  Pick t19 (.bool true) t23 w fun t24 w =>
  R (.returned t24) w)
theorem e_integer_isValid {t0 : Value} {w : World} {R : Ending → World → Prop} (h : s_integer_isValid Tryz.prog t0 w R) : Calls Tryz.prog 47 #[t0] w R :=
  enter (h := (.sq .z (.sq .z (.sq (.sq .z (.cd (.sq .z .z) .z)) (.sq .z .z))))) (args := [t0]) Tryz.func47 (by kernel_rfl) (by kernel_rfl) (by kernel_rfl) (Eq.mp (by kernel_rfl) h)
theorem n_integer_isValid : Enters Tryz.prog 47 := enters_of Tryz.func47 (by kernel_rfl) rfl
def s_ref03_digits (P : Program) (t0 : Value) (w : World) (R : Ending → World → Prop) : Prop :=
  Ix P 9 t0 (.int .i64 0) w fun t8 w =>
  Bn P .eql 5 true t8 (.int .u8 45) w fun t9 w =>
  Jn1 (fun k1 =>
  If t9
  (Sc P 9 t0 (some (.int .i64 1)) none none w fun t12 w =>
  k1 t12 w)
  (k1 t0 w))
  (fun t0x1 w =>
  Bt P .len #[9] 3 #[t0x1] w fun t14 w =>
  Bn P .sub 3 true t14 (.int .i64 1) w fun t15 w =>
  Lp2 (.slice none 0 0) t15 w (fun t5 t6 w k2 =>
  Bn P .geq 3 true t6 (.int .i64 0) w fun t17 w =>
  Gd t17 true (fun k => k t0x1 w) w fun t19 w =>
  Gd t17 true (fun k => Bn P .neq 9 true t19 (str [48]) w k) w fun t20 w =>
  Pick t17 t20 (.bool false) w fun t21 w =>
  If t21
  (Ix P 9 t0x1 t6 w fun t27 w =>
  Bn P .sub 5 true t27 (.int .u8 48) w fun t28 w =>
  Cv P 5 3 t28 w fun t29 w =>
  Bs P 44 1 [(0, t29)] w fun t30 w =>
  Bt P .append #[44, 44] 44 #[t5, t30] w fun t31 w =>
  Bn P .sub 3 true t6 (.int .i64 1) w fun t23 w =>
  k2 t31 t23 w)
  (R (.returned (.tuple #[t9, t5])) w)))
theorem e_ref03_digits {t0 : Value} {w : World} {R : Ending → World → Prop} (h : s_ref03_digits Tryz.prog t0 w R) : Calls Tryz.prog 48 #[t0] w R :=
  enter (h := (.sq .z (.sq .z (.jn [0] [10, 11, 12] (.sq .z (.cd .z .z)) (.sq .z (.sq (.sq .z (.bk (.lp [5, 6] [16, 17, 18, 19, 20, 21, 22, 23, 24, 25, 26, 27, 28, 29, 30, 31] (.sq (.sq .z (.cd .z .z)) (.sq (.bk .z) .z))))) (.sq .z .z))))))) (args := [t0]) Tryz.func48 (by kernel_rfl) (by kernel_rfl) (by kernel_rfl) (Eq.mp (by kernel_rfl) h)
theorem n_ref03_digits : Enters Tryz.prog 48 := enters_of Tryz.func48 (by kernel_rfl) rfl
def s_ref03_sum (P : Program) (t0 t1 t2 t3 : Value) (w : World) (R : Ending → World → Prop) : Prop :=
  Jn2 (fun k1 =>
  Bn P .eql 4 false t0 t2 w fun t15 w =>
  If t15
  (Cl P 53 #[t1, t3] w (Pk R) fun t18 w =>
  k1 t0 t18 w)
  (Cl P 55 #[t1, t3] w (Pk R) fun t21 w =>
  Bn P .geq 3 true t21 (.int .i64 0) w fun t22 w =>
  If t22
  (Cl P 54 #[t1, t3] w (Pk R) fun t25 w =>
  k1 t0 t25 w)
  (Cl P 54 #[t3, t1] w (Pk R) fun t29 w =>
  k1 t2 t29 w)))
  (fun t10 t11 w =>
  Cl P 50 #[t10, t11] w (Pk R) fun t32 w =>
  Ex t32 0 w fun t33 w =>
  Ex t32 1 w fun t34 w =>
  R (.returned (.tuple #[t33, t34])) w)
theorem e_ref03_sum {t0 t1 t2 t3 : Value} {w : World} {R : Ending → World → Prop} (h : s_ref03_sum Tryz.prog t0 t1 t2 t3 w R) : Calls Tryz.prog 49 #[t0, t1, t2, t3] w R :=
  enter (h := (.sq .z (.sq .z (.sq .z (.jn [10, 11] [13, 14, 15, 16, 17, 18, 19, 20, 21, 22, 23, 24, 25, 26, 27, 28, 29] (.sq .z (.cd .z (.sq .z (.cd .z (.sq .z .z))))) (.sq .z .z)))))) (args := [t0, t1, t2, t3]) Tryz.func49 (by kernel_rfl) (by kernel_rfl) (by kernel_rfl) (Eq.mp (by kernel_rfl) h)
theorem n_ref03_sum : Enters Tryz.prog 49 := enters_of Tryz.func49 (by kernel_rfl) rfl
def s_ref03_checked (P : Program) (t0 t1 : Value) (w : World) (R : Ending → World → Prop) : Prop :=
  Cl P 36 #[t0, t1] w (Pk R) fun t11 w =>
  Ex t11 0 w fun t12 w =>
  Ex t11 1 w fun t13 w =>
  Un P .not t13 w fun t15 w =>
  If t15
  (R (.returned (.tuple #[(str []), (.int .i64 30)])) w)
  (R (.returned (.tuple #[t12, (.int .i64 0)])) w)
theorem e_ref03_checked {t0 t1 : Value} {w : World} {R : Ending → World → Prop} (h : s_ref03_checked Tryz.prog t0 t1 w R) : Calls Tryz.prog 50 #[t0, t1] w R :=
  enter (h := (.sq .z (.sq .z (.sq (.sq .z (.cd (.sq .z .z) .z)) (.sq .z .z))))) (args := [t0, t1]) Tryz.func50 (by kernel_rfl) (by kernel_rfl) (by kernel_rfl) (Eq.mp (by kernel_rfl) h)
theorem n_ref03_checked : Enters Tryz.prog 50 := enters_of Tryz.func50 (by kernel_rfl) rfl
def s_ref03_times (P : Program) (t0 t1 : Value) (w : World) (R : Ending → World → Prop) : Prop :=
  Bt P .len #[44] 3 #[t0] w fun t11 w =>
  Bt P .len #[44] 3 #[t1] w fun t13 w =>
  Bn P .add 3 false t11 t13 w fun t14 w =>
  Ms P 44 t14 t14 w fun t15 w =>
  Lp1 (.int .i64 0) w (fun t6 w k1 =>
  Bt P .len #[44] 3 #[t0] w fun t18 w =>
  Bn P .lss 3 false t6 t18 w fun t19 w =>
  If t19
  (Lp2 (.int .i64 0) (.int .i64 0) w (fun t7 t8 w k2 =>
  Bt P .len #[44] 3 #[t1] w fun t24 w =>
  Bn P .lss 3 false t8 t24 w fun t25 w =>
  Gd t25 false (fun k => k t7 w) w fun t27 w =>
  Gd t25 false (fun k => Bn P .gtr 3 true t27 (.int .i64 0) w k) w fun t28 w =>
  Pick t25 (.bool true) t28 w fun t29 w =>
  If t29
  (Bn P .add 3 false t6 t8 w fun t35 w =>
  Ia P 44 t15 t35 w fun t36 w =>
  Ld P 3 t36 w fun t37 w =>
  Bn P .add 3 false t37 t7 w fun t39 w =>
  Jn1 (fun k3 =>
  Bt P .len #[44] 3 #[t1] w fun t42 w =>
  Bn P .lss 3 false t8 t42 w fun t43 w =>
  If t43
  (Dv P true (Instr.indexAt 44 t0 t6) w.drew fun t47 =>
  Dv P false (Instr.loadAt 3 t47) w.drew fun t48 =>
  Dv P true (Instr.indexAt 44 t1 t8) w.drew fun t51 =>
  Dv P false (Instr.loadAt 3 t51) w.drew fun t52 =>
  Dv P true (bn .mul 3 false t48 t52) w.drew fun t53 =>
  Dv P true (bn .add 3 false t39 t53) w.drew fun t54 =>
  k3 t54 w.drew)
  (k3 t39 w))
  (fun t9 w =>
  Bn P .add 3 false t6 t8 w fun t58 w =>
  Bn P .rem 3 true t9 (.int .i64 10) w fun t60 w =>
  Ia P 44 t15 t58 w fun t61 w =>
  Sto P 3 t61 t60 w fun w =>
  Bn P .quo 3 true t9 (.int .i64 10) w fun t63 w =>
  Bn P .add 3 true t8 (.int .i64 1) w fun t31 w =>
  k2 t63 t31 w))
  (Bn P .add 3 true t6 (.int .i64 1) w fun t21 w =>
  k1 t21 w)))
  (Cl P 37 #[t15] w (Pk R) fun t65 w =>
  R (.returned t65) w))
theorem e_ref03_times {t0 t1 : Value} {w : World} {R : Ending → World → Prop} (h : s_ref03_times Tryz.prog t0 t1 w R) : Calls Tryz.prog 51 #[t0, t1] w R :=
  enter (h := (.sq .z (.sq .z (.sq (.sq .z (.bk (.lp [6] [7, 8, 9, 16, 17, 18, 19, 20, 21, 22, 23, 24, 25, 26, 27, 28, 29, 30, 31, 32, 33, 34, 35, 36, 37, 38, 39, 40, 41, 42, 43, 44, 45, 46, 47, 48, 49, 50, 51, 52, 53, 54, 55, 56, 57, 58, 59, 60, 61, 62, 63] (.sq (.sq .z (.cd .z .z)) (.sq (.bk (.sq .z (.sq .z (.bk (.lp [7, 8] [9, 22, 23, 24, 25, 26, 27, 28, 29, 30, 31, 32, 33, 34, 35, 36, 37, 38, 39, 40, 41, 42, 43, 44, 45, 46, 47, 48, 49, 50, 51, 52, 53, 54, 55, 56, 57, 58, 59, 60, 61, 62, 63] (.sq (.sq .z (.cd .z .z)) (.sq (.bk (.sq .z (.jn [9] [40, 41, 42, 43, 44, 45, 46, 47, 48, 49, 50, 51, 52, 53, 54] (.sq .z (.cd (.dr (.pur true 0 (.pur true 1 (.pur true 2 (.pur true 3 (.pur false 4 (.pur true 5 (.pur true 6 (.pur true 7 (.pur false 8 (.pur true 9 (.pur true 10 (.pur true 11 .done))))))))))))) .z)) (.sq .z .z)))) .z))))))) .z))))) (.sq .z .z))))) (args := [t0, t1]) Tryz.func51 (by kernel_rfl) (by kernel_rfl) (by kernel_rfl) (Eq.mp (by kernel_rfl) h)
theorem n_ref03_times : Enters Tryz.prog 51 := enters_of Tryz.func51 (by kernel_rfl) rfl
def s_ref03_divided (P : Program) (t0 t1 : Value) (w : World) (R : Ending → World → Prop) : Prop :=
  Bt P .len #[44] 3 #[t0] w fun t10 w =>
  Ms P 44 t10 t10 w fun t11 w =>
  Bt P .len #[44] 3 #[t0] w fun t13 w =>
  Bn P .sub 3 true t13 (.int .i64 1) w fun t14 w =>
  Lp2 (.slice none 0 0) t14 w (fun t7 t8 w k1 =>
  Bn P .geq 3 true t8 (.int .i64 0) w fun t16 w =>
  If t16
  (Ia P 44 t0 t8 w fun t21 w =>
  Ld P 3 t21 w fun t22 w =>
  Bs P 44 1 [(0, t22)] w fun t23 w =>
  Bt P .append #[44, 44] 44 #[t23, t7] w fun t25 w =>
  Cl P 37 #[t25] w (Pk R) fun t26 w =>
  Lp1 t26 w (fun t7x1 w k2 =>
  Cl P 55 #[t7x1, t1] w (Pk R) fun t29 w =>
  Bn P .geq 3 true t29 (.int .i64 0) w fun t30 w =>
  If t30
  (Cl P 54 #[t7x1, t1] w (Pk R) fun t33 w =>
  Ia P 44 t11 t8 w fun t36 w =>
  Ld P 3 t36 w fun t37 w =>
  Bn P .add 3 true t37 (.int .i64 1) w fun t38 w =>
  Ia P 44 t11 t8 w fun t39 w =>
  Sto P 3 t39 t38 w fun w =>
  k2 t33 w)
  (Bn P .sub 3 true t8 (.int .i64 1) w fun t18 w =>
  k1 t7x1 t18 w)))
  (Cl P 37 #[t11] w (Pk R) fun t41 w =>
  R (.returned (.tuple #[t41, t7])) w))
theorem e_ref03_divided {t0 t1 : Value} {w : World} {R : Ending → World → Prop} (h : s_ref03_divided Tryz.prog t0 t1 w R) : Calls Tryz.prog 52 #[t0, t1] w R :=
  enter (h := (.sq .z (.sq .z (.sq .z (.sq (.sq .z (.bk (.lp [7, 8] [15, 16, 17, 18, 19, 20, 21, 22, 23, 24, 25, 26, 27, 28, 29, 30, 31, 32, 33, 34, 35, 36, 37, 38, 39] (.sq (.sq .z (.cd .z .z)) (.sq (.bk (.sq .z (.bk (.lp [7] [27, 28, 29, 30, 31, 32, 33, 34, 35, 36, 37, 38, 39] (.sq (.sq .z (.cd .z .z)) (.bk (.sq .z .z))))))) .z))))) (.sq .z .z)))))) (args := [t0, t1]) Tryz.func52 (by kernel_rfl) (by kernel_rfl) (by kernel_rfl) (Eq.mp (by kernel_rfl) h)
theorem n_ref03_divided : Enters Tryz.prog 52 := enters_of Tryz.func52 (by kernel_rfl) rfl
def s_ref03_plus (P : Program) (t0 t1 : Value) (w : World) (R : Ending → World → Prop) : Prop :=
  Lp3 (.slice none 0 0) (.int .i64 0) (.int .i64 0) w (fun t5 t6 t7 w k1 =>
  Bt P .len #[44] 3 #[t0] w fun t11 w =>
  Bn P .lss 3 false t7 t11 w fun t12 w =>
  Gd t12 false (fun k => k t7 w) w fun t14 w =>
  Gd t12 false (fun k => k t1 w) w fun t15 w =>
  Gd t12 false (fun k => Bt P .len #[44] 3 #[t15] w k) w fun t16 w =>
  Gd t12 false (fun k => Bn P .lss 3 false t14 t16 w k) w fun t17 w =>
  Pick t12 (.bool true) t17 w fun t18 w =>
  Gd t18 false (fun k => k t6 w) w fun t20 w =>
  Gd t18 false (fun k => Bn P .gtr 3 true t20 (.int .i64 0) w k) w fun t21 w =>
  Pick t18 (.bool true) t21 w fun t22 w =>
  If t22
  (Jn1 (fun k2 =>
  Bt P .len #[44] 3 #[t0] w fun t28 w =>
  Bn P .lss 3 false t7 t28 w fun t29 w =>
  If t29
  (Ia P 44 t0 t7 w fun t33 w =>
  Ld P 3 t33 w fun t34 w =>
  Bn P .add 3 false t6 t34 w fun t35 w =>
  k2 t35 w)
  (k2 t6 w))
  (fun t8 w =>
  Jn1 (fun k3 =>
  Bt P .len #[44] 3 #[t1] w fun t38 w =>
  Bn P .lss 3 false t7 t38 w fun t39 w =>
  If t39
  (Ia P 44 t1 t7 w fun t43 w =>
  Ld P 3 t43 w fun t44 w =>
  Bn P .add 3 false t8 t44 w fun t45 w =>
  k3 t45 w)
  (k3 t8 w))
  (fun t8x1 w =>
  Bn P .rem 3 true t8x1 (.int .i64 10) w fun t48 w =>
  Bs P 44 1 [(0, t48)] w fun t49 w =>
  Bt P .append #[44, 44] 44 #[t5, t49] w fun t50 w =>
  Bn P .quo 3 true t8x1 (.int .i64 10) w fun t52 w =>
  Bn P .add 3 true t7 (.int .i64 1) w fun t24 w =>
  k1 t50 t52 t24 w)))
  (R (.returned t5) w))
theorem e_ref03_plus {t0 t1 : Value} {w : World} {R : Ending → World → Prop} (h : s_ref03_plus Tryz.prog t0 t1 w R) : Calls Tryz.prog 53 #[t0, t1] w R :=
  enter (h := (.sq .z (.sq .z (.sq .z (.sq (.sq .z (.bk (.lp [5, 6, 7] [8, 9, 10, 11, 12, 13, 14, 15, 16, 17, 18, 19, 20, 21, 22, 23, 24, 25, 26, 27, 28, 29, 30, 31, 32, 33, 34, 35, 36, 37, 38, 39, 40, 41, 42, 43, 44, 45, 46, 47, 48, 49, 50, 51, 52] (.sq (.sq .z (.cd .z .z)) (.sq (.bk (.sq .z (.jn [8] [26, 27, 28, 29, 30, 31, 32, 33, 34, 35] (.sq .z (.cd .z .z)) (.jn [8] [36, 37, 38, 39, 40, 41, 42, 43, 44, 45] (.sq .z (.cd .z .z)) (.sq .z .z))))) .z))))) (.sq .z .z)))))) (args := [t0, t1]) Tryz.func53 (by kernel_rfl) (by kernel_rfl) (by kernel_rfl) (Eq.mp (by kernel_rfl) h)
theorem n_ref03_plus : Enters Tryz.prog 53 := enters_of Tryz.func53 (by kernel_rfl) rfl
def s_ref03_minus (P : Program) (t0 t1 : Value) (w : World) (R : Ending → World → Prop) : Prop :=
  Lp3 (.slice none 0 0) (.int .i64 0) (.int .i64 0) w (fun t5 t6 t7 w k1 =>
  Bt P .len #[44] 3 #[t0] w fun t11 w =>
  Bn P .lss 3 false t7 t11 w fun t12 w =>
  If t12
  (Ia P 44 t0 t7 w fun t17 w =>
  Ld P 3 t17 w fun t18 w =>
  Bn P .sub 3 false t18 t6 w fun t20 w =>
  Jn1 (fun k2 =>
  Bt P .len #[44] 3 #[t1] w fun t23 w =>
  Bn P .lss 3 false t7 t23 w fun t24 w =>
  If t24
  (Ia P 44 t1 t7 w fun t28 w =>
  Ld P 3 t28 w fun t29 w =>
  Bn P .sub 3 false t20 t29 w fun t30 w =>
  k2 t30 w)
  (k2 t20 w))
  (fun t8 w =>
  Bn P .lss 3 true t8 (.int .i64 0) w fun t32 w =>
  If t32
  (Bn P .add 3 true t8 (.int .i64 10) w fun t34 w =>
  Bs P 44 1 [(0, t34)] w fun t37 w =>
  Bt P .append #[44, 44] 44 #[t5, t37] w fun t38 w =>
  Bn P .add 3 true t7 (.int .i64 1) w fun t14 w =>
  k1 t38 (.int .i64 1) t14 w)
  (Bs P 44 1 [(0, t8)] w fun t37x1 w =>
  Bt P .append #[44, 44] 44 #[t5, t37x1] w fun t38x1 w =>
  Bn P .add 3 true t7 (.int .i64 1) w fun t14x1 w =>
  k1 t38x1 (.int .i64 0) t14x1 w)))
  (Cl P 37 #[t5] w (Pk R) fun t40 w =>
  R (.returned t40) w))
theorem e_ref03_minus {t0 t1 : Value} {w : World} {R : Ending → World → Prop} (h : s_ref03_minus Tryz.prog t0 t1 w R) : Calls Tryz.prog 54 #[t0, t1] w R :=
  enter (h := (.sq .z (.sq .z (.sq .z (.sq (.sq .z (.bk (.lp [5, 6, 7] [8, 9, 10, 11, 12, 13, 14, 15, 16, 17, 18, 19, 20, 21, 22, 23, 24, 25, 26, 27, 28, 29, 30, 31, 32, 33, 34, 35, 36, 37, 38] (.sq (.sq .z (.cd .z .z)) (.sq (.bk (.sq .z (.jn [8] [21, 22, 23, 24, 25, 26, 27, 28, 29, 30] (.sq .z (.cd .z .z)) (.sq .z (.sq (.sq .z (.cd (.sq .z .z) .z)) .z))))) .z))))) (.sq .z .z)))))) (args := [t0, t1]) Tryz.func54 (by kernel_rfl) (by kernel_rfl) (by kernel_rfl) (Eq.mp (by kernel_rfl) h)
theorem n_ref03_minus : Enters Tryz.prog 54 := enters_of Tryz.func54 (by kernel_rfl) rfl
def s_ref03_order (P : Program) (t0 t1 : Value) (w : World) (R : Ending → World → Prop) : Prop :=
  Bt P .len #[44] 3 #[t0] w fun t7 w =>
  Bt P .len #[44] 3 #[t1] w fun t9 w =>
  Bn P .neq 3 false t7 t9 w fun t10 w =>
  If t10
  (Bt P .len #[44] 3 #[t0] w fun t12 w =>
  Bt P .len #[44] 3 #[t1] w fun t14 w =>
  Bn P .lss 3 false t12 t14 w fun t15 w =>
  If t15
  (R (.returned (.int .i64 (-1))) w)
  (R (.returned (.int .i64 1)) w))
  (Bt P .len #[44] 3 #[t0] w fun t17 w =>
  Bn P .sub 3 true t17 (.int .i64 1) w fun t18 w =>
  Lp1 t18 w (fun t5 w k1 =>
  Bn P .geq 3 true t5 (.int .i64 0) w fun t20 w =>
  If t20
  (Dv P true (Instr.indexAt 44 t0 t5) w.drew fun t25 =>
  Dv P false (Instr.loadAt 3 t25) w.drew fun t26 =>
  Dv P true (Instr.indexAt 44 t1 t5) w.drew fun t29 =>
  Dv P false (Instr.loadAt 3 t29) w.drew fun t30 =>
  Dv P true (bn .neq 3 false t26 t30) w.drew fun t31 =>
  If t31
  (Dv P true (Instr.indexAt 44 t0 t5) w.drew.drew fun t34 =>
  Dv P false (Instr.loadAt 3 t34) w.drew.drew fun t35 =>
  Dv P true (Instr.indexAt 44 t1 t5) w.drew.drew fun t38 =>
  Dv P false (Instr.loadAt 3 t38) w.drew.drew fun t39 =>
  Dv P true (bn .lss 3 false t35 t39) w.drew.drew fun t40 =>
  If t40
  (R (.returned (.int .i64 (-1))) w.drew.drew)
  (R (.returned (.int .i64 1)) w.drew.drew))
  (Bn P .sub 3 true t5 (.int .i64 1) w.drew fun t22 w =>
  k1 t22 w))
  (R (.returned (.int .i64 0)) w)))
theorem e_ref03_order {t0 t1 : Value} {w : World} {R : Ending → World → Prop} (h : s_ref03_order Tryz.prog t0 t1 w R) : Calls Tryz.prog 55 #[t0, t1] w R :=
  enter (h := (.sq .z (.sq (.sq .z (.cd (.sq (.sq .z (.cd (.sq .z .z) .z)) (.sq .z .z)) .z)) (.sq (.sq .z (.bk (.lp [5] [4, 19, 20, 21, 22, 23, 24, 25, 26, 27, 28, 29, 30, 31, 32, 33, 34, 35, 36, 37, 38, 39, 40] (.sq (.sq .z (.cd .z .z)) (.sq (.bk (.sq (.dr (.pur true 0 (.pur true 1 (.pur true 2 (.pur false 3 (.pur true 4 (.pur true 5 (.pur true 6 (.pur false 7 (.pur true 8 .done)))))))))) (.cd (.sq (.sq (.dr (.pur true 0 (.pur true 1 (.pur true 2 (.pur false 3 (.pur true 4 (.pur true 5 (.pur true 6 (.pur false 7 (.pur true 8 .done)))))))))) (.cd (.sq .z .z) .z)) (.sq .z .z)) .z))) .z))))) (.sq .z .z))))) (args := [t0, t1]) Tryz.func55 (by kernel_rfl) (by kernel_rfl) (by kernel_rfl) (Eq.mp (by kernel_rfl) h)
theorem n_ref03_order : Enters Tryz.prog 55 := enters_of Tryz.func55 (by kernel_rfl) rfl
def s_ref03_trimmed (P : Program) (t0 : Value) (w : World) (R : Ending → World → Prop) : Prop :=
  Bs P 44 0 [] w fun t3 w =>
  Bt P .append #[44, 44] 44 #[t3, t0] w fun t5 w =>
  Cl P 37 #[t5] w (Pk R) fun t6 w =>
  R (.returned t6) w
theorem e_ref03_trimmed {t0 : Value} {w : World} {R : Ending → World → Prop} (h : s_ref03_trimmed Tryz.prog t0 w R) : Calls Tryz.prog 56 #[t0] w R :=
  enter (h := (.sq .z (.sq .z .z))) (args := [t0]) Tryz.func56 (by kernel_rfl) (by kernel_rfl) (by kernel_rfl) (Eq.mp (by kernel_rfl) h)
theorem n_ref03_trimmed : Enters Tryz.prog 56 := enters_of Tryz.func56 (by kernel_rfl) rfl
def s_strconv_Atoi (P : Program) (t0 : Value) (w : World) (R : Ending → World → Prop) : Prop :=
  Cl P 75 #[t0] w (Pk R) fun t8 w =>
  Ex t8 0 w fun t9 w =>
  Ex t8 1 w fun t10 w =>
  Bn P .neq 69 true t10 .nilIface w fun t12 w =>
  If t12
  (Cl P 76 #[(str [65, 116, 111, 105]), t0, (.int .i64 0), (.int .i64 0), t10] w (Pk R) fun t16 w =>
  R (.returned (.tuple #[t9, t16])) w)
  (R (.returned (.tuple #[t9, .nilIface])) w)
theorem e_strconv_Atoi {t0 : Value} {w : World} {R : Ending → World → Prop} (h : s_strconv_Atoi Tryz.prog t0 w R) : Calls Tryz.prog 57 #[t0] w R :=
  enter (h := (.sq .z (.sq .z (.sq (.sq .z (.cd (.sq .z .z) .z)) (.sq .z .z))))) (args := [t0]) Tryz.func57 (by kernel_rfl) (by kernel_rfl) (by kernel_rfl) (Eq.mp (by kernel_rfl) h)
theorem n_strconv_Atoi : Enters Tryz.prog 57 := enters_of Tryz.func57 (by kernel_rfl) rfl
def s_strconv_Itoa (P : Program) (t0 : Value) (w : World) (R : Ending → World → Prop) : Prop :=
  Cl P 77 #[t0] w (Pk R) fun t4 w =>
  R (.returned t4) w
theorem e_strconv_Itoa {t0 : Value} {w : World} {R : Ending → World → Prop} (h : s_strconv_Itoa Tryz.prog t0 w R) : Calls Tryz.prog 58 #[t0] w R :=
  enter (h := (.sq .z (.sq .z .z))) (args := [t0]) Tryz.func58 (by kernel_rfl) (by kernel_rfl) (by kernel_rfl) (Eq.mp (by kernel_rfl) h)
theorem n_strconv_Itoa : Enters Tryz.prog 58 := enters_of Tryz.func58 (by kernel_rfl) rfl
def s_integer_parse (P : Program) (t0 : Value) (w : World) (R : Ending → World → Prop) : Prop :=
  Al P 50 w fun t2 w =>
  Cl P 73 #[t0, (str [45])] w (Pk R) fun t9 w =>
  Bt P .len #[9] 3 #[t9] w fun t11 w =>
  Bt P .len #[9] 3 #[t0] w fun t13 w =>
  Bn P .lss 3 false t11 t13 w fun t14 w =>
  Bd P 50 [(0, t14)] w fun t15 w =>
  Al P 50 w fun t4 w =>
  Sto P 50 t4 t15 w fun w =>
  Lp1 t9 w (fun t3 w k1 =>
  Bt P .len #[9] 3 #[t3] w fun t17 w =>
  Bn P .gtr 3 true t17 (.int .i64 0) w fun t18 w =>
  If t18
  (Bt P .len #[9] 3 #[t3] w fun t20 w =>
  Bn P .sub 3 true t20 (.int .i64 4) w fun t21 w =>
  Bt P .max #[3, 3] 3 #[(.int .i64 0), t21] w fun t22 w =>
  Sc P 9 t3 (some t22) none none w fun t26 w =>
  Cl P 57 #[t26] w (Pk R) fun t27 w =>
  Ex t27 0 w fun t28 w =>
  Ex t27 1 w fun t29 w =>
  Fa P 50 t4 1 w fun t30 w =>
  Ld P 48 t30 w fun t31 w =>
  Bs P 48 1 [(0, t28)] w fun t33 w =>
  Bt P .append #[48, 48] 48 #[t31, t33] w fun t34 w =>
  Fa P 50 t4 1 w fun t35 w =>
  Sto P 48 t35 t34 w fun w =>
  Sc P 9 t3 none (some t22) none w fun t38 w =>
  k1 t38 w)
  (Fa P 50 t4 1 w fun t39 w =>
  Ld P 48 t39 w fun t40 w =>
  Cl P 65 #[t40] w (Pk R) fun t41 w =>
  Fa P 50 t4 1 w fun t42 w =>
  Sto P 48 t42 t41 w fun w =>
  Ld P 50 t4 w fun t43 w =>
  Sto P 50 t2 t43 w fun w =>
  Rc P 50 t2 w fun r0 =>
  R (.returned r0) w))
theorem e_integer_parse {t0 : Value} {w : World} {R : Ending → World → Prop} (h : s_integer_parse Tryz.prog t0 w R) : Calls Tryz.prog 59 #[t0] w R :=
  enter (h := (.sq .z (.sq .z (.sq .z (.sq (.bk (.lp [3] [5, 6, 7, 16, 17, 18, 19, 20, 21, 22, 23, 24, 25, 26, 27, 28, 29, 30, 31, 32, 33, 34, 35, 36, 37, 38] (.sq (.sq .z (.cd .z .z)) (.bk (.sq .z (.sq .z (.sq .z .z))))))) (.sq .z (.sq .z .z))))))) (args := [t0]) Tryz.func59 (by kernel_rfl) (by kernel_rfl) (by kernel_rfl) (Eq.mp (by kernel_rfl) h)
theorem n_integer_parse : Enters Tryz.prog 59 := enters_of Tryz.func59 (by kernel_rfl) rfl
def s_slices_Backward_integer_number_int (P : Program) (t0 : Value) (w : World) (R : Ending → World → Prop) : Prop :=
  Bx P 48 t0 w fun t1 w =>
  R (.returned (.func (.func 78) #[] #[t1])) w
theorem e_slices_Backward_integer_number_int {t0 : Value} {w : World} {R : Ending → World → Prop} (h : s_slices_Backward_integer_number_int Tryz.prog t0 w R) : Calls Tryz.prog 60 #[t0] w R :=
  enter (h := (.sq .z (.sq .z .z))) (args := [t0]) Tryz.func60 (by kernel_rfl) (by kernel_rfl) (by kernel_rfl) (Eq.mp (by kernel_rfl) h)
theorem n_slices_Backward_integer_number_int : Enters Tryz.prog 60 := enters_of Tryz.func60 (by kernel_rfl) rfl
def s_strings_Repeat (P : Program) (t0 t1 : Value) (w : World) (R : Ending → World → Prop) : Prop :=
  Bn P .eql 3 true t1 (.int .i64 0) w fun t13 w =>
  If t13
  (R (.returned (str [])) w)
  (Bn P .eql 3 true t1 (.int .i64 1) w fun t15 w =>
  If t15
  (R (.returned t0) w)
  (Jn0 (fun k1 =>
  Bn P .lss 3 true t1 (.int .i64 0) w fun t18 w =>
  If t18
  (Mi P 9 (str [115, 116, 114, 105, 110, 103, 115, 58, 32, 110, 101, 103, 97, 116, 105, 118, 101, 32, 82, 101, 112, 101, 97, 116, 32, 99, 111, 117, 110, 116]) w fun t19 w =>
  Pn P t19 w (Pk R) fun _ w =>
  k1 w)
  (k1 w))
  (fun w =>
  Bt P .len #[9] 3 #[t0] w fun t22 w =>
  Cv P 3 89 t22 w fun t23 w =>
  Cv P 3 89 t1 w fun t25 w =>
  Cl P 79 #[t23, t25] w (Pk R) fun t26 w =>
  Ex t26 0 w fun t27 w =>
  Ex t26 1 w fun t28 w =>
  Jn0 (fun k2 =>
  Bn P .gtr 89 true t27 (.int .u64 0) w fun t30 w =>
  Gd t30 false (fun k => k t28 w) w fun t32 w =>
  Gd t30 false (fun k => Bn P .gtr 89 true t32 (.int .u64 9223372036854775807) w k) w fun t33 w =>
  Pick t30 (.bool true) t33 w fun t34 w =>
  If t34
  (Mi P 9 (str [115, 116, 114, 105, 110, 103, 115, 58, 32, 82, 101, 112, 101, 97, 116, 32, 111, 117, 116, 112, 117, 116, 32, 108, 101, 110, 103, 116, 104, 32, 111, 118, 101, 114, 102, 108, 111, 119]) w fun t35 w =>
  Pn P t35 w (Pk R) fun _ w =>
  k2 w)
  (k2 w))
  (fun w =>
  Cv P 89 3 t28 w fun t37 w =>
  Bt P .len #[9] 3 #[t0] w fun t39 w =>
  Bn P .eql 3 true t39 (.int .i64 0) w fun t40 w =>
  If t40
  (R (.returned (str [])) w)
  (Jn0 (fun k3 =>
  Ix P 9 t0 (.int .i64 0) w fun t42 w =>
  Jn1 (fun k4 =>
  Bn P .eql 5 true t42 (.int .u8 32) w fun t44 w =>
  If t44
  (k4 t44 w)
  (Bn P .eql 5 true t42 (.int .u8 45) w fun t45 w =>
  If t45
  (k4 t45 w)
  (Bn P .eql 5 true t42 (.int .u8 48) w fun t46 w =>
  If t46
  (k4 t46 w)
  (Bn P .eql 5 true t42 (.int .u8 61) w fun t47 w =>
  If t47
  (k4 t47 w)
  (Bn P .eql 5 true t42 (.int .u8 9) w fun t48 w =>
  k4 t48 w)))))
  (fun t43 w =>
  If t43
  (Bn P .leq 3 true t37 (.int .i64 128) w fun t51 w =>
  Gd t51 true (fun k => k t0 w) w fun t53 w =>
  Gd t51 true (fun k => Cl P 80 #[(str [32, 32, 32, 32, 32, 32, 32, 32, 32, 32, 32, 32, 32, 32, 32, 32, 32, 32, 32, 32, 32, 32, 32, 32, 32, 32, 32, 32, 32, 32, 32, 32, 32, 32, 32, 32, 32, 32, 32, 32, 32, 32, 32, 32, 32, 32, 32, 32, 32, 32, 32, 32, 32, 32, 32, 32, 32, 32, 32, 32, 32, 32, 32, 32, 32, 32, 32, 32, 32, 32, 32, 32, 32, 32, 32, 32, 32, 32, 32, 32, 32, 32, 32, 32, 32, 32, 32, 32, 32, 32, 32, 32, 32, 32, 32, 32, 32, 32, 32, 32, 32, 32, 32, 32, 32, 32, 32, 32, 32, 32, 32, 32, 32, 32, 32, 32, 32, 32, 32, 32, 32, 32, 32, 32, 32, 32, 32, 32]), t53] w (Pk R) k) w fun t54 w =>
  Pick t51 t54 (.bool false) w fun t55 w =>
  If t55
  (Sc P 9 (str [32, 32, 32, 32, 32, 32, 32, 32, 32, 32, 32, 32, 32, 32, 32, 32, 32, 32, 32, 32, 32, 32, 32, 32, 32, 32, 32, 32, 32, 32, 32, 32, 32, 32, 32, 32, 32, 32, 32, 32, 32, 32, 32, 32, 32, 32, 32, 32, 32, 32, 32, 32, 32, 32, 32, 32, 32, 32, 32, 32, 32, 32, 32, 32, 32, 32, 32, 32, 32, 32, 32, 32, 32, 32, 32, 32, 32, 32, 32, 32, 32, 32, 32, 32, 32, 32, 32, 32, 32, 32, 32, 32, 32, 32, 32, 32, 32, 32, 32, 32, 32, 32, 32, 32, 32, 32, 32, 32, 32, 32, 32, 32, 32, 32, 32, 32, 32, 32, 32, 32, 32, 32, 32, 32, 32, 32, 32, 32]) none (some t37) none w fun t57 w =>
  R (.returned t57) w)
  (Bn P .leq 3 true t37 (.int .i64 128) w fun t60 w =>
  Gd t60 true (fun k => k t0 w) w fun t62 w =>
  Gd t60 true (fun k => Cl P 80 #[(str [45, 45, 45, 45, 45, 45, 45, 45, 45, 45, 45, 45, 45, 45, 45, 45, 45, 45, 45, 45, 45, 45, 45, 45, 45, 45, 45, 45, 45, 45, 45, 45, 45, 45, 45, 45, 45, 45, 45, 45, 45, 45, 45, 45, 45, 45, 45, 45, 45, 45, 45, 45, 45, 45, 45, 45, 45, 45, 45, 45, 45, 45, 45, 45, 45, 45, 45, 45, 45, 45, 45, 45, 45, 45, 45, 45, 45, 45, 45, 45, 45, 45, 45, 45, 45, 45, 45, 45, 45, 45, 45, 45, 45, 45, 45, 45, 45, 45, 45, 45, 45, 45, 45, 45, 45, 45, 45, 45, 45, 45, 45, 45, 45, 45, 45, 45, 45, 45, 45, 45, 45, 45, 45, 45, 45, 45, 45, 45]), t62] w (Pk R) k) w fun t63 w =>
  Pick t60 t63 (.bool false) w fun t64 w =>
  If t64
  (Sc P 9 (str [45, 45, 45, 45, 45, 45, 45, 45, 45, 45, 45, 45, 45, 45, 45, 45, 45, 45, 45, 45, 45, 45, 45, 45, 45, 45, 45, 45, 45, 45, 45, 45, 45, 45, 45, 45, 45, 45, 45, 45, 45, 45, 45, 45, 45, 45, 45, 45, 45, 45, 45, 45, 45, 45, 45, 45, 45, 45, 45, 45, 45, 45, 45, 45, 45, 45, 45, 45, 45, 45, 45, 45, 45, 45, 45, 45, 45, 45, 45, 45, 45, 45, 45, 45, 45, 45, 45, 45, 45, 45, 45, 45, 45, 45, 45, 45, 45, 45, 45, 45, 45, 45, 45, 45, 45, 45, 45, 45, 45, 45, 45, 45, 45, 45, 45, 45, 45, 45, 45, 45, 45, 45, 45, 45, 45, 45, 45, 45]) none (some t37) none w fun t66 w =>
  R (.returned t66) w)
  (Bn P .leq 3 true t37 (.int .i64 64) w fun t69 w =>
  Gd t69 true (fun k => k t0 w) w fun t71 w =>
  Gd t69 true (fun k => Cl P 80 #[(str [48, 48, 48, 48, 48, 48, 48, 48, 48, 48, 48, 48, 48, 48, 48, 48, 48, 48, 48, 48, 48, 48, 48, 48, 48, 48, 48, 48, 48, 48, 48, 48, 48, 48, 48, 48, 48, 48, 48, 48, 48, 48, 48, 48, 48, 48, 48, 48, 48, 48, 48, 48, 48, 48, 48, 48, 48, 48, 48, 48, 48, 48, 48, 48]), t71] w (Pk R) k) w fun t72 w =>
  Pick t69 t72 (.bool false) w fun t73 w =>
  If t73
  (Sc P 9 (str [48, 48, 48, 48, 48, 48, 48, 48, 48, 48, 48, 48, 48, 48, 48, 48, 48, 48, 48, 48, 48, 48, 48, 48, 48, 48, 48, 48, 48, 48, 48, 48, 48, 48, 48, 48, 48, 48, 48, 48, 48, 48, 48, 48, 48, 48, 48, 48, 48, 48, 48, 48, 48, 48, 48, 48, 48, 48, 48, 48, 48, 48, 48, 48]) none (some t37) none w fun t75 w =>
  R (.returned t75) w)
  (Bn P .leq 3 true t37 (.int .i64 128) w fun t78 w =>
  Gd t78 true (fun k => k t0 w) w fun t80 w =>
  Gd t78 true (fun k => Cl P 80 #[(str [61, 61, 61, 61, 61, 61, 61, 61, 61, 61, 61, 61, 61, 61, 61, 61, 61, 61, 61, 61, 61, 61, 61, 61, 61, 61, 61, 61, 61, 61, 61, 61, 61, 61, 61, 61, 61, 61, 61, 61, 61, 61, 61, 61, 61, 61, 61, 61, 61, 61, 61, 61, 61, 61, 61, 61, 61, 61, 61, 61, 61, 61, 61, 61, 61, 61, 61, 61, 61, 61, 61, 61, 61, 61, 61, 61, 61, 61, 61, 61, 61, 61, 61, 61, 61, 61, 61, 61, 61, 61, 61, 61, 61, 61, 61, 61, 61, 61, 61, 61, 61, 61, 61, 61, 61, 61, 61, 61, 61, 61, 61, 61, 61, 61, 61, 61, 61, 61, 61, 61, 61, 61, 61, 61, 61, 61, 61, 61]), t80] w (Pk R) k) w fun t81 w =>
  Pick t78 t81 (.bool false) w fun t82 w =>
  If t82
  (Sc P 9 (str [61, 61, 61, 61, 61, 61, 61, 61, 61, 61, 61, 61, 61, 61, 61, 61, 61, 61, 61, 61, 61, 61, 61, 61, 61, 61, 61, 61, 61, 61, 61, 61, 61, 61, 61, 61, 61, 61, 61, 61, 61, 61, 61, 61, 61, 61, 61, 61, 61, 61, 61, 61, 61, 61, 61, 61, 61, 61, 61, 61, 61, 61, 61, 61, 61, 61, 61, 61, 61, 61, 61, 61, 61, 61, 61, 61, 61, 61, 61, 61, 61, 61, 61, 61, 61, 61, 61, 61, 61, 61, 61, 61, 61, 61, 61, 61, 61, 61, 61, 61, 61, 61, 61, 61, 61, 61, 61, 61, 61, 61, 61, 61, 61, 61, 61, 61, 61, 61, 61, 61, 61, 61, 61, 61, 61, 61, 61, 61]) none (some t37) none w fun t84 w =>
  R (.returned t84) w)
  (Bn P .leq 3 true t37 (.int .i64 64) w fun t87 w =>
  Gd t87 true (fun k => k t0 w) w fun t89 w =>
  Gd t87 true (fun k => Cl P 80 #[(str [9, 9, 9, 9, 9, 9, 9, 9, 9, 9, 9, 9, 9, 9, 9, 9, 9, 9, 9, 9, 9, 9, 9, 9, 9, 9, 9, 9, 9, 9, 9, 9, 9, 9, 9, 9, 9, 9, 9, 9, 9, 9, 9, 9, 9, 9, 9, 9, 9, 9, 9, 9, 9, 9, 9, 9, 9, 9, 9, 9, 9, 9, 9, 9]), t89] w (Pk R) k) w fun t90 w =>
  Pick t87 t90 (.bool false) w fun t91 w =>
  If t91
  (Sc P 9 (str [9, 9, 9, 9, 9, 9, 9, 9, 9, 9, 9, 9, 9, 9, 9, 9, 9, 9, 9, 9, 9, 9, 9, 9, 9, 9, 9, 9, 9, 9, 9, 9, 9, 9, 9, 9, 9, 9, 9, 9, 9, 9, 9, 9, 9, 9, 9, 9, 9, 9, 9, 9, 9, 9, 9, 9, 9, 9, 9, 9, 9, 9, 9, 9]) none (some t37) none w fun t93 w =>
  R (.returned t93) w)
  (k3 w))))))
  (k3 w)))
  (fun w =>
  Jn1 (fun k5 =>
  Bn P .gtr 3 true t37 (.int .i64 8192) w fun t96 w =>
  If t96
  (Bt P .len #[9] 3 #[t0] w fun t98 w =>
  Bn P .quo 3 true (.int .i64 8192) t98 w fun t99 w =>
  Bt P .len #[9] 3 #[t0] w fun t101 w =>
  Bn P .mul 3 false t99 t101 w fun t102 w =>
  Bn P .eql 3 true t102 (.int .i64 0) w fun t104 w =>
  If t104
  (Bt P .len #[9] 3 #[t0] w fun t106 w =>
  k5 t106 w)
  (k5 t102 w))
  (k5 t37 w))
  (fun t8 w =>
  Al P 76 w fun t9 w =>
  Cl P 81 #[t9, t37] w (Pk R) fun t108 w =>
  Cl P 62 #[t9, t0] w (Pk R) fun t110 w =>
  Lp0 w (fun w k6 =>
  Cl P 82 #[t9] w (Pk R) fun t111 w =>
  Bn P .lss 3 false t111 t37 w fun t113 w =>
  If t113
  (Cl P 82 #[t9] w (Pk R) fun t115 w =>
  Bn P .sub 3 false t37 t115 w fun t116 w =>
  Cl P 82 #[t9] w (Pk R) fun t117 w =>
  Bt P .min #[3, 3, 3] 3 #[t116, t117, t8] w fun t119 w =>
  Cl P 63 #[t9] w (Pk R) fun t120 w =>
  Sc P 9 t120 none (some t119) none w fun t122 w =>
  Cl P 62 #[t9, t122] w (Pk R) fun t123 w =>
  k6 w)
  (Cl P 63 #[t9] w (Pk R) fun t124 w =>
  R (.returned t124) w)))))))))
theorem e_strings_Repeat {t0 t1 : Value} {w : World} {R : Ending → World → Prop} (h : s_strings_Repeat Tryz.prog t0 t1 w R) : Calls Tryz.prog 61 #[t0, t1] w R :=
  enter (h := (.sq .z (.sq (.sq .z (.bk (.sq .z (.cd (.sq .z .z) (.sq .z (.cd (.sq .z .z) .z)))))) (.jn [] [17, 18, 19] (.sq .z (.cd .z .z)) (.sq .z (.jn [] [29, 30, 31, 32, 33, 34, 35] (.sq .z (.cd .z .z)) (.sq .z (.sq (.sq .z (.cd (.sq .z .z) .z)) (.jn [] [4, 41, 42, 43, 44, 45, 46, 47, 48, 49, 50, 51, 52, 53, 54, 55, 56, 57, 58, 59, 60, 61, 62, 63, 64, 65, 66, 67, 68, 69, 70, 71, 72, 73, 74, 75, 76, 77, 78, 79, 80, 81, 82, 83, 84, 85, 86, 87, 88, 89, 90, 91, 92, 93] (.sq .z (.bk (.jn [43] [44, 45, 46, 47, 48] (.sq .z (.cd .z (.sq .z (.cd .z (.sq .z (.cd .z (.sq .z (.cd .z .z)))))))) (.cd (.bk (.sq .z (.cd (.sq .z .z) (.sq .z (.cd (.sq .z .z) (.sq .z (.cd (.sq .z .z) (.sq .z (.cd (.sq .z .z) (.sq .z (.cd (.sq .z .z) .z))))))))))) .z)))) (.sq .z (.jn [8] [95, 96, 97, 98, 99, 100, 101, 102, 103, 104, 105, 106] (.sq .z (.cd (.sq .z (.sq .z (.cd .z .z))) .z)) (.sq .z (.sq .z (.sq .z (.sq (.bk (.lp [] [10, 111, 112, 113, 114, 115, 116, 117, 118, 119, 120, 121, 122, 123] (.sq (.sq .z (.cd .z .z)) (.bk (.sq .z .z))))) (.sq .z .z)))))))))))))))) (args := [t0, t1]) Tryz.func61 (by kernel_rfl) (by kernel_rfl) (by kernel_rfl) (Eq.mp (by kernel_rfl) h)
theorem n_strings_Repeat : Enters Tryz.prog 61 := enters_of Tryz.func61 (by kernel_rfl) rfl
def s_strings_Builder_WriteString (P : Program) (t0 t1 : Value) (w : World) (R : Ending → World → Prop) : Prop :=
  Cl P 83 #[t0] w (Pk R) fun t7 w =>
  Nc t0 w fun t10 w =>
  Fa P 76 t10 1 w fun t11 w =>
  Ld P 72 t11 w fun t12 w =>
  Bt P .append #[72, 9] 72 #[t12, t1] w fun t14 w =>
  Nc t0 w fun t15 w =>
  Fa P 76 t15 1 w fun t16 w =>
  Sto P 72 t16 t14 w fun w =>
  Bt P .len #[9] 3 #[t1] w fun t18 w =>
  R (.returned (.tuple #[t18, .nilIface])) w
theorem e_strings_Builder_WriteString {t0 t1 : Value} {w : World} {R : Ending → World → Prop} (h : s_strings_Builder_WriteString Tryz.prog t0 t1 w R) : Calls Tryz.prog 62 #[t0, t1] w R :=
  enter (h := (.sq .z (.sq .z (.sq .z (.sq .z .z))))) (args := [t0, t1]) Tryz.func62 (by kernel_rfl) (by kernel_rfl) (by kernel_rfl) (Eq.mp (by kernel_rfl) h)
theorem n_strings_Builder_WriteString : Enters Tryz.prog 62 := enters_of Tryz.func62 (by kernel_rfl) rfl
def s_strings_Builder_String (P : Program) (t0 : Value) (w : World) (R : Ending → World → Prop) : Prop :=
  NcP t0 fun t4 =>
  Dv P true (Instr.fieldAt 76 t4 1) w.drew fun t5 =>
  Dv P false (Instr.loadAt 72 t5) w.drew fun t6 =>
  NcP t0 fun t9 =>
  Dv P true (Instr.fieldAt 76 t9 1) w.drew fun t10 =>
  Dv P false (Instr.loadAt 72 t10) w.drew fun t11 =>
  Dv P true (bV .len #[72] 3 #[t11]) w.drew fun t12 =>
  Bt P .unsafeSliceData #[72] 94 #[t6] w.drew fun t7 w =>
  Ke P (Instr.loadAt 72 t10) t11 w <|
  Bt P .unsafeString #[94, 3] 9 #[t7, t12] w fun t13 w =>
  R (.returned t13) w
theorem e_strings_Builder_String {t0 : Value} {w : World} {R : Ending → World → Prop} (h : s_strings_Builder_String Tryz.prog t0 w R) : Calls Tryz.prog 63 #[t0] w R :=
  enter (h := (.sq .z (.sq (.dr (.pur true 0 (.pur true 1 (.pur true 2 (.pur false 3 (.pur true 5 (.pur true 6 (.pur true 7 (.pur false 8 (.pur true 9 (.eff 4 [8] (.eff 10 [] (.pur true 11 .done))))))))))))) .z))) (args := [t0]) Tryz.func63 (by kernel_rfl) (by kernel_rfl) (by kernel_rfl) (Eq.mp (by kernel_rfl) h)
theorem n_strings_Builder_String : Enters Tryz.prog 63 := enters_of Tryz.func63 (by kernel_rfl) rfl
def s_integer_number_by (P : Program) (t0 t1 : Value) (w : World) (R : Ending → World → Prop) : Prop :=
  Bx P 48 t0 w fun t2 w =>
  Bx P 3 t1 w fun t3 w =>
  Ld P 48 t2 w fun t5 w =>
  Bt P .len #[48] 3 #[t5] w fun t6 w =>
  Cl P 68 #[t6, (.int .i64 0), (.func (.func 84) #[] #[t2, t3])] w (Pk R) fun t8 w =>
  Cl P 65 #[t8] w (Pk R) fun t9 w =>
  R (.returned t9) w
theorem e_integer_number_by {t0 t1 : Value} {w : World} {R : Ending → World → Prop} (h : s_integer_number_by Tryz.prog t0 t1 w R) : Calls Tryz.prog 64 #[t0, t1] w R :=
  enter (h := (.sq .z (.sq .z .z))) (args := [t0, t1]) Tryz.func64 (by kernel_rfl) (by kernel_rfl) (by kernel_rfl) (Eq.mp (by kernel_rfl) h)
theorem n_integer_number_by : Enters Tryz.prog 64 := enters_of Tryz.func64 (by kernel_rfl) rfl
def s_integer_number_trimmed (P : Program) (t0 : Value) (w : World) (R : Ending → World → Prop) : Prop :=
  Lp1 t0 w (fun t0x1 w k1 =>
  Bt P .len #[48] 3 #[t0x1] w fun t4 w =>
  Bn P .gtr 3 true t4 (.int .i64 0) w fun t5 w =>
  Gd t5 true (fun k => k t0x1 w) w fun t7 w =>
  Gd t5 true (fun k => k t0x1 w) w fun t8 w =>
  Gd t5 true (fun k => Bt P .len #[48] 3 #[t8] w k) w fun t9 w =>
  Gd t5 true (fun k => Bn P .sub 3 true t9 (.int .i64 1) w k) w fun t10 w =>
  Gd t5 true (fun k => Ia P 48 t7 t10 w k) w fun t11 w =>
  Gd t5 true (fun k => Ld P 3 t11 w k) w fun t12 w =>
  Gd t5 true (fun k => Bn P .eql 3 true t12 (.int .i64 0) w k) w fun t13 w =>
  Pick t5 t13 (.bool false) w fun t14 w =>
  If t14
  (Bt P .len #[48] 3 #[t0x1] w fun t17 w =>
  Bn P .sub 3 true t17 (.int .i64 1) w fun t18 w =>
  Sc P 48 t0x1 none (some t18) none w fun t19 w =>
  k1 t19 w)
  (R (.returned t0x1) w))
theorem e_integer_number_trimmed {t0 : Value} {w : World} {R : Ending → World → Prop} (h : s_integer_number_trimmed Tryz.prog t0 w R) : Calls Tryz.prog 65 #[t0] w R :=
  enter (h := (.sq .z (.sq (.bk (.lp [0] [3, 4, 5, 6, 7, 8, 9, 10, 11, 12, 13, 14, 15, 16, 17, 18, 19] (.sq (.sq .z (.cd .z .z)) (.bk .z)))) (.sq .z .z)))) (args := [t0]) Tryz.func65 (by kernel_rfl) (by kernel_rfl) (by kernel_rfl) (Eq.mp (by kernel_rfl) h)
theorem n_integer_number_trimmed : Enters Tryz.prog 65 := enters_of Tryz.func65 (by kernel_rfl) rfl
def s_integer_number_over_1 (P : Program) (t0 t1 t2 : Value) (w : World) (R : Ending → World → Prop) : Prop :=
  Dv P false (Instr.loadAt 81 t1) w.drew fun t5 =>
  Dv P true (bn .add 3 true t0 (.int .i64 1)) w.drew fun t7 =>
  Dv P false (Instr.loadAt 48 t2) w.drew fun t9 =>
  Cw P t5 #[t7] w.drew (Pk R) fun t8 w =>
  Ke P (Instr.loadAt 48 t2) t9 w <|
  Cl P 46 #[t8, t9] w (Pk R) fun t10 w =>
  Dv P true (bn .gtr 3 true t10 (.int .i64 0)) w fun t11 =>
  R (.returned t11) w
theorem e_integer_number_over_1 {t0 t1 t2 : Value} {w : World} {R : Ending → World → Prop} (h : s_integer_number_over_1 Tryz.prog t0 t1 t2 w R) : Calls Tryz.prog 66 #[t0, t1, t2] w R :=
  enter (h := (.sq .z (.sq (.dr (.pur false 0 (.pur true 1 (.pur true 2 (.pur false 4 (.eff 3 [4] (.eff 5 [] (.pur true 6 (.pur true 7 .done))))))))) .z))) (args := [t0, t1, t2]) Tryz.func66 (by kernel_rfl) (by kernel_rfl) (by kernel_rfl) (Eq.mp (by kernel_rfl) h)
theorem n_integer_number_over_1 : Enters Tryz.prog 66 := enters_of Tryz.func66 (by kernel_rfl) rfl
def s_sort_Search (P : Program) (t0 t1 : Value) (w : World) (R : Ending → World → Prop) : Prop :=
  Lp2 (.int .i64 0) t0 w (fun t5 t6 w k1 =>
  Bn P .lss 3 false t5 t6 w fun t11 w =>
  If t11
  (Bn P .add 3 false t5 t6 w fun t14 w =>
  Cv P 3 89 t14 w fun t15 w =>
  Bn P .shr 89 true t15 (.int .u64 1) w fun t16 w =>
  Cv P 89 3 t16 w fun t17 w =>
  Cw P t1 #[t17] w (Pk R) fun t20 w =>
  Un P .not t20 w fun t21 w =>
  If t21
  (Bn P .add 3 true t17 (.int .i64 1) w fun t23 w =>
  k1 t23 t6 w)
  (k1 t5 t17 w))
  (R (.returned t5) w))
theorem e_sort_Search {t0 t1 : Value} {w : World} {R : Ending → World → Prop} (h : s_sort_Search Tryz.prog t0 t1 w R) : Calls Tryz.prog 67 #[t0, t1] w R :=
  enter (h := (.sq .z (.sq .z (.sq (.bk (.lp [5, 6] [7, 9, 10, 11, 12, 13, 14, 15, 16, 17, 18, 19, 20, 21, 22, 23, 24] (.sq (.sq .z (.cd .z .z)) (.bk (.sq .z (.sq .z (.cd .z .z))))))) (.sq .z .z))))) (args := [t0, t1]) Tryz.func67 (by kernel_rfl) (by kernel_rfl) (by kernel_rfl) (Eq.mp (by kernel_rfl) h)
theorem n_sort_Search : Enters Tryz.prog 67 := enters_of Tryz.func67 (by kernel_rfl) rfl
def s_integer_fold_integer_number (P : Program) (t0 t1 t2 : Value) (w : World) (R : Ending → World → Prop) : Prop :=
  Bn P .add 3 true t0 (.int .i64 1) w fun t11 w =>
  Ms P 48 (.int .i64 0) t11 w fun t12 w =>
  Lp3 t1 t12 (.int .i64 0) w (fun t1x1 t7 t8 w k1 =>
  Bn P .lss 3 false t8 t0 w fun t15 w =>
  Gd t15 false (fun k => k t1x1 w) w fun t17 w =>
  Gd t15 false (fun k => Bn P .neq 3 true t17 (.int .i64 0) w k) w fun t18 w =>
  Pick t15 (.bool true) t18 w fun t19 w =>
  If t19
  (Cw P t2 #[t8] w (Pk R) fun t24 w =>
  Bn P .add 3 false t24 t1x1 w fun t26 w =>
  Bn P .lss 3 true t26 (.int .i64 0) w fun t28 w =>
  If t28
  (Bn P .add 3 true t26 (.int .i64 10000) w fun t30 w =>
  Bs P 48 1 [(0, t30)] w fun t39 w =>
  Bt P .append #[48, 48] 48 #[t7, t39] w fun t40 w =>
  Bn P .add 3 true t8 (.int .i64 1) w fun t21 w =>
  k1 (.int .i64 (-1)) t40 t21 w)
  (Bn P .geq 3 true t26 (.int .i64 10000) w fun t32 w =>
  If t32
  (Bn P .quo 3 true t26 (.int .i64 10000) w fun t34 w =>
  Bn P .rem 3 true t26 (.int .i64 10000) w fun t36 w =>
  Bs P 48 1 [(0, t36)] w fun t39x1 w =>
  Bt P .append #[48, 48] 48 #[t7, t39x1] w fun t40x1 w =>
  Bn P .add 3 true t8 (.int .i64 1) w fun t21x1 w =>
  k1 t34 t40x1 t21x1 w)
  (Bs P 48 1 [(0, t26)] w fun t39x2 w =>
  Bt P .append #[48, 48] 48 #[t7, t39x2] w fun t40x2 w =>
  Bn P .add 3 true t8 (.int .i64 1) w fun t21x2 w =>
  k1 (.int .i64 0) t40x2 t21x2 w)))
  (R (.returned t7) w))
theorem e_integer_fold_integer_number {t0 t1 t2 : Value} {w : World} {R : Ending → World → Prop} (h : s_integer_fold_integer_number Tryz.prog t0 t1 t2 w R) : Calls Tryz.prog 68 #[t0, t1, t2] w R :=
  enter (h := (.sq .z (.sq .z (.sq (.sq .z (.bk (.lp [1, 7, 8] [9, 13, 14, 15, 16, 17, 18, 19, 20, 21, 22, 23, 24, 25, 26, 27, 28, 29, 30, 31, 32, 33, 34, 35, 36, 37, 38, 39, 40] (.sq (.sq .z (.cd .z .z)) (.sq (.bk (.sq .z (.sq .z (.sq (.sq .z (.cd (.sq .z .z) (.sq .z (.cd (.sq .z .z) .z)))) .z)))) .z))))) (.sq .z .z))))) (args := [t0, t1, t2]) Tryz.func68 (by kernel_rfl) (by kernel_rfl) (by kernel_rfl) (Eq.mp (by kernel_rfl) h)
theorem n_integer_fold_integer_number : Enters Tryz.prog 68 := enters_of Tryz.func68 (by kernel_rfl) rfl
def s_integer_number_plus_1 (P : Program) (t0 t1 t2 : Value) (w : World) (R : Ending → World → Prop) : Prop :=
  Dv P false (Instr.loadAt 48 t1) w.drew fun t5 =>
  Dv P false (Instr.loadAt 48 t2) w.drew fun t8 =>
  Cl P 70 #[t5, t0] w.drew (Pk R) fun t7 w =>
  Ke P (Instr.loadAt 48 t2) t8 w <|
  Cl P 70 #[t8, t0] w (Pk R) fun t10 w =>
  Dv P true (bn .add 3 false t7 t10) w fun t11 =>
  R (.returned t11) w
theorem e_integer_number_plus_1 {t0 t1 t2 : Value} {w : World} {R : Ending → World → Prop} (h : s_integer_number_plus_1 Tryz.prog t0 t1 t2 w R) : Calls Tryz.prog 69 #[t0, t1, t2] w R :=
  enter (h := (.sq .z (.sq (.dr (.pur false 0 (.pur true 1 (.pur false 3 (.pur true 4 (.eff 2 [3] (.eff 5 [] (.pur true 6 (.pur true 7 .done))))))))) .z))) (args := [t0, t1, t2]) Tryz.func69 (by kernel_rfl) (by kernel_rfl) (by kernel_rfl) (Eq.mp (by kernel_rfl) h)
theorem n_integer_number_plus_1 : Enters Tryz.prog 69 := enters_of Tryz.func69 (by kernel_rfl) rfl
def s_integer_number_at (P : Program) (t0 t1 : Value) (w : World) (R : Ending → World → Prop) : Prop :=
  Bt P .len #[48] 3 #[t0] w fun t7 w =>
  Bn P .lss 3 false t1 t7 w fun t8 w =>
  If t8
  (Ia P 48 t0 t1 w fun t11 w =>
  Ld P 3 t11 w fun t12 w =>
  R (.returned t12) w)
  (R (.returned (.int .i64 0)) w)
theorem e_integer_number_at {t0 t1 : Value} {w : World} {R : Ending → World → Prop} (h : s_integer_number_at Tryz.prog t0 t1 w R) : Calls Tryz.prog 70 #[t0, t1] w R :=
  enter (h := (.sq .z (.sq (.sq .z (.cd (.sq .z .z) .z)) (.sq .z .z)))) (args := [t0, t1]) Tryz.func70 (by kernel_rfl) (by kernel_rfl) (by kernel_rfl) (Eq.mp (by kernel_rfl) h)
theorem n_integer_number_at : Enters Tryz.prog 70 := enters_of Tryz.func70 (by kernel_rfl) rfl
def s_integer_number_minus_1 (P : Program) (t0 t1 t2 : Value) (w : World) (R : Ending → World → Prop) : Prop :=
  Dv P false (Instr.loadAt 48 t1) w.drew fun t5 =>
  Dv P false (Instr.loadAt 48 t2) w.drew fun t8 =>
  Cl P 70 #[t5, t0] w.drew (Pk R) fun t7 w =>
  Ke P (Instr.loadAt 48 t2) t8 w <|
  Cl P 70 #[t8, t0] w (Pk R) fun t10 w =>
  Dv P true (bn .sub 3 false t7 t10) w fun t11 =>
  R (.returned t11) w
theorem e_integer_number_minus_1 {t0 t1 t2 : Value} {w : World} {R : Ending → World → Prop} (h : s_integer_number_minus_1 Tryz.prog t0 t1 t2 w R) : Calls Tryz.prog 71 #[t0, t1, t2] w R :=
  enter (h := (.sq .z (.sq (.dr (.pur false 0 (.pur true 1 (.pur false 3 (.pur true 4 (.eff 2 [3] (.eff 5 [] (.pur true 6 (.pur true 7 .done))))))))) .z))) (args := [t0, t1, t2]) Tryz.func71 (by kernel_rfl) (by kernel_rfl) (by kernel_rfl) (Eq.mp (by kernel_rfl) h)
theorem n_integer_number_minus_1 : Enters Tryz.prog 71 := enters_of Tryz.func71 (by kernel_rfl) rfl
def s_cmp_Compare_int (P : Program) (t0 t1 : Value) (w : World) (R : Ending → World → Prop) : Prop :=
  Cl P 85 #[t0] w (Pk R) fun t8 w =>
  Cl P 85 #[t1] w (Pk R) fun t10 w =>
  If t8
  (If t10
  (R (.returned (.int .i64 0)) w)
  (R (.returned (.int .i64 (-1))) w))
  (If t10
  (R (.returned (.int .i64 1)) w)
  (Bn P .lss 3 false t0 t1 w fun t16 w =>
  If t16
  (R (.returned (.int .i64 (-1))) w)
  (Bn P .gtr 3 false t0 t1 w fun t19 w =>
  If t19
  (R (.returned (.int .i64 1)) w)
  (R (.returned (.int .i64 0)) w))))
theorem e_cmp_Compare_int {t0 t1 : Value} {w : World} {R : Ending → World → Prop} (h : s_cmp_Compare_int Tryz.prog t0 t1 w R) : Calls Tryz.prog 72 #[t0, t1] w R :=
  enter (h := (.sq .z (.sq .z (.sq .z (.sq (.sq .z (.cd (.sq (.sq .z (.cd (.sq .z .z) .z)) (.sq .z .z)) .z)) (.sq (.sq .z (.cd (.sq .z .z) .z)) (.sq (.sq .z (.cd (.sq .z .z) .z)) (.sq (.sq .z (.cd (.sq .z .z) .z)) (.sq .z .z))))))))) (args := [t0, t1]) Tryz.func72 (by kernel_rfl) (by kernel_rfl) (by kernel_rfl) (Eq.mp (by kernel_rfl) h)
theorem n_cmp_Compare_int : Enters Tryz.prog 72 := enters_of Tryz.func72 (by kernel_rfl) rfl
def s_strings_TrimPrefix (P : Program) (t0 t1 : Value) (w : World) (R : Ending → World → Prop) : Prop :=
  Cl P 86 #[t0, t1] w (Pk R) fun t7 w =>
  R (.returned t7) w
theorem e_strings_TrimPrefix {t0 t1 : Value} {w : World} {R : Ending → World → Prop} (h : s_strings_TrimPrefix Tryz.prog t0 t1 w R) : Calls Tryz.prog 73 #[t0, t1] w R :=
  enter (h := (.sq .z (.sq .z .z))) (args := [t0, t1]) Tryz.func73 (by kernel_rfl) (by kernel_rfl) (by kernel_rfl) (Eq.mp (by kernel_rfl) h)
theorem n_strings_TrimPrefix : Enters Tryz.prog 73 := enters_of Tryz.func73 (by kernel_rfl) rfl
def s_strings_Trim (P : Program) (t0 t1 : Value) (w : World) (R : Ending → World → Prop) : Prop :=
  Bn P .eql 9 true t0 (str []) w fun t8 w =>
  Gd t8 false (fun k => k t1 w) w fun t10 w =>
  Gd t8 false (fun k => Bn P .eql 9 true t10 (str []) w k) w fun t11 w =>
  Pick t8 (.bool true) t11 w fun t12 w =>
  If t12
  (R (.returned t0) w)
  (Bt P .len #[9] 3 #[t1] w fun t15 w =>
  Bn P .eql 3 true t15 (.int .i64 1) w fun t16 w =>
  Gd t16 true (fun k => k t1 w) w fun t18 w =>
  Gd t16 true (fun k => Ix P 9 t18 (.int .i64 0) w k) w fun t19 w =>
  Gd t16 true (fun k => Bn P .lss 5 true t19 (.int .u8 128) w k) w fun t20 w =>
  Pick t16 t20 (.bool false) w fun t21 w =>
  If t21
  (Dv P true (Instr.index 9 t1 (.int .i64 0)) w.drew fun t24 =>
  Dv P true (Instr.index 9 t1 (.int .i64 0)) w.drew fun t27 =>
  Cl P 88 #[t0, t24] w.drew (Pk R) fun t25 w =>
  Cl P 87 #[t25, t27] w (Pk R) fun t28 w =>
  R (.returned t28) w)
  (Cl P 89 #[t1] w (Pk R) fun t31 w =>
  Ex t31 0 w fun t32 w =>
  Ex t31 1 w fun t33 w =>
  Al P 97 w fun t5 w =>
  Sto P 97 t5 t32 w fun w =>
  If t33
  (Cl P 91 #[t0, t5] w (Pk R) fun t36 w =>
  Cl P 90 #[t36, t5] w (Pk R) fun t37 w =>
  R (.returned t37) w)
  (Cl P 93 #[t0, t1] w (Pk R) fun t40 w =>
  Cl P 92 #[t40, t1] w (Pk R) fun t42 w =>
  R (.returned t42) w)))
theorem e_strings_Trim {t0 t1 : Value} {w : World} {R : Ending → World → Prop} (h : s_strings_Trim Tryz.prog t0 t1 w R) : Calls Tryz.prog 74 #[t0, t1] w R :=
  enter (h := (.sq .z (.sq (.sq .z (.cd (.sq .z .z) .z)) (.sq (.sq .z (.cd (.sq (.dr (.pur true 0 (.pur true 1 (.pur true 2 (.pur true 4 (.pur true 5 (.eff 3 [] (.eff 6 [] (.pur true 7 .done))))))))) .z) .z)) (.sq (.sq .z (.sq .z (.cd (.sq .z .z) .z))) (.sq .z .z)))))) (args := [t0, t1]) Tryz.func74 (by kernel_rfl) (by kernel_rfl) (by kernel_rfl) (Eq.mp (by kernel_rfl) h)
theorem n_strings_Trim : Enters Tryz.prog 74 := enters_of Tryz.func74 (by kernel_rfl) rfl
def s_slices_Backward_integer_number_int_1 (P : Program) (t0 t1 : Value) (w : World) (R : Ending → World → Prop) : Prop :=
  Ld P 48 t1 w fun t4 w =>
  Bt P .len #[48] 3 #[t4] w fun t5 w =>
  Bn P .sub 3 true t5 (.int .i64 1) w fun t6 w =>
  Lp1 t6 w (fun t3 w k1 =>
  Bn P .geq 3 true t3 (.int .i64 0) w fun t8 w =>
  If t8
  (Ld P 48 t1 w fun t13 w =>
  Ia P 48 t13 t3 w fun t15 w =>
  Ld P 3 t15 w fun t16 w =>
  Cw P t0 #[t3, t16] w (Pk R) fun t17 w =>
  Un P .not t17 w fun t18 w =>
  If t18
  (R (.returned (.tuple #[])) w)
  (Bn P .sub 3 true t3 (.int .i64 1) w fun t10 w =>
  k1 t10 w))
  (R (.returned (.tuple #[])) w))
theorem e_slices_Backward_integer_number_int_1 {t0 t1 : Value} {w : World} {R : Ending → World → Prop} (h : s_slices_Backward_integer_number_int_1 Tryz.prog t0 t1 w R) : Calls Tryz.prog 78 #[t0, t1] w R :=
  enter (h := (.sq .z (.bk (.lp [3] [7, 8, 9, 10, 11, 12, 13, 14, 15, 16, 17, 18] (.sq (.sq .z (.cd .z .z)) (.sq (.bk (.sq .z (.cd .z .z))) .z)))))) (args := [t0, t1]) Tryz.func78 (by kernel_rfl) (by kernel_rfl) (by kernel_rfl) (Eq.mp (by kernel_rfl) h)
theorem n_slices_Backward_integer_number_int_1 : Enters Tryz.prog 78 := enters_of Tryz.func78 (by kernel_rfl) rfl
def s_strings_Builder_copyCheck (P : Program) (t0 : Value) (w : World) (R : Ending → World → Prop) : Prop :=
  Nc t0 w fun t3 w =>
  Fa P 76 t3 0 w fun t4 w =>
  Ld P 74 t4 w fun t5 w =>
  Bn P .eql 74 true t5 (.pointer none) w fun t6 w =>
  If t6
  (Cv P 74 115 t0 w fun t9 w =>
  Cl P 104 #[t9] w (Pk R) fun t10 w =>
  Cv P 115 74 t10 w fun t11 w =>
  Nc t0 w fun t12 w =>
  Fa P 76 t12 0 w fun t13 w =>
  Sto P 74 t13 t11 w fun w =>
  R (.returned (.tuple #[])) w)
  (Nc t0 w fun t15 w =>
  Fa P 76 t15 0 w fun t16 w =>
  Ld P 74 t16 w fun t17 w =>
  Bn P .neq 74 false t17 t0 w fun t19 w =>
  If t19
  (False)
  (R (.returned (.tuple #[])) w))
theorem e_strings_Builder_copyCheck {t0 : Value} {w : World} {R : Ending → World → Prop} (h : s_strings_Builder_copyCheck Tryz.prog t0 w R) : Calls Tryz.prog 83 #[t0] w R :=
  enter (h := (.sq .z (.cd .z (.sq .z (.cd .z .z))))) (args := [t0]) Tryz.func83 (by kernel_rfl) (by kernel_rfl) (by kernel_rfl) (Eq.mp (by kernel_rfl) h)
theorem n_strings_Builder_copyCheck : Enters Tryz.prog 83 := enters_of Tryz.func83 (by kernel_rfl) rfl
def s_integer_number_by_1 (P : Program) (t0 t1 t2 : Value) (w : World) (R : Ending → World → Prop) : Prop :=
  Dv P false (Instr.loadAt 48 t1) w.drew fun t5 =>
  Dv P false (Instr.loadAt 3 t2) w.drew fun t8 =>
  Cl P 70 #[t5, t0] w.drew (Pk R) fun t7 w =>
  Ke P (Instr.loadAt 3 t2) t8 w <|
  Dv P true (bn .mul 3 false t7 t8) w fun t9 =>
  R (.returned t9) w
theorem e_integer_number_by_1 {t0 t1 t2 : Value} {w : World} {R : Ending → World → Prop} (h : s_integer_number_by_1 Tryz.prog t0 t1 t2 w R) : Calls Tryz.prog 84 #[t0, t1, t2] w R :=
  enter (h := (.sq .z (.sq (.dr (.pur false 0 (.pur true 1 (.pur false 3 (.eff 2 [3] (.pur true 4 (.pur true 5 .done))))))) .z))) (args := [t0, t1, t2]) Tryz.func84 (by kernel_rfl) (by kernel_rfl) (by kernel_rfl) (Eq.mp (by kernel_rfl) h)
theorem n_integer_number_by_1 : Enters Tryz.prog 84 := enters_of Tryz.func84 (by kernel_rfl) rfl
def s_cmp_isNaN_int (P : Program) (t0 : Value) (w : World) (R : Ending → World → Prop) : Prop :=
  Bn P .neq 3 false t0 t0 w fun t5 w =>
  R (.returned t5) w
theorem e_cmp_isNaN_int {t0 : Value} {w : World} {R : Ending → World → Prop} (h : s_cmp_isNaN_int Tryz.prog t0 w R) : Calls Tryz.prog 85 #[t0] w R :=
  enter (h := (.sq .z (.sq .z .z))) (args := [t0]) Tryz.func85 (by kernel_rfl) (by kernel_rfl) (by kernel_rfl) (Eq.mp (by kernel_rfl) h)
theorem n_cmp_isNaN_int : Enters Tryz.prog 85 := enters_of Tryz.func85 (by kernel_rfl) rfl
def s_strings_makeASCIISet (P : Program) (t0 : Value) (w : World) (R : Ending → World → Prop) : Prop :=
  Al P 97 w fun t2 w =>
  Lp1 (.int .i64 0) w (fun t4 w k1 =>
  Bt P .len #[9] 3 #[t0] w fun t8 w =>
  Bn P .lss 3 false t4 t8 w fun t9 w =>
  If t9
  (Ix P 9 t0 t4 w fun t14 w =>
  Bn P .geq 5 true t14 (.int .u8 128) w fun t16 w =>
  If t16
  (Ld P 97 t2 w fun t17 w =>
  Sto P 97 t2 t17 w fun w =>
  Rc P 97 t2 w fun r0 =>
  R (.returned (.tuple #[r0, (.bool false)])) w)
  (Ia P 97 t2 t14 w fun t19 w =>
  Sto P 4 t19 (.bool true) w fun w =>
  Bn P .add 3 true t4 (.int .i64 1) w fun t11 w =>
  k1 t11 w))
  (Ld P 97 t2 w fun t20 w =>
  Sto P 97 t2 t20 w fun w =>
  Rc P 97 t2 w fun r0 =>
  R (.returned (.tuple #[r0, (.bool true)])) w))
theorem e_strings_makeASCIISet {t0 : Value} {w : World} {R : Ending → World → Prop} (h : s_strings_makeASCIISet Tryz.prog t0 w R) : Calls Tryz.prog 89 #[t0] w R :=
  enter (h := (.sq .z (.sq (.sq .z (.bk (.lp [4] [3, 5, 6, 7, 8, 9, 10, 11, 12, 13, 14, 15, 16, 17, 18, 19] (.sq (.sq .z (.cd .z .z)) (.sq (.bk (.sq .z (.sq (.sq .z (.cd (.sq .z .z) .z)) .z))) .z))))) (.sq .z .z)))) (args := [t0]) Tryz.func89 (by kernel_rfl) (by kernel_rfl) (by kernel_rfl) (Eq.mp (by kernel_rfl) h)
theorem n_strings_makeASCIISet : Enters Tryz.prog 89 := enters_of Tryz.func89 (by kernel_rfl) rfl
def s_strings_trimLeftASCII (P : Program) (t0 t1 : Value) (w : World) (R : Ending → World → Prop) : Prop :=
  Lp1 t0 w (fun t0x1 w k1 =>
  Bt P .len #[9] 3 #[t0x1] w fun t6 w =>
  Bn P .gtr 3 true t6 (.int .i64 0) w fun t7 w =>
  If t7
  (Ix P 9 t0x1 (.int .i64 0) w fun t10 w =>
  Cl P 105 #[t1, t10] w (Pk R) fun t11 w =>
  Un P .not t11 w fun t12 w =>
  If t12
  (R (.returned t0x1) w)
  (Sc P 9 t0x1 (some (.int .i64 1)) none none w fun t14 w =>
  k1 t14 w))
  (R (.returned t0x1) w))
theorem e_strings_trimLeftASCII {t0 t1 : Value} {w : World} {R : Ending → World → Prop} (h : s_strings_trimLeftASCII Tryz.prog t0 t1 w R) : Calls Tryz.prog 90 #[t0, t1] w R :=
  enter (h := (.sq .z (.sq (.bk (.lp [0] [5, 6, 7, 8, 9, 10, 11, 12, 13, 14] (.sq (.sq .z (.cd .z .z)) (.bk (.sq (.sq .z (.cd .z .z)) .z))))) (.sq .z .z)))) (args := [t0, t1]) Tryz.func90 (by kernel_rfl) (by kernel_rfl) (by kernel_rfl) (Eq.mp (by kernel_rfl) h)
theorem n_strings_trimLeftASCII : Enters Tryz.prog 90 := enters_of Tryz.func90 (by kernel_rfl) rfl
def s_strings_trimRightASCII (P : Program) (t0 t1 : Value) (w : World) (R : Ending → World → Prop) : Prop :=
  Lp1 t0 w (fun t0x1 w k1 =>
  Bt P .len #[9] 3 #[t0x1] w fun t6 w =>
  Bn P .gtr 3 true t6 (.int .i64 0) w fun t7 w =>
  If t7
  (Bt P .len #[9] 3 #[t0x1] w fun t11 w =>
  Bn P .sub 3 true t11 (.int .i64 1) w fun t12 w =>
  Ix P 9 t0x1 t12 w fun t13 w =>
  Cl P 105 #[t1, t13] w (Pk R) fun t14 w =>
  Un P .not t14 w fun t15 w =>
  If t15
  (R (.returned t0x1) w)
  (Bt P .len #[9] 3 #[t0x1] w fun t18 w =>
  Bn P .sub 3 true t18 (.int .i64 1) w fun t19 w =>
  Sc P 9 t0x1 none (some t19) none w fun t20 w =>
  k1 t20 w))
  (R (.returned t0x1) w))
theorem e_strings_trimRightASCII {t0 t1 : Value} {w : World} {R : Ending → World → Prop} (h : s_strings_trimRightASCII Tryz.prog t0 t1 w R) : Calls Tryz.prog 91 #[t0, t1] w R :=
  enter (h := (.sq .z (.sq (.bk (.lp [0] [5, 6, 7, 8, 9, 10, 11, 12, 13, 14, 15, 16, 17, 18, 19, 20] (.sq (.sq .z (.cd .z .z)) (.bk (.sq (.sq .z (.cd .z .z)) .z))))) (.sq .z .z)))) (args := [t0, t1]) Tryz.func91 (by kernel_rfl) (by kernel_rfl) (by kernel_rfl) (Eq.mp (by kernel_rfl) h)
theorem n_strings_trimRightASCII : Enters Tryz.prog 91 := enters_of Tryz.func91 (by kernel_rfl) rfl
def s_strings_asciiSet_contains (P : Program) (t0 t1 : Value) (w : World) (R : Ending → World → Prop) : Prop :=
  Nc t0 w fun t7 w =>
  Ia P 97 t7 t1 w fun t8 w =>
  Ld P 4 t8 w fun t9 w =>
  R (.returned t9) w
theorem e_strings_asciiSet_contains {t0 t1 : Value} {w : World} {R : Ending → World → Prop} (h : s_strings_asciiSet_contains Tryz.prog t0 t1 w R) : Calls Tryz.prog 105 #[t0, t1] w R :=
  enter (h := (.sq .z (.sq .z .z))) (args := [t0, t1]) Tryz.func105 (by kernel_rfl) (by kernel_rfl) (by kernel_rfl) (Eq.mp (by kernel_rfl) h)
theorem n_strings_asciiSet_contains : Enters Tryz.prog 105 := enters_of Tryz.func105 (by kernel_rfl) rfl
end Go.Proofs.YtocilcjojdjfdaaGreatDoor
