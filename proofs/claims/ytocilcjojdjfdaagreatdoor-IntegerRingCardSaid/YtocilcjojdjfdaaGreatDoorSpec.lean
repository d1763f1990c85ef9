/-
  The formulas of the program's functions, printed by a program of ours, each proved by the kernel. By an AI agent.
-/
import Derived.Test.YtocilcjojdjfdaaGreatDoorEng
import Derived.Test.YtocilcjojdjfdaaGreatDoorProg
set_option linter.unusedSimpArgs false
set_option linter.unusedVariables false
namespace Go.Proofs.YtocilcjojdjfdaaGreatDoor
open Go Go.Eng Go.Shelf
set_option maxRecDepth 100000
set_option linter.unusedVariables false
def s_law03_IntegerRing (P : Program) (t0 t1 t2 : Value) (w : World) (R : Ending → World → Prop) : Prop :=
  Cl P 12 #[] w (Pk R) fun t46 w =>
  Cl P 13 #[t0, (.int .i64 60)] w (Pk R) fun t48 w =>
  Cl P 13 #[t1, (.int .i64 60)] w (Pk R) fun t50 w =>
  Cl P 13 #[t2, (.int .i64 60)] w (Pk R) fun t52 w =>
  Cl P 14 #[t48, t50] w (Pk R) fun t56 w =>
  Ex t56 0 w fun t57 w =>
  Ex t56 1 w fun t58 w =>
  Cl P 14 #[t50, t48] w (Pk R) fun t62 w =>
  Ex t62 0 w fun t63 w =>
  Ex t62 1 w fun t64 w =>
  Cl P 14 #[t57, t52] w (Pk R) fun t68 w =>
  Ex t68 0 w fun t69 w =>
  Ex t68 1 w fun t70 w =>
  Cl P 14 #[t50, t52] w (Pk R) fun t74 w =>
  Ex t74 0 w fun t75 w =>
  Ex t74 1 w fun t76 w =>
  Cl P 14 #[t48, t75] w (Pk R) fun t80 w =>
  Ex t80 0 w fun t81 w =>
  Ex t80 1 w fun t82 w =>
  Cl P 15 #[t48, t50] w (Pk R) fun t86 w =>
  Ex t86 0 w fun t87 w =>
  Ex t86 1 w fun t88 w =>
  Cl P 15 #[t50, t48] w (Pk R) fun t92 w =>
  Ex t92 0 w fun t93 w =>
  Ex t92 1 w fun t94 w =>
  Cl P 15 #[t87, t52] w (Pk R) fun t98 w =>
  Ex t98 0 w fun t99 w =>
  Ex t98 1 w fun t100 w =>
  Cl P 15 #[t50, t52] w (Pk R) fun t104 w =>
  Ex t104 0 w fun t105 w =>
  Ex t104 1 w fun t106 w =>
  Cl P 15 #[t48, t105] w (Pk R) fun t110 w =>
  Ex t110 0 w fun t111 w =>
  Ex t110 1 w fun t112 w =>
  Cl P 15 #[t57, t52] w (Pk R) fun t116 w =>
  Ex t116 0 w fun t117 w =>
  Ex t116 1 w fun t118 w =>
  Cl P 15 #[t48, t52] w (Pk R) fun t122 w =>
  Ex t122 0 w fun t123 w =>
  Ex t122 1 w fun t124 w =>
  Cl P 14 #[t123, t105] w (Pk R) fun t128 w =>
  Ex t128 0 w fun t129 w =>
  Ex t128 1 w fun t130 w =>
  Cl P 16 #[t48, t50] w (Pk R) fun t134 w =>
  Ex t134 0 w fun t135 w =>
  Ex t134 1 w fun t136 w =>
  Cl P 14 #[t135, t50] w (Pk R) fun t140 w =>
  Ex t140 0 w fun t141 w =>
  Ex t140 1 w fun t142 w =>
  Cl P 15 #[t48, (str [49])] w (Pk R) fun t145 w =>
  Ex t145 0 w fun t146 w =>
  Ex t145 1 w fun t147 w =>
  Cl P 15 #[t48, (str [48])] w (Pk R) fun t150 w =>
  Ex t150 0 w fun t151 w =>
  Ex t150 1 w fun t152 w =>
  Bn P .eql 24 true t58 (.int .i64 0) w fun t154 w =>
  Gd t154 true (fun k => k t64 w) w fun t156 w =>
  Gd t154 true (fun k => Bn P .eql 24 true t156 (.int .i64 0) w k) w fun t157 w =>
  Pick t154 t157 (.bool false) w fun t158 w =>
  Gd t158 true (fun k => k t70 w) w fun t160 w =>
  Gd t158 true (fun k => Bn P .eql 24 true t160 (.int .i64 0) w k) w fun t161 w =>
  Pick t158 t161 (.bool false) w fun t162 w =>
  Gd t162 true (fun k => k t76 w) w fun t164 w =>
  Gd t162 true (fun k => Bn P .eql 24 true t164 (.int .i64 0) w k) w fun t165 w =>
  Pick t162 t165 (.bool false) w fun t166 w =>
  Gd t166 true (fun k => k t82 w) w fun t168 w =>
  Gd t166 true (fun k => Bn P .eql 24 true t168 (.int .i64 0) w k) w fun t169 w =>
  Pick t166 t169 (.bool false) w fun t170 w =>
  Gd t170 true (fun k => k t88 w) w fun t172 w =>
  Gd t170 true (fun k => Bn P .eql 24 true t172 (.int .i64 0) w k) w fun t173 w =>
  Pick t170 t173 (.bool false) w fun t174 w =>
  Gd t174 true (fun k => k t94 w) w fun t176 w =>
  Gd t174 true (fun k => Bn P .eql 24 true t176 (.int .i64 0) w k) w fun t177 w =>
  Pick t174 t177 (.bool false) w fun t178 w =>
  Gd t178 true (fun k => k t100 w) w fun t180 w =>
  Gd t178 true (fun k => Bn P .eql 24 true t180 (.int .i64 0) w k) w fun t181 w =>
  Pick t178 t181 (.bool false) w fun t182 w =>
  Gd t182 true (fun k => k t106 w) w fun t184 w =>
  Gd t182 true (fun k => Bn P .eql 24 true t184 (.int .i64 0) w k) w fun t185 w =>
  Pick t182 t185 (.bool false) w fun t186 w =>
  Gd t186 true (fun k => k t112 w) w fun t188 w =>
  Gd t186 true (fun k => Bn P .eql 24 true t188 (.int .i64 0) w k) w fun t189 w =>
  Pick t186 t189 (.bool false) w fun t190 w =>
  Gd t190 true (fun k => k t118 w) w fun t192 w =>
  Gd t190 true (fun k => Bn P .eql 24 true t192 (.int .i64 0) w k) w fun t193 w =>
  Pick t190 t193 (.bool false) w fun t194 w =>
  Gd t194 true (fun k => k t124 w) w fun t196 w =>
  Gd t194 true (fun k => Bn P .eql 24 true t196 (.int .i64 0) w k) w fun t197 w =>
  Pick t194 t197 (.bool false) w fun t198 w =>
  Gd t198 true (fun k => k t130 w) w fun t200 w =>
  Gd t198 true (fun k => Bn P .eql 24 true t200 (.int .i64 0) w k) w fun t201 w =>
  Pick t198 t201 (.bool false) w fun t202 w =>
  Gd t202 true (fun k => k t136 w) w fun t204 w =>
  Gd t202 true (fun k => Bn P .eql 24 true t204 (.int .i64 0) w k) w fun t205 w =>
  Pick t202 t205 (.bool false) w fun t206 w =>
  Gd t206 true (fun k => k t142 w) w fun t208 w =>
  Gd t206 true (fun k => Bn P .eql 24 true t208 (.int .i64 0) w k) w fun t209 w =>
  Pick t206 t209 (.bool false) w fun t210 w =>
  Gd t210 true (fun k => k t147 w) w fun t212 w =>
  Gd t210 true (fun k => Bn P .eql 24 true t212 (.int .i64 0) w k) w fun t213 w =>
  Pick t210 t213 (.bool false) w fun t214 w =>
  Gd t214 true (fun k => k t152 w) w fun t216 w =>
  Gd t214 true (fun k => Bn P .eql 24 true t216 (.int .i64 0) w k) w fun t217 w =>
  Pick t214 t217 (.bool false) w fun t218 w =>
  Gd t46 true (fun k => k t218 w) w fun t221 w =>
  Pick t46 t221 (.bool false) w fun t222 w =>
  Gd t222 true (fun k => k t57 w) w fun t224 w =>
  Gd t222 true (fun k => k t63 w) w fun t225 w =>
  Gd t222 true (fun k => Bn P .eql 9 false t224 t225 w k) w fun t226 w =>
  Pick t222 t226 (.bool false) w fun t227 w =>
  Gd t227 true (fun k => k t69 w) w fun t229 w =>
  Gd t227 true (fun k => k t81 w) w fun t230 w =>
  Gd t227 true (fun k => Bn P .eql 9 false t229 t230 w k) w fun t231 w =>
  Pick t227 t231 (.bool false) w fun t232 w =>
  Gd t232 true (fun k => k t87 w) w fun t234 w =>
  Gd t232 true (fun k => k t93 w) w fun t235 w =>
  Gd t232 true (fun k => Bn P .eql 9 false t234 t235 w k) w fun t236 w =>
  Pick t232 t236 (.bool false) w fun t237 w =>
  Gd t237 true (fun k => k t99 w) w fun t239 w =>
  Gd t237 true (fun k => k t111 w) w fun t240 w =>
  Gd t237 true (fun k => Bn P .eql 9 false t239 t240 w k) w fun t241 w =>
  Pick t237 t241 (.bool false) w fun t242 w =>
  Gd t242 true (fun k => k t117 w) w fun t244 w =>
  Gd t242 true (fun k => k t129 w) w fun t245 w =>
  Gd t242 true (fun k => Bn P .eql 9 false t244 t245 w k) w fun t246 w =>
  Pick t242 t246 (.bool false) w fun t247 w =>
  Gd t247 true (fun k => k t141 w) w fun t249 w =>
  Gd t247 true (fun k => k t48 w) w fun t250 w =>
  Gd t247 true (fun k => Bn P .eql 9 false t249 t250 w k) w fun t251 w =>
  Pick t247 t251 (.bool false) w fun t252 w =>
  Gd t252 true (fun k => k t146 w) w fun t254 w =>
  Gd t252 true (fun k => k t48 w) w fun t255 w =>
  Gd t252 true (fun k => Bn P .eql 9 false t254 t255 w k) w fun t256 w =>
  Pick t252 t256 (.bool false) w fun t257 w =>
  Gd t257 true (fun k => k t151 w) w fun t259 w =>
  Gd t257 true (fun k => Bn P .eql 9 true t259 (str [48]) w k) w fun t260 w =>
  Pick t257 t260 (.bool false) w fun t261 w =>
  R (.returned t261) w
theorem e_law03_IntegerRing {t0 t1 t2 : Value} {w : World} {R : Ending → World → Prop} (h : s_law03_IntegerRing Tryz.prog t0 t1 t2 w R) : Calls Tryz.prog 3 #[t0, t1, t2] w R :=
  enter (h := (.sq .z (.sq .z (.sq .z (.sq .z (.sq .z (.sq .z (.sq .z (.sq .z (.sq .z (.sq .z (.sq .z (.sq .z (.sq .z (.sq .z (.sq .z (.sq .z (.sq .z (.sq .z (.sq .z (.sq .z (.sq .z (.sq .z (.sq .z (.sq .z .z))))))))))))))))))))))))) (args := [t0, t1, t2]) Tryz.func3 (by kernel_rfl) (by kernel_rfl) (by kernel_rfl) (Eq.mp (by kernel_rfl) h)
theorem n_law03_IntegerRing : Enters Tryz.prog 3 := enters_of Tryz.func3 (by kernel_rfl) rfl
def s_law03_sane (P : Program) (w : World) (R : Ending → World → Prop) : Prop :=
  Cl P 14 #[(str [57, 57, 57]), (str [49])] w (Pk R) fun t23 w =>
  Ex t23 0 w fun t24 w =>
  Ex t23 1 w fun t25 w =>
  Cl P 16 #[(str [49]), (str [49, 48, 48, 48])] w (Pk R) fun t27 w =>
  Ex t27 0 w fun t28 w =>
  Ex t27 1 w fun t29 w =>
  Cl P 15 #[(str [45, 49, 50]), (str [49, 50])] w (Pk R) fun t31 w =>
  Ex t31 0 w fun t32 w =>
  Ex t31 1 w fun t33 w =>
  Cl P 17 #[(str [45, 55]), (str [50])] w (Pk R) fun t35 w =>
  Ex t35 0 w fun t36 w =>
  Ex t35 1 w fun t37 w =>
  Ex t35 2 w fun t38 w =>
  Cl P 17 #[(str [45, 55]), (str [45, 50])] w (Pk R) fun t40 w =>
  Ex t40 0 w fun t41 w =>
  Ex t40 1 w fun t42 w =>
  Ex t40 2 w fun t43 w =>
  Cl P 20 #[(str [49, 50]), (str [45, 49, 56])] w (Pk R) fun t45 w =>
  Ex t45 0 w fun t46 w =>
  Ex t45 1 w fun t47 w =>
  Cl P 21 #[(str [57, 57])] w (Pk R) fun t49 w =>
  Ex t49 0 w fun t50 w =>
  Ex t49 1 w fun t51 w =>
  Cl P 21 #[(str [45, 49])] w (Pk R) fun t53 w =>
  Ex t53 0 w fun t54 w =>
  Ex t53 1 w fun t55 w =>
  Cl P 14 #[(str [48, 48, 55]), (str [49])] w (Pk R) fun t57 w =>
  Ex t57 0 w fun t58 w =>
  Ex t57 1 w fun t59 w =>
  Bn P .eql 24 true t25 (.int .i64 0) w fun t61 w =>
  Gd t61 true (fun k => k t29 w) w fun t63 w =>
  Gd t61 true (fun k => Bn P .eql 24 true t63 (.int .i64 0) w k) w fun t64 w =>
  Pick t61 t64 (.bool false) w fun t65 w =>
  Gd t65 true (fun k => k t33 w) w fun t67 w =>
  Gd t65 true (fun k => Bn P .eql 24 true t67 (.int .i64 0) w k) w fun t68 w =>
  Pick t65 t68 (.bool false) w fun t69 w =>
  Gd t69 true (fun k => k t38 w) w fun t71 w =>
  Gd t69 true (fun k => Bn P .eql 24 true t71 (.int .i64 0) w k) w fun t72 w =>
  Pick t69 t72 (.bool false) w fun t73 w =>
  Gd t73 true (fun k => k t43 w) w fun t75 w =>
  Gd t73 true (fun k => Bn P .eql 24 true t75 (.int .i64 0) w k) w fun t76 w =>
  Pick t73 t76 (.bool false) w fun t77 w =>
  Gd t77 true (fun k => k t47 w) w fun t79 w =>
  Gd t77 true (fun k => Bn P .eql 24 true t79 (.int .i64 0) w k) w fun t80 w =>
  Pick t77 t80 (.bool false) w fun t81 w =>
  Gd t81 true (fun k => k t51 w) w fun t83 w =>
  Gd t81 true (fun k => Bn P .eql 24 true t83 (.int .i64 0) w k) w fun t84 w =>
  Pick t81 t84 (.bool false) w fun t85 w =>
  Gd t85 true (fun k => k t55 w) w fun t87 w =>
  Gd t85 true (fun k => Bn P .eql 24 true t87 (.int .i64 30) w k) w fun t88 w =>
  Pick t85 t88 (.bool false) w fun t89 w =>
  Gd t89 true (fun k => k t59 w) w fun t91 w =>
  Gd t89 true (fun k => Bn P .eql 24 true t91 (.int .i64 30) w k) w fun t92 w =>
  Pick t89 t92 (.bool false) w fun t93 w =>
  Gd t93 true (fun k => k t24 w) w fun t96 w =>
  Gd t93 true (fun k => Bn P .eql 9 true t96 (str [49, 48, 48, 48]) w k) w fun t97 w =>
  Pick t93 t97 (.bool false) w fun t98 w =>
  Gd t98 true (fun k => k t28 w) w fun t100 w =>
  Gd t98 true (fun k => Bn P .eql 9 true t100 (str [45, 57, 57, 57]) w k) w fun t101 w =>
  Pick t98 t101 (.bool false) w fun t102 w =>
  Gd t102 true (fun k => k t32 w) w fun t104 w =>
  Gd t102 true (fun k => Bn P .eql 9 true t104 (str [45, 49, 52, 52]) w k) w fun t105 w =>
  Pick t102 t105 (.bool false) w fun t106 w =>
  Gd t106 true (fun k => k t36 w) w fun t108 w =>
  Gd t106 true (fun k => Bn P .eql 9 true t108 (str [45, 52]) w k) w fun t109 w =>
  Pick t106 t109 (.bool false) w fun t110 w =>
  Gd t110 true (fun k => k t37 w) w fun t112 w =>
  Gd t110 true (fun k => Bn P .eql 9 true t112 (str [49]) w k) w fun t113 w =>
  Pick t110 t113 (.bool false) w fun t114 w =>
  Gd t114 true (fun k => k t41 w) w fun t116 w =>
  Gd t114 true (fun k => Bn P .eql 9 true t116 (str [52]) w k) w fun t117 w =>
  Pick t114 t117 (.bool false) w fun t118 w =>
  Gd t118 true (fun k => k t42 w) w fun t120 w =>
  Gd t118 true (fun k => Bn P .eql 9 true t120 (str [49]) w k) w fun t121 w =>
  Pick t118 t121 (.bool false) w fun t122 w =>
  Gd t122 true (fun k => k t46 w) w fun t124 w =>
  Gd t122 true (fun k => Bn P .eql 9 true t124 (str [54]) w k) w fun t125 w =>
  Pick t122 t125 (.bool false) w fun t126 w =>
  Gd t126 true (fun k => k t50 w) w fun t128 w =>
  Gd t126 true (fun k => Bn P .eql 9 true t128 (str [57]) w k) w fun t129 w =>
  Pick t126 t129 (.bool false) w fun t130 w =>
  Gd t130 true (fun k => Cl P 19 #[(str [45, 55])] w (Pk R) k) w fun t132 w =>
  Pick t130 t132 (.bool false) w fun t133 w =>
  Gd t133 true (fun k => Cl P 19 #[(str [45, 48])] w (Pk R) k) w fun t135 w =>
  Gd t133 true (fun k => Un P .not t135 w k) w fun t136 w =>
  Pick t133 t136 (.bool false) w fun t137 w =>
  Gd t137 true (fun k => Cl P 19 #[(str [])] w (Pk R) k) w fun t139 w =>
  Gd t137 true (fun k => Un P .not t139 w k) w fun t140 w =>
  Pick t137 t140 (.bool false) w fun t141 w =>
  Gd t141 true (fun k => Cl P 18 #[(str [45, 56]), (str [45, 55])] w (Pk R) k) w fun t143 w =>
  Gd t141 true (fun k => Bn P .lss 3 true t143 (.int .i64 0) w k) w fun t144 w =>
  Pick t141 t144 (.bool false) w fun t145 w =>
  R (.returned t145) w
theorem e_law03_sane {w : World} {R : Ending → World → Prop} (h : s_law03_sane Tryz.prog  w R) : Calls Tryz.prog 12 #[] w R :=
  enter (h := (.sq .z (.sq .z (.sq .z (.sq .z (.sq .z (.sq .z (.sq .z (.sq .z (.sq .z (.sq .z (.sq .z (.sq .z .z))))))))))))) (args := []) Tryz.func12 (by kernel_rfl) (by kernel_rfl) (by kernel_rfl) (Eq.mp (by kernel_rfl) h)
theorem n_law03_sane : Enters Tryz.prog 12 := enters_of Tryz.func12 (by kernel_rfl) rfl
def s_ref03_Made (P : Program) (t0 t1 : Value) (w : World) (R : Ending → World → Prop) : Prop :=
  Lp2 (.slice none 0 0) (.int .i64 0) w (fun t5 t6 w k1 =>
  Bt P .len #[9] 3 #[t0] w fun t11 w =>
  Bn P .lss 3 false t6 t11 w fun t12 w =>
  Gd t12 true (fun k => k t6 w) w fun t14 w =>
  Gd t12 true (fun k => k t1 w) w fun t15 w =>
  Gd t12 true (fun k => Bn P .lss 3 false t14 t15 w k) w fun t16 w =>
  Pick t12 t16 (.bool false) w fun t17 w =>
  If t17
  (Ix P 9 t0 t6 w fun t23 w =>
  Cv P 5 3 t23 w fun t24 w =>
  Bn P .rem 3 true t24 (.int .i64 10) w fun t25 w =>
  Bs P 44 1 [(0, t25)] w fun t26 w =>
  Bt P .append #[44, 44] 44 #[t5, t26] w fun t27 w =>
  Bn P .add 3 true t6 (.int .i64 1) w fun t19 w =>
  k1 t27 t19 w)
  (Dv P true (bV .len #[9] 3 #[t0]) w.drew fun t30 =>
  Dv P true (bn .gtr 3 true t30 (.int .i64 0)) w.drew fun t31 =>
  GdP t31 true (fun k => k t0) fun t33 =>
  GdP t31 true (fun k => Dv P true (Instr.index 9 t33 (.int .i64 0)) w.drew k) fun t34 =>
  GdP t31 true (fun k => Dv P true (bn .geq 5 true t34 (.int .u8 128)) w.drew k) fun t35 =>
  PickP t31 t35 (.bool false) fun t36 =>
  Cl P 37 #[t5] w.drew (Pk R) fun t38 w =>
  Cl P 36 #[t36, t38] w (Pk R) fun t39 w =>
  ExP t39 0 fun t40 =>
  ExP t39 1 fun t41 =>
  R (.returned t40) w))
theorem e_ref03_Made {t0 t1 : Value} {w : World} {R : Ending → World → Prop} (h : s_ref03_Made Tryz.prog t0 t1 w R) : Calls Tryz.prog 13 #[t0, t1] w R :=
  enter (h := (.sq .z (.sq .z (.sq (.sq .z (.bk (.lp [5, 6] [9, 10, 11, 12, 13, 14, 15, 16, 17, 18, 19, 20, 21, 22, 23, 24, 25, 26, 27] (.sq (.sq .z (.cd .z .z)) (.sq (.bk .z) .z))))) (.sq (.dr (.pur true 0 (.pur true 1 (.pur true 2 (.pur true 3 (.pur true 4 (.pur true 5 (.pur true 6 (.pur true 7 (.pur true 8 (.eff 9 [] (.eff 10 [] (.pur true 11 (.pur true 12 (.pur true 13 (.pur true 14 (.pur true 15 .done))))))))))))))))) (.sq .z .z)))))) (args := [t0, t1]) Tryz.func13 (by kernel_rfl) (by kernel_rfl) (by kernel_rfl) (Eq.mp (by kernel_rfl) h)
theorem n_ref03_Made : Enters Tryz.prog 13 := enters_of Tryz.func13 (by kernel_rfl) rfl
def s_integer_Add (P : Program) (t0 t1 : Value) (w : World) (R : Ending → World → Prop) : Prop :=
  Cl P 38 #[t0, t1] w (Pk R) fun t12 w =>
  Ex t12 0 w fun t13 w =>
  Ex t12 1 w fun t14 w =>
  Ex t12 2 w fun t15 w =>
  Al P 50 w fun t6 w =>
  Al P 50 w fun t7 w =>
  Sto P 50 t6 t13 w fun w =>
  Sto P 50 t7 t14 w fun w =>
  Un P .not t15 w fun t17 w =>
  If t17
  (R (.returned (.tuple #[(str []), (.int .i64 30)])) w)
  (Ld P 50 t6 w fun t18 w =>
  Ld P 50 t7 w fun t19 w =>
  Cl P 39 #[t18, t19] w (Pk R) fun t20 w =>
  Cl P 40 #[t20] w (Pk R) fun t21 w =>
  Ex t21 0 w fun t22 w =>
  Ex t21 1 w fun t23 w =>
  R (.returned (.tuple #[t22, t23])) w)
theorem e_integer_Add {t0 t1 : Value} {w : World} {R : Ending → World → Prop} (h : s_integer_Add Tryz.prog t0 t1 w R) : Calls Tryz.prog 14 #[t0, t1] w R :=
  enter (h := (.sq .z (.sq .z (.sq (.sq .z (.cd (.sq .z .z) .z)) (.sq .z .z))))) (args := [t0, t1]) Tryz.func14 (by kernel_rfl) (by kernel_rfl) (by kernel_rfl) (Eq.mp (by kernel_rfl) h)
theorem n_integer_Add : Enters Tryz.prog 14 := enters_of Tryz.func14 (by kernel_rfl) rfl
def s_integer_Mul (P : Program) (t0 t1 : Value) (w : World) (R : Ending → World → Prop) : Prop :=
  Cl P 38 #[t0, t1] w (Pk R) fun t12 w =>
  Ex t12 0 w fun t13 w =>
  Ex t12 1 w fun t14 w =>
  Ex t12 2 w fun t15 w =>
  Al P 50 w fun t6 w =>
  Al P 50 w fun t7 w =>
  Sto P 50 t6 t13 w fun w =>
  Sto P 50 t7 t14 w fun w =>
  Un P .not t15 w fun t17 w =>
  If t17
  (R (.returned (.tuple #[(str []), (.int .i64 30)])) w)
  (Dv P true (Instr.fieldAt 50 t6 0) w.drew fun t18 =>
  Dv P false (Instr.loadAt 4 t18) w.drew fun t19 =>
  Dv P true (Instr.fieldAt 50 t7 0) w.drew fun t20 =>
  Dv P false (Instr.loadAt 4 t20) w.drew fun t21 =>
  Dv P true (bn .neq 4 false t19 t21) w.drew fun t22 =>
  Dv P true (Instr.fieldAt 50 t6 1) w.drew fun t23 =>
  Dv P false (Instr.loadAt 48 t23) w.drew fun t24 =>
  Dv P true (Instr.fieldAt 50 t7 1) w.drew fun t25 =>
  Dv P false (Instr.loadAt 48 t25) w.drew fun t26 =>
  Cl P 41 #[t24, t26] w.drew (Pk R) fun t27 w =>
  Ke P (Instr.loadAt 4 t18) t19 w <|
  Ke P (Instr.loadAt 4 t20) t21 w <|
  Dv P true (Instr.build 50 #[(0, t22), (1, t27)]) w fun t28 =>
  Cl P 40 #[t28] w (Pk R) fun t29 w =>
  ExP t29 0 fun t30 =>
  ExP t29 1 fun t31 =>
  R (.returned (.tuple #[t30, t31])) w)
theorem e_integer_Mul {t0 t1 : Value} {w : World} {R : Ending → World → Prop} (h : s_integer_Mul Tryz.prog t0 t1 w R) : Calls Tryz.prog 15 #[t0, t1] w R :=
  enter (h := (.sq .z (.sq .z (.sq (.sq .z (.cd (.sq .z .z) .z)) (.sq (.dr (.pur true 0 (.pur false 1 (.pur true 2 (.pur false 3 (.pur true 4 (.pur true 5 (.pur false 6 (.pur true 7 (.pur false 8 (.eff 9 [1, 3] (.pur true 10 (.eff 11 [] (.pur true 12 (.pur true 13 (.pur true 14 (.pur true 15 .done))))))))))))))))) .z))))) (args := [t0, t1]) Tryz.func15 (by kernel_rfl) (by kernel_rfl) (by kernel_rfl) (Eq.mp (by kernel_rfl) h)
theorem n_integer_Mul : Enters Tryz.prog 15 := enters_of Tryz.func15 (by kernel_rfl) rfl
def s_integer_Sub (P : Program) (t0 t1 : Value) (w : World) (R : Ending → World → Prop) : Prop :=
  Cl P 38 #[t0, t1] w (Pk R) fun t12 w =>
  Ex t12 0 w fun t13 w =>
  Ex t12 1 w fun t14 w =>
  Ex t12 2 w fun t15 w =>
  Al P 50 w fun t6 w =>
  Al P 50 w fun t7 w =>
  Sto P 50 t6 t13 w fun w =>
  Sto P 50 t7 t14 w fun w =>
  Un P .not t15 w fun t17 w =>
  If t17
  (R (.returned (.tuple #[(str []), (.int .i64 30)])) w)
  (Fa P 50 t7 0 w fun t18 w =>
  Ld P 4 t18 w fun t19 w =>
  Un P .not t19 w fun t20 w =>
  Fa P 50 t7 0 w fun t21 w =>
  Sto P 4 t21 t20 w fun w =>
  Ld P 50 t6 w fun t22 w =>
  Ld P 50 t7 w fun t23 w =>
  Cl P 39 #[t22, t23] w (Pk R) fun t24 w =>
  Cl P 40 #[t24] w (Pk R) fun t25 w =>
  Ex t25 0 w fun t26 w =>
  Ex t25 1 w fun t27 w =>
  R (.returned (.tuple #[t26, t27])) w)
theorem e_integer_Sub {t0 t1 : Value} {w : World} {R : Ending → World → Prop} (h : s_integer_Sub Tryz.prog t0 t1 w R) : Calls Tryz.prog 16 #[t0, t1] w R :=
  enter (h := (.sq .z (.sq .z (.sq (.sq .z (.cd (.sq .z .z) .z)) (.sq .z (.sq .z .z)))))) (args := [t0, t1]) Tryz.func16 (by kernel_rfl) (by kernel_rfl) (by kernel_rfl) (Eq.mp (by kernel_rfl) h)
theorem n_integer_Sub : Enters Tryz.prog 16 := enters_of Tryz.func16 (by kernel_rfl) rfl
def s_integer_Div (P : Program) (t0 t1 : Value) (w : World) (R : Ending → World → Prop) : Prop :=
  Cl P 38 #[t0, t1] w (Pk R) fun t19 w =>
  Ex t19 0 w fun t20 w =>
  Ex t19 1 w fun t21 w =>
  Ex t19 2 w fun t22 w =>
  Al P 50 w fun t7 w =>
  Al P 50 w fun t8 w =>
  Sto P 50 t7 t20 w fun w =>
  Sto P 50 t8 t21 w fun w =>
  Un P .not t22 w fun t24 w =>
  Gd t24 false (fun k => Fa P 50 t8 1 w k) w fun t26 w =>
  Gd t24 false (fun k => Ld P 48 t26 w k) w fun t27 w =>
  Gd t24 false (fun k => Bt P .len #[48] 3 #[t27] w k) w fun t28 w =>
  Gd t24 false (fun k => Bn P .eql 3 true t28 (.int .i64 0) w k) w fun t29 w =>
  Pick t24 (.bool true) t29 w fun t30 w =>
  If t30
  (R (.returned (.tuple #[(str []), (str []), (.int .i64 30)])) w)
  (Fa P 50 t7 1 w fun t32 w =>
  Ld P 48 t32 w fun t33 w =>
  Fa P 50 t8 1 w fun t34 w =>
  Ld P 48 t34 w fun t35 w =>
  Cl P 42 #[t33, t35] w (Pk R) fun t36 w =>
  Ex t36 0 w fun t37 w =>
  Ex t36 1 w fun t38 w =>
  Jn2 (fun k1 =>
  Fa P 50 t7 0 w fun t39 w =>
  Ld P 4 t39 w fun t40 w =>
  Gd t40 true (fun k => k t38 w) w fun t42 w =>
  Gd t40 true (fun k => Bt P .len #[48] 3 #[t42] w k) w fun t43 w =>
  Gd t40 true (fun k => Bn P .gtr 3 true t43 (.int .i64 0) w k) w fun t44 w =>
  Pick t40 t44 (.bool false) w fun t45 w =>
  If t45
  (Dv P true (Instr.fieldAt 50 t8 1) w.drew fun t49 =>
  Dv P false (Instr.loadAt 48 t49) w.drew fun t50 =>
  Cl P 44 #[] w.drew (Pk R) fun t47 w =>
  Ke P (Instr.loadAt 48 t49) t50 w <|
  Cl P 43 #[t37, t47] w (Pk R) fun t48 w =>
  Ke P (Instr.loadAt 48 t49) t50 w <|
  Cl P 45 #[t50, t38] w (Pk R) fun t52 w =>
  k1 t48 t52 w)
  (k1 t37 t38 w))
  (fun t10 t11 w =>
  Fa P 50 t7 0 w fun t54 w =>
  Ld P 4 t54 w fun t55 w =>
  Fa P 50 t8 0 w fun t56 w =>
  Ld P 4 t56 w fun t57 w =>
  Bn P .neq 4 false t55 t57 w fun t58 w =>
  Bd P 50 [(0, t58), (1, t10)] w fun t60 w =>
  Cl P 40 #[t60] w (Pk R) fun t61 w =>
  Ex t61 0 w fun t62 w =>
  Ex t61 1 w fun t63 w =>
  Bn P .neq 24 true t63 (.int .i64 0) w fun t65 w =>
  If t65
  (R (.returned (.tuple #[(str []), (str []), t63])) w)
  (Bd P 50 [(1, t11)] w fun t69 w =>
  Cl P 40 #[t69] w (Pk R) fun t70 w =>
  Ex t70 0 w fun t71 w =>
  Ex t70 1 w fun t72 w =>
  R (.returned (.tuple #[t62, t71, (.int .i64 0)])) w)))
theorem e_integer_Div {t0 t1 : Value} {w : World} {R : Ending → World → Prop} (h : s_integer_Div Tryz.prog t0 t1 w R) : Calls Tryz.prog 17 #[t0, t1] w R :=
  enter (h := (.sq .z (.sq .z (.sq (.sq .z (.cd (.sq .z .z) .z)) (.sq .z (.jn [10, 11] [39, 40, 41, 42, 43, 44, 45, 46, 47, 48, 49, 50, 51, 52] (.sq .z (.cd (.dr (.pur true 0 (.pur true 3 (.pur false 4 (.pur true 5 (.eff 1 [4] (.eff 2 [4] (.eff 6 [] (.pur true 7 (.pur true 8 .done)))))))))) .z)) (.sq .z (.sq (.sq .z (.cd (.sq .z .z) .z)) (.sq .z (.sq .z .z)))))))))) (args := [t0, t1]) Tryz.func17 (by kernel_rfl) (by kernel_rfl) (by kernel_rfl) (Eq.mp (by kernel_rfl) h)
theorem n_integer_Div : Enters Tryz.prog 17 := enters_of Tryz.func17 (by kernel_rfl) rfl
def s_integer_Compare (P : Program) (t0 t1 : Value) (w : World) (R : Ending → World → Prop) : Prop :=
  Cl P 38 #[t0, t1] w (Pk R) fun t11 w =>
  Ex t11 0 w fun t12 w =>
  Ex t11 1 w fun t13 w =>
  Ex t11 2 w fun t14 w =>
  Al P 50 w fun t5 w =>
  Al P 50 w fun t6 w =>
  Sto P 50 t5 t12 w fun w =>
  Sto P 50 t6 t13 w fun w =>
  Un P .not t14 w fun t17 w =>
  If t17
  (R (.returned (.int .i64 0)) w)
  (Fa P 50 t5 0 w fun t19 w =>
  Ld P 4 t19 w fun t20 w =>
  Gd t20 true (fun k => Fa P 50 t6 0 w k) w fun t22 w =>
  Gd t20 true (fun k => Ld P 4 t22 w k) w fun t23 w =>
  Pick t20 t23 (.bool false) w fun t24 w =>
  If t24
  (Fa P 50 t6 1 w fun t25 w =>
  Ld P 48 t25 w fun t26 w =>
  Fa P 50 t5 1 w fun t27 w =>
  Ld P 48 t27 w fun t28 w =>
  Cl P 46 #[t26, t28] w (Pk R) fun t29 w =>
  R (.returned t29) w)
  (Fa P 50 t5 0 w fun t31 w =>
  Ld P 4 t31 w fun t32 w =>
  If t32
  (R (.returned (.int .i64 (-1))) w)
  (Fa P 50 t6 0 w fun t34 w =>
  Ld P 4 t34 w fun t35 w =>
  If t35
  (R (.returned (.int .i64 1)) w)
  (Fa P 50 t5 1 w fun t36 w =>
  Ld P 48 t36 w fun t37 w =>
  Fa P 50 t6 1 w fun t38 w =>
  Ld P 48 t38 w fun t39 w =>
  Cl P 46 #[t37, t39] w (Pk R) fun t40 w =>
  R (.returned t40) w))))
theorem e_integer_Compare {t0 t1 : Value} {w : World} {R : Ending → World → Prop} (h : s_integer_Compare Tryz.prog t0 t1 w R) : Calls Tryz.prog 18 #[t0, t1] w R :=
  enter (h := (.sq .z (.sq .z (.sq (.bk (.sq .z (.cd (.sq .z .z) (.sq .z (.cd (.sq .z .z) (.sq .z (.cd (.sq .z .z) (.sq .z (.cd (.sq .z .z) .z))))))))) (.sq .z .z))))) (args := [t0, t1]) Tryz.func18 (by kernel_rfl) (by kernel_rfl) (by kernel_rfl) (Eq.mp (by kernel_rfl) h)
theorem n_integer_Compare : Enters Tryz.prog 18 := enters_of Tryz.func18 (by kernel_rfl) rfl
def s_integer_Valid (P : Program) (t0 : Value) (w : World) (R : Ending → World → Prop) : Prop :=
  Cl P 47 #[t0] w (Pk R) fun t4 w =>
  R (.returned t4) w
theorem e_integer_Valid {t0 : Value} {w : World} {R : Ending → World → Prop} (h : s_integer_Valid Tryz.prog t0 w R) : Calls Tryz.prog 19 #[t0] w R :=
  enter (h := (.sq .z (.sq .z .z))) (args := [t0]) Tryz.func19 (by kernel_rfl) (by kernel_rfl) (by kernel_rfl) (Eq.mp (by kernel_rfl) h)
theorem n_integer_Valid : Enters Tryz.prog 19 := enters_of Tryz.func19 (by kernel_rfl) rfl
def s_integer_Gcd (P : Program) (t0 t1 : Value) (w : World) (R : Ending → World → Prop) : Prop :=
  Cl P 38 #[t0, t1] w (Pk R) fun t16 w =>
  Ex t16 0 w fun t17 w =>
  Ex t16 1 w fun t18 w =>
  Ex t16 2 w fun t19 w =>
  Al P 50 w fun t6 w =>
  Al P 50 w fun t7 w =>
  Sto P 50 t6 t17 w fun w =>
  Sto P 50 t7 t18 w fun w =>
  Un P .not t19 w fun t21 w =>
  If t21
  (R (.returned (.tuple #[(str []), (.int .i64 30)])) w)
  (Dv P true (Instr.fieldAt 50 t6 1) w.drew fun t22 =>
  Dv P false (Instr.loadAt 48 t22) w.drew fun t23 =>
  Dv P true (Instr.fieldAt 50 t7 1) w.drew fun t24 =>
  Dv P false (Instr.loadAt 48 t24) w.drew fun t25 =>
  Lp2 t23 t25 w.drew (fun t9 t10 w k1 =>
  Bt P .len #[48] 3 #[t10] w fun t27 w =>
  Bn P .gtr 3 true t27 (.int .i64 0) w fun t28 w =>
  If t28
  (Cl P 42 #[t9, t10] w (Pk R) fun t32 w =>
  Ex t32 0 w fun t33 w =>
  Ex t32 1 w fun t34 w =>
  k1 t10 t34 w)
  (Bd P 50 [(1, t9)] w fun t38 w =>
  Cl P 40 #[t38] w (Pk R) fun t39 w =>
  Ex t39 0 w fun t40 w =>
  Ex t39 1 w fun t41 w =>
  R (.returned (.tuple #[t40, t41])) w)))
theorem e_integer_Gcd {t0 t1 : Value} {w : World} {R : Ending → World → Prop} (h : s_integer_Gcd Tryz.prog t0 t1 w R) : Calls Tryz.prog 20 #[t0, t1] w R :=
  enter (h := (.sq .z (.sq .z (.sq (.sq .z (.cd (.sq .z .z) .z)) (.sq (.dr (.pur true 0 (.pur false 1 (.pur true 2 (.pur false 3 (.pur true 4 (.pur true 5 .done))))))) (.sq (.bk (.lp [9, 10] [11, 12, 26, 27, 28, 29, 30, 31, 32, 33, 34, 35, 36] (.sq (.sq .z (.cd .z .z)) (.bk (.sq .z .z))))) (.sq .z .z))))))) (args := [t0, t1]) Tryz.func20 (by kernel_rfl) (by kernel_rfl) (by kernel_rfl) (Eq.mp (by kernel_rfl) h)
theorem n_integer_Gcd : Enters Tryz.prog 20 := enters_of Tryz.func20 (by kernel_rfl) rfl
def s_integer_Root (P : Program) (t0 : Value) (w : World) (R : Ending → World → Prop) : Prop :=
  Cl P 38 #[t0, (str [48])] w (Pk R) fun t14 w =>
  Ex t14 0 w fun t15 w =>
  Ex t14 1 w fun t16 w =>
  Ex t14 2 w fun t17 w =>
  Al P 50 w fun t4 w =>
  Al P 50 w fun t5 w =>
  Sto P 50 t4 t15 w fun w =>
  Sto P 50 t5 t16 w fun w =>
  Un P .not t17 w fun t19 w =>
  Gd t19 false (fun k => Fa P 50 t4 0 w k) w fun t21 w =>
  Gd t19 false (fun k => Ld P 4 t21 w k) w fun t22 w =>
  Pick t19 (.bool true) t22 w fun t23 w =>
  If t23
  (R (.returned (.tuple #[(str []), (.int .i64 30)])) w)
  (Fa P 50 t4 1 w fun t24 w =>
  Ld P 48 t24 w fun t25 w =>
  Bt P .len #[48] 3 #[t25] w fun t26 w =>
  Bn P .add 3 true t26 (.int .i64 1) w fun t27 w =>
  Bn P .quo 3 true t27 (.int .i64 2) w fun t28 w =>
  Ms P 48 t28 t28 w fun t29 w =>
  Bs P 48 1 [(0, (.int .i64 1))] w fun t30 w =>
  Bt P .append #[48, 48] 48 #[t29, t30] w fun t31 w =>
  Lp1 t31 w (fun t7 w k1 =>
  Fa P 50 t4 1 w fun t32 w =>
  Ld P 48 t32 w fun t33 w =>
  Bt P .len #[48] 3 #[t33] w fun t34 w =>
  Bn P .gtr 3 true t34 (.int .i64 0) w fun t35 w =>
  If t35
  (Fa P 50 t4 1 w fun t37 w =>
  Ld P 48 t37 w fun t38 w =>
  Cl P 42 #[t38, t7] w (Pk R) fun t40 w =>
  Ex t40 0 w fun t41 w =>
  Ex t40 1 w fun t42 w =>
  Cl P 43 #[t7, t41] w (Pk R) fun t46 w =>
  Bs P 48 1 [(0, (.int .i64 2))] w fun t47 w =>
  Cl P 42 #[t46, t47] w (Pk R) fun t48 w =>
  Ex t48 0 w fun t49 w =>
  Ex t48 1 w fun t50 w =>
  Cl P 46 #[t49, t7] w (Pk R) fun t53 w =>
  Bn P .geq 3 true t53 (.int .i64 0) w fun t54 w =>
  If t54
  (Bd P 50 [(1, t7)] w fun t56 w =>
  Cl P 40 #[t56] w (Pk R) fun t57 w =>
  Ex t57 0 w fun t58 w =>
  Ex t57 1 w fun t59 w =>
  R (.returned (.tuple #[t58, t59])) w)
  (k1 t49 w))
  (R (.returned (.tuple #[(str [48]), (.int .i64 0)])) w)))
theorem e_integer_Root {t0 : Value} {w : World} {R : Ending → World → Prop} (h : s_integer_Root Tryz.prog t0 w R) : Calls Tryz.prog 21 #[t0] w R :=
  enter (h := (.sq .z (.sq .z (.sq (.sq .z (.cd (.sq .z .z) .z)) (.sq .z (.sq (.bk (.lp [7] [2, 3, 8, 9, 10, 11, 32, 33, 34, 35, 36, 37, 38, 39, 40, 41, 42, 43, 44, 45, 46, 47, 48, 49, 50, 51, 52, 53, 54, 55, 56, 57, 58, 59, 60] (.sq (.sq .z (.cd .z .z)) (.bk (.sq .z (.sq .z (.sq (.sq .z (.cd (.sq .z .z) .z)) .z))))))) (.sq .z .z))))))) (args := [t0]) Tryz.func21 (by kernel_rfl) (by kernel_rfl) (by kernel_rfl) (Eq.mp (by kernel_rfl) h)
theorem n_integer_Root : Enters Tryz.prog 21 := enters_of Tryz.func21 (by kernel_rfl) rfl
def s_integer_FromInt (P : Program) (t0 : Value) (w : World) (R : Ending → World → Prop) : Prop :=
  Cl P 58 #[t0] w (Pk R) fun t4 w =>
  R (.returned t4) w
theorem e_integer_FromInt {t0 : Value} {w : World} {R : Ending → World → Prop} (h : s_integer_FromInt Tryz.prog t0 w R) : Calls Tryz.prog 35 #[t0] w R :=
  enter (h := (.sq .z (.sq .z .z))) (args := [t0]) Tryz.func35 (by kernel_rfl) (by kernel_rfl) (by kernel_rfl) (Eq.mp (by kernel_rfl) h)
theorem n_integer_FromInt : Enters Tryz.prog 35 := enters_of Tryz.func35 (by kernel_rfl) rfl
def s_ref03_text (P : Program) (t0 t1 : Value) (w : World) (R : Ending → World → Prop) : Prop :=
  Bt P .len #[44] 3 #[t1] w fun t9 w =>
  Bn P .eql 3 true t9 (.int .i64 0) w fun t10 w =>
  If t10
  (R (.returned (.tuple #[(str [48]), (.bool true)])) w)
  (Jn1 (fun k1 =>
  If t0
  (Bs P 72 1 [(0, (.int .u8 45))] w fun t13 w =>
  Bt P .append #[72, 72] 72 #[(.slice none 0 0), t13] w fun t14 w =>
  k1 t14 w)
  (k1 (.slice none 0 0) w))
  (fun t6 w =>
  Bt P .len #[44] 3 #[t1] w fun t16 w =>
  Bn P .sub 3 true t16 (.int .i64 1) w fun t17 w =>
  Lp2 t6 t17 w (fun t6x1 t7 w k2 =>
  Bn P .geq 3 true t7 (.int .i64 0) w fun t19 w =>
  If t19
  (Ia P 44 t1 t7 w fun t25 w =>
  Ld P 3 t25 w fun t26 w =>
  Bn P .add 3 true (.int .i64 48) t26 w fun t27 w =>
  Cv P 3 5 t27 w fun t28 w =>
  Bs P 72 1 [(0, t28)] w fun t29 w =>
  Bt P .append #[72, 72] 72 #[t6x1, t29] w fun t30 w =>
  Bn P .sub 3 true t7 (.int .i64 1) w fun t21 w =>
  k2 t30 t21 w)
  (Cv P 72 9 t6x1 w fun t32 w =>
  Bt P .len #[44] 3 #[t1] w fun t34 w =>
  Bn P .leq 3 true t34 (.int .i64 200) w fun t35 w =>
  R (.returned (.tuple #[t32, t35])) w))))
theorem e_ref03_text {t0 t1 : Value} {w : World} {R : Ending → World → Prop} (h : s_ref03_text Tryz.prog t0 t1 w R) : Calls Tryz.prog 36 #[t0, t1] w R :=
  enter (h := (.sq .z (.sq (.sq .z (.cd (.sq .z .z) .z)) (.sq .z (.jn [6] [11, 12, 13, 14] (.sq .z (.cd .z .z)) (.sq (.sq .z (.bk (.lp [6, 7] [18, 19, 20, 21, 22, 23, 24, 25, 26, 27, 28, 29, 30] (.sq (.sq .z (.cd .z .z)) (.sq (.bk .z) .z))))) (.sq .z .z))))))) (args := [t0, t1]) Tryz.func36 (by kernel_rfl) (by kernel_rfl) (by kernel_rfl) (Eq.mp (by kernel_rfl) h)
theorem n_ref03_text : Enters Tryz.prog 36 := enters_of Tryz.func36 (by kernel_rfl) rfl
def s_ref03_trim (P : Program) (t0 : Value) (w : World) (R : Ending → World → Prop) : Prop :=
  Lp1 t0 w (fun t0x1 w k1 =>
  Bt P .len #[44] 3 #[t0x1] w fun t4 w =>
  Bn P .gtr 3 true t4 (.int .i64 0) w fun t5 w =>
  Gd t5 true (fun k => k t0x1 w) w fun t7 w =>
  Gd t5 true (fun k => k t0x1 w) w fun t8 w =>
  Gd t5 true (fun k => Bt P .len #[44] 3 #[t8] w k) w fun t9 w =>
  Gd t5 true (fun k => Bn P .sub 3 true t9 (.int .i64 1) w k) w fun t10 w =>
  Gd t5 true (fun k => Ia P 44 t7 t10 w k) w fun t11 w =>
  Gd t5 true (fun k => Ld P 3 t11 w k) w fun t12 w =>
  Gd t5 true (fun k => Bn P .eql 3 true t12 (.int .i64 0) w k) w fun t13 w =>
  Pick t5 t13 (.bool false) w fun t14 w =>
  If t14
  (Bt P .len #[44] 3 #[t0x1] w fun t17 w =>
  Bn P .sub 3 true t17 (.int .i64 1) w fun t18 w =>
  Sc P 44 t0x1 none (some t18) none w fun t19 w =>
  k1 t19 w)
  (R (.returned t0x1) w))
theorem e_ref03_trim {t0 : Value} {w : World} {R : Ending → World → Prop} (h : s_ref03_trim Tryz.prog t0 w R) : Calls Tryz.prog 37 #[t0] w R :=
  enter (h := (.sq .z (.sq (.bk (.lp [0] [3, 4, 5, 6, 7, 8, 9, 10, 11, 12, 13, 14, 15, 16, 17, 18, 19] (.sq (.sq .z (.cd .z .z)) (.bk .z)))) (.sq .z .z)))) (args := [t0]) Tryz.func37 (by kernel_rfl) (by kernel_rfl) (by kernel_rfl) (Eq.mp (by kernel_rfl) h)
theorem n_ref03_trim : Enters Tryz.prog 37 := enters_of Tryz.func37 (by kernel_rfl) rfl
def s_integer_both (P : Program) (t0 t1 : Value) (w : World) (R : Ending → World → Prop) : Prop :=
  Al P 50 w fun t4 w =>
  Al P 50 w fun t5 w =>
  Cl P 47 #[t0] w (Pk R) fun t8 w =>
  Un P .not t8 w fun t9 w =>
  Gd t9 false (fun k => k t1 w) w fun t11 w =>
  Gd t9 false (fun k => Cl P 47 #[t11] w (Pk R) k) w fun t12 w =>
  Gd t9 false (fun k => Un P .not t12 w k) w fun t13 w =>
  Pick t9 (.bool true) t13 w fun t14 w =>
  If t14
  (Bd P 50 [] w fun t15 w =>
  Bd P 50 [] w fun t16 w =>
  Sto P 50 t4 t15 w fun w =>
  Sto P 50 t5 t16 w fun w =>
  Rc P 50 t4 w fun r0 =>
  Rc P 50 t5 w fun r1 =>
  R (.returned (.tuple #[r0, r1, (.bool false)])) w)
  (Cl P 59 #[t0] w (Pk R) fun t18 w =>
  Cl P 59 #[t1] w (Pk R) fun t20 w =>
  Sto P 50 t4 t18 w fun w =>
  Sto P 50 t5 t20 w fun w =>
  Rc P 50 t4 w fun r0 =>
  Rc P 50 t5 w fun r1 =>
  R (.returned (.tuple #[r0, r1, (.bool true)])) w)
theorem e_integer_both {t0 t1 : Value} {w : World} {R : Ending → World → Prop} (h : s_integer_both Tryz.prog t0 t1 w R) : Calls Tryz.prog 38 #[t0, t1] w R :=
  enter (h := (.sq .z (.sq (.sq .z (.cd (.sq .z .z) .z)) (.sq .z .z)))) (args := [t0, t1]) Tryz.func38 (by kernel_rfl) (by kernel_rfl) (by kernel_rfl) (Eq.mp (by kernel_rfl) h)
theorem n_integer_both : Enters Tryz.prog 38 := enters_of Tryz.func38 (by kernel_rfl) rfl
def s_integer_signed_plus (P : Program) (t0 t1 : Value) (w : World) (R : Ending → World → Prop) : Prop :=
  Bx P 50 t0 w fun t2 w =>
  Bx P 50 t1 w fun t3 w =>
  Al P 50 w fun t4 w =>
  Fa P 50 t2 0 w fun t6 w =>
  Ld P 4 t6 w fun t7 w =>
  Fa P 50 t3 0 w fun t8 w =>
  Ld P 4 t8 w fun t9 w =>
  Bn P .eql 4 false t7 t9 w fun t10 w =>
  If t10
  (Dv P true (Instr.fieldAt 50 t2 0) w.drew fun t11 =>
  Dv P false (Instr.loadAt 4 t11) w.drew fun t12 =>
  Dv P true (Instr.fieldAt 50 t2 1) w.drew fun t13 =>
  Dv P false (Instr.loadAt 48 t13) w.drew fun t14 =>
  Dv P true (Instr.fieldAt 50 t3 1) w.drew fun t15 =>
  Dv P false (Instr.loadAt 48 t15) w.drew fun t16 =>
  Cl P 43 #[t14, t16] w.drew (Pk R) fun t17 w =>
  Ke P (Instr.loadAt 4 t11) t12 w <|
  Dv P true (Instr.build 50 #[(0, t12), (1, t17)]) w fun t18 =>
  Sto P 50 t4 t18 w fun w =>
  Rc P 50 t4 w fun r0 =>
  R (.returned r0) w)
  (Fa P 50 t2 1 w fun t20 w =>
  Ld P 48 t20 w fun t21 w =>
  Fa P 50 t3 1 w fun t22 w =>
  Ld P 48 t22 w fun t23 w =>
  Cl P 46 #[t21, t23] w (Pk R) fun t24 w =>
  Bn P .geq 3 true t24 (.int .i64 0) w fun t25 w =>
  If t25
  (Dv P true (Instr.fieldAt 50 t2 0) w.drew fun t26 =>
  Dv P false (Instr.loadAt 4 t26) w.drew fun t27 =>
  Dv P true (Instr.fieldAt 50 t2 1) w.drew fun t28 =>
  Dv P false (Instr.loadAt 48 t28) w.drew fun t29 =>
  Dv P true (Instr.fieldAt 50 t3 1) w.drew fun t30 =>
  Dv P false (Instr.loadAt 48 t30) w.drew fun t31 =>
  Cl P 45 #[t29, t31] w.drew (Pk R) fun t32 w =>
  Ke P (Instr.loadAt 4 t26) t27 w <|
  Dv P true (Instr.build 50 #[(0, t27), (1, t32)]) w fun t33 =>
  Sto P 50 t4 t33 w fun w =>
  Rc P 50 t4 w fun r0 =>
  R (.returned r0) w)
  (Dv P true (Instr.fieldAt 50 t3 0) w.drew fun t34 =>
  Dv P false (Instr.loadAt 4 t34) w.drew fun t35 =>
  Dv P true (Instr.fieldAt 50 t3 1) w.drew fun t36 =>
  Dv P false (Instr.loadAt 48 t36) w.drew fun t37 =>
  Dv P true (Instr.fieldAt 50 t2 1) w.drew fun t38 =>
  Dv P false (Instr.loadAt 48 t38) w.drew fun t39 =>
  Cl P 45 #[t37, t39] w.drew (Pk R) fun t40 w =>
  Ke P (Instr.loadAt 4 t34) t35 w <|
  Dv P true (Instr.build 50 #[(0, t35), (1, t40)]) w fun t41 =>
  Sto P 50 t4 t41 w fun w =>
  Rc P 50 t4 w fun r0 =>
  R (.returned r0) w))
theorem e_integer_signed_plus {t0 t1 : Value} {w : World} {R : Ending → World → Prop} (h : s_integer_signed_plus Tryz.prog t0 t1 w R) : Calls Tryz.prog 39 #[t0, t1] w R :=
  enter (h := (.sq .z (.sq (.bk (.sq .z (.cd (.sq (.dr (.pur true 0 (.pur false 1 (.pur true 2 (.pur false 3 (.pur true 4 (.pur false 5 (.eff 6 [1] (.pur true 7 (.eff 8 [] .done)))))))))) .z) (.sq .z (.cd (.sq (.dr (.pur true 0 (.pur false 1 (.pur true 2 (.pur false 3 (.pur true 4 (.pur false 5 (.eff 6 [1] (.pur true 7 (.eff 8 [] .done)))))))))) .z) .z))))) (.sq (.dr (.pur true 0 (.pur false 1 (.pur true 2 (.pur false 3 (.pur true 4 (.pur false 5 (.eff 6 [1] (.pur true 7 (.eff 8 [] .done)))))))))) .z)))) (args := [t0, t1]) Tryz.func39 (by kernel_rfl) (by kernel_rfl) (by kernel_rfl) (Eq.mp (by kernel_rfl) h)
theorem n_integer_signed_plus : Enters Tryz.prog 39 := enters_of Tryz.func39 (by kernel_rfl) rfl
def s_integer_signed_text (P : Program) (t0 : Value) (w : World) (R : Ending → World → Prop) : Prop :=
  Bx P 50 t0 w fun t1 w =>
  Fa P 50 t1 1 w fun t9 w =>
  Ld P 48 t9 w fun t10 w =>
  Bt P .len #[48] 3 #[t10] w fun t11 w =>
  Bn P .eql 3 true t11 (.int .i64 0) w fun t12 w =>
  If t12
  (R (.returned (.tuple #[(str [48]), (.int .i64 0)])) w)
  (Al P 76 w fun t4 w =>
  Fa P 50 t1 1 w fun t13 w =>
  Ld P 48 t13 w fun t14 w =>
  Cl P 60 #[t14] w (Pk R) fun t15 w =>
  Rf2 P t15 w (fun t16 t17 w next lv =>
  Cl P 58 #[t17] w (fun _ _ => False) fun t19 w =>
  Fa P 50 t1 1 w fun t21 w =>
  Ld P 48 t21 w fun t22 w =>
  Bt P .len #[48] 3 #[t22] w fun t23 w =>
  Bn P .sub 3 true t23 (.int .i64 1) w fun t24 w =>
  Bn P .lss 3 false t16 t24 w fun t25 w =>
  If t25
  (Bt P .len #[9] 3 #[t19] w fun t27 w =>
  Bn P .sub 3 true (.int .i64 4) t27 w fun t28 w =>
  Cl P 61 #[(str [48]), t28] w (fun _ _ => False) fun t29 w =>
  Bn P .add 9 false t29 t19 w fun t31 w =>
  Cl P 62 #[t4, t31] w (fun _ _ => False) fun t33 w =>
  next w)
  (Cl P 62 #[t4, t19] w (fun _ _ => False) fun t33x1 w =>
  next w))
  (fun D1 w =>
  Cl P 63 #[t4] w (fun c w => Tk P D1 w fun w => R (.panicked c) w) fun t34 w =>
  Bt P .len #[9] 3 #[t34] w fun t36 w =>
  Bn P .gtr 3 true t36 (.int .i64 200) w fun t37 w =>
  If t37
  (Tk P D1 w fun w =>
  R (.returned (.tuple #[(str []), (.int .i64 30)])) w)
  (Fa P 50 t1 0 w fun t38 w =>
  Ld P 4 t38 w fun t39 w =>
  If t39
  (Bn P .add 9 true (str [45]) t34 w fun t41 w =>
  Tk P D1 w fun w =>
  R (.returned (.tuple #[t41, (.int .i64 0)])) w)
  (Tk P D1 w fun w =>
  R (.returned (.tuple #[t34, (.int .i64 0)])) w)))
  (fun D1 w =>
  Tk P D1 w fun w =>
  R (.returned (.tuple #[(str []), (.int .i64 0)])) w) [])
theorem e_integer_signed_text {t0 : Value} {w : World} {R : Ending → World → Prop} (h : s_integer_signed_text Tryz.prog t0 w R) : Calls Tryz.prog 40 #[t0] w R :=
  enter (h := (.sq .z (.sq (.sq .z (.cd (.sq .z .z) .z)) (.sq .z (.sq (.sq .z (.bk (.rf (.bk (.sq .z (.sq (.sq .z (.cd .z .z)) .z))) []))) (.sq .z (.sq (.sq .z (.cd (.sq .z .z) .z)) (.sq (.sq .z (.cd (.sq .z .z) .z)) (.sq .z .z))))))))) (args := [t0]) Tryz.func40 (by kernel_rfl) (by kernel_rfl) (by kernel_rfl) (Eq.mp (by kernel_rfl) h)
theorem n_integer_signed_text : Enters Tryz.prog 40 := enters_of Tryz.func40 (by kernel_rfl) rfl
def s_integer_number_times (P : Program) (t0 t1 : Value) (w : World) (R : Ending → World → Prop) : Prop :=
  Bx P 48 t0 w fun t2 w =>
  Al P 48 w fun t5 w =>
  Cl P 60 #[t1] w (Pk R) fun t9 w =>
  Rf2 P t9 w (fun t10 t11 w next lv =>
  Jn0 (fun k1 =>
  Ld P 48 t5 w fun t12 w =>
  Bt P .len #[48] 3 #[t12] w fun t13 w =>
  Bn P .gtr 3 true t13 (.int .i64 0) w fun t14 w =>
  If t14
  (Bs P 48 1 [(0, (.int .i64 0))] w fun t15 w =>
  Ld P 48 t5 w fun t16 w =>
  Bt P .append #[48, 48] 48 #[t15, t16] w fun t17 w =>
  Sto P 48 t5 t17 w fun w =>
  k1 w)
  (k1 w))
  (fun w =>
  Dv P false (Instr.loadAt 48 t5) w.drew fun t18 =>
  Dv P false (Instr.loadAt 48 t2) w.drew fun t19 =>
  Cl P 64 #[t19, t11] w.drew (fun _ _ => False) fun t21 w =>
  Ke P (Instr.loadAt 48 t5) t18 w <|
  Cl P 43 #[t18, t21] w (fun _ _ => False) fun t22 w =>
  Sto P 48 t5 t22 w fun w =>
  next w))
  (fun D1 w =>
  Ld P 48 t5 w fun t23 w =>
  Tk P D1 w fun w =>
  R (.returned t23) w)
  (fun D1 w =>
  Tk P D1 w fun w =>
  R (.returned (.slice none 0 0)) w) []
theorem e_integer_number_times {t0 t1 : Value} {w : World} {R : Ending → World → Prop} (h : s_integer_number_times Tryz.prog t0 t1 w R) : Calls Tryz.prog 41 #[t0, t1] w R :=
  enter (h := (.sq .z (.sq .z (.sq (.sq .z (.bk (.rf (.bk (.jn [] [12, 13, 14, 15, 16, 17] (.sq .z (.cd .z .z)) (.dr (.pur false 0 (.pur false 1 (.pur true 2 (.eff 3 [0] (.eff 4 [] (.eff 5 [] .done))))))))) []))) (.sq .z .z))))) (args := [t0, t1]) Tryz.func41 (by kernel_rfl) (by kernel_rfl) (by kernel_rfl) (Eq.mp (by kernel_rfl) h)
theorem n_integer_number_times : Enters Tryz.prog 41 := enters_of Tryz.func41 (by kernel_rfl) rfl
def s_integer_number_over (P : Program) (t0 t1 : Value) (w : World) (R : Ending → World → Prop) : Prop :=
  Bx P 48 t1 w fun t3 w =>
  Al P 48 w fun t4 w =>
  Al P 48 w fun t5 w =>
  Bt P .len #[48] 3 #[t0] w fun t11 w =>
  Ms P 48 t11 t11 w fun t12 w =>
  Sto P 48 t4 t12 w fun w =>
  Cl P 60 #[t0] w (Pk R) fun t14 w =>
  Rf2 P t14 w (fun t15 t16 w next lv =>
  Bs P 48 1 [(0, t16)] w fun t18 w =>
  Ld P 48 t5 w fun t19 w =>
  Bt P .append #[48, 48] 48 #[t18, t19] w fun t20 w =>
  Cl P 65 #[t20] w (fun _ _ => False) fun t21 w =>
  Sto P 48 t5 t21 w fun w =>
  Ld P 48 t3 w fun t22 w =>
  Al P 81 w fun t8 w =>
  Sto P 81 t8 (.func (.func 64) #[t22] #[]) w fun w =>
  Dv P false (Instr.loadAt 48 t4) w.drew fun t25 =>
  Cl P 67 #[(.int .i64 9999), (.func (.func 66) #[] #[t8, t5])] w.drew (fun _ _ => False) fun t28 w =>
  Ke P (Instr.loadAt 48 t4) t25 w <|
  Dv P true (Instr.indexAt 48 t25 t15) w fun t29 =>
  Sto P 3 t29 t28 w fun w =>
  Dv P false (Instr.loadAt 48 t5) w.drew fun t30 =>
  Dv P false (Instr.loadAt 81 t8) w.drew fun t31 =>
  Dv P false (Instr.loadAt 48 t4) w.drew fun t32 =>
  Dv P true (Instr.indexAt 48 t32 t15) w.drew fun t34 =>
  Dv P false (Instr.loadAt 3 t34) w.drew fun t35 =>
  Cw P t31 #[t35] w.drew (fun _ _ => False) fun t36 w =>
  Ke P (Instr.loadAt 48 t5) t30 w <|
  Cl P 45 #[t30, t36] w (fun _ _ => False) fun t37 w =>
  Sto P 48 t5 t37 w fun w =>
  next w)
  (fun D1 w =>
  Dv P false (Instr.loadAt 48 t4) w.drew fun t38 =>
  Dv P false (Instr.loadAt 48 t5) w.drew fun t40 =>
  Cl P 65 #[t38] w.drew (fun c w => Tk P D1 w fun w => R (.panicked c) w) fun t39 w =>
  Ke P (Instr.loadAt 48 t5) t40 w <|
  Sto P 48 t4 t39 w fun w =>
  Ke P (Instr.loadAt 48 t5) t40 w <|
  Sto P 48 t5 t40 w fun w =>
  Tk P D1 w fun w =>
  Rc P 48 t4 w fun r0 =>
  Rc P 48 t5 w fun r1 =>
  R (.returned (.tuple #[r0, r1])) w)
  (fun D1 w =>
  Tk P D1 w fun w =>
  Rc P 48 t4 w fun r0 =>
  Rc P 48 t5 w fun r1 =>
  R (.returned (.tuple #[r0, r1])) w) []
theorem e_integer_number_over {t0 t1 : Value} {w : World} {R : Ending → World → Prop} (h : s_integer_number_over Tryz.prog t0 t1 w R) : Calls Tryz.prog 42 #[t0, t1] w R :=
  enter (h := (.sq .z (.sq .z (.sq (.sq .z (.bk (.rf (.bk (.sq .z (.sq .z (.sq .z (.sq (.dr (.pur false 0 (.pur true 1 (.pur true 2 (.eff 3 [0] (.pur true 4 (.eff 5 [] .done))))))) (.dr (.pur false 0 (.pur false 1 (.pur false 2 (.pur true 3 (.pur true 4 (.pur false 5 (.eff 6 [0] (.eff 7 [] (.eff 8 [] .done))))))))))))))) []))) (.sq (.dr (.pur false 0 (.pur false 2 (.eff 1 [2] (.eff 3 [2] (.eff 4 [] .done)))))) .z))))) (args := [t0, t1]) Tryz.func42 (by kernel_rfl) (by kernel_rfl) (by kernel_rfl) (Eq.mp (by kernel_rfl) h)
theorem n_integer_number_over : Enters Tryz.prog 42 := enters_of Tryz.func42 (by kernel_rfl) rfl
def s_integer_number_plus (P : Program) (t0 t1 : Value) (w : World) (R : Ending → World → Prop) : Prop :=
  Bx P 48 t0 w fun t2 w =>
  Bx P 48 t1 w fun t3 w =>
  Ld P 48 t2 w fun t5 w =>
  Bt P .len #[48] 3 #[t5] w fun t6 w =>
  Ld P 48 t3 w fun t7 w =>
  Bt P .len #[48] 3 #[t7] w fun t8 w =>
  Bt P .max #[3, 3] 3 #[t6, t8] w fun t9 w =>
  Cl P 68 #[t9, (.int .i64 0), (.func (.func 69) #[] #[t2, t3])] w (Pk R) fun t11 w =>
  Cl P 65 #[t11] w (Pk R) fun t12 w =>
  R (.returned t12) w
theorem e_integer_number_plus {t0 t1 : Value} {w : World} {R : Ending → World → Prop} (h : s_integer_number_plus Tryz.prog t0 t1 w R) : Calls Tryz.prog 43 #[t0, t1] w R :=
  enter (h := (.sq .z (.sq .z .z))) (args := [t0, t1]) Tryz.func43 (by kernel_rfl) (by kernel_rfl) (by kernel_rfl) (Eq.mp (by kernel_rfl) h)
theorem n_integer_number_plus : Enters Tryz.prog 43 := enters_of Tryz.func43 (by kernel_rfl) rfl
def s_integer_one (P : Program) (w : World) (R : Ending → World → Prop) : Prop :=
  Bs P 48 1 [(0, (.int .i64 1))] w fun t1 w =>
  R (.returned t1) w
theorem e_integer_one {w : World} {R : Ending → World → Prop} (h : s_integer_one Tryz.prog  w R) : Calls Tryz.prog 44 #[] w R :=
  enter (h := (.sq .z (.sq .z .z))) (args := []) Tryz.func44 (by kernel_rfl) (by kernel_rfl) (by kernel_rfl) (Eq.mp (by kernel_rfl) h)
theorem n_integer_one : Enters Tryz.prog 44 := enters_of Tryz.func44 (by kernel_rfl) rfl
def s_integer_number_minus (P : Program) (t0 t1 : Value) (w : World) (R : Ending → World → Prop) : Prop :=
  Bx P 48 t0 w fun t2 w =>
  Bx P 48 t1 w fun t3 w =>
  Ld P 48 t2 w fun t5 w =>
  Bt P .len #[48] 3 #[t5] w fun t6 w =>
  Cl P 68 #[t6, (.int .i64 0), (.func (.func 71) #[] #[t2, t3])] w (Pk R) fun t8 w =>
  Cl P 65 #[t8] w (Pk R) fun t9 w =>
  R (.returned t9) w
theorem e_integer_number_minus {t0 t1 : Value} {w : World} {R : Ending → World → Prop} (h : s_integer_number_minus Tryz.prog t0 t1 w R) : Calls Tryz.prog 45 #[t0, t1] w R :=
  enter (h := (.sq .z (.sq .z .z))) (args := [t0, t1]) Tryz.func45 (by kernel_rfl) (by kernel_rfl) (by kernel_rfl) (Eq.mp (by kernel_rfl) h)
theorem n_integer_number_minus : Enters Tryz.prog 45 := enters_of Tryz.func45 (by kernel_rfl) rfl
def s_integer_number_compare (P : Program) (t0 t1 : Value) (w : World) (R : Ending → World → Prop) : Prop :=
  Bx P 48 t1 w fun t3 w =>
  Al P 3 w fun t4 w =>
  Bt P .len #[48] 3 #[t0] w fun t8 w =>
  Ld P 48 t3 w fun t9 w =>
  Bt P .len #[48] 3 #[t9] w fun t10 w =>
  Bn P .neq 3 false t8 t10 w fun t11 w =>
  If t11
  (Bt P .len #[48] 3 #[t0] w fun t13 w =>
  Ld P 48 t3 w fun t14 w =>
  Bt P .len #[48] 3 #[t14] w fun t15 w =>
  Cl P 72 #[t13, t15] w (Pk R) fun t16 w =>
  Sto P 3 t4 t16 w fun w =>
  Rc P 3 t4 w fun r0 =>
  R (.returned r0) w)
  (Cl P 60 #[t0] w (Pk R) fun t18 w =>
  Rf2 P t18 w (fun t19 t20 w next lv =>
  Ld P 48 t3 w fun t22 w =>
  Ia P 48 t22 t19 w fun t24 w =>
  Ld P 3 t24 w fun t25 w =>
  Bn P .neq 3 false t20 t25 w fun t26 w =>
  If t26
  (Ld P 48 t3 w fun t28 w =>
  Ia P 48 t28 t19 w fun t30 w =>
  Ld P 3 t30 w fun t31 w =>
  Cl P 72 #[t20, t31] w (fun _ _ => False) fun t32 w =>
  Sto P 3 t4 t32 w fun w =>
  lv .ret w)
  (next w))
  (fun D1 w =>
  Sto P 3 t4 (.int .i64 0) w fun w =>
  Tk P D1 w fun w =>
  Rc P 3 t4 w fun r0 =>
  R (.returned r0) w)
  (fun D1 w =>
  Tk P D1 w fun w =>
  Rc P 3 t4 w fun r0 =>
  R (.returned r0) w) [])
theorem e_integer_number_compare {t0 t1 : Value} {w : World} {R : Ending → World → Prop} (h : s_integer_number_compare Tryz.prog t0 t1 w R) : Calls Tryz.prog 46 #[t0, t1] w R :=
  enter (h := (.sq .z (.sq (.sq .z (.cd (.sq .z .z) .z)) (.sq (.sq .z (.bk (.rf (.bk (.sq .z (.cd (.sq .z .z) .z))) []))) (.sq .z .z))))) (args := [t0, t1]) Tryz.func46 (by kernel_rfl) (by kernel_rfl) (by kernel_rfl) (Eq.mp (by kernel_rfl) h)
theorem n_integer_number_compare : Enters Tryz.prog 46 := enters_of Tryz.func46 (by kernel_rfl) rfl
def s_integer_isValid (P : Program) (t0 : Value) (w : World) (R : Ending → World → Prop) : Prop :=
  Cl P 73 #[t0, (str [45])] w (Pk R) fun t5 w =>
  Bn P .eql 9 true t5 (str []) w fun t7 w =>
  Gd t7 false (fun k => k t5 w) w fun t9 w =>
  Gd t7 false (fun k => Bt P .len #[9] 3 #[t9] w k) w fun t10 w =>
  Gd t7 false (fun k => Bn P .gtr 3 true t10 (.int .i64 200) w k) w fun t11 w =>
  Pick t7 (.bool true) t11 w fun t12 w =>
  Gd t12 false (fun k => k t5 w) w fun t14 w =>
  Gd t12 false (fun k => Cl P 74 #[t14, (str [48, 49, 50, 51, 52, 53, 54, 55, 56, 57])] w (Pk R) k) w fun t15 w =>
  Gd t12 false (fun k => Bn P .neq 9 true t15 (str []) w k) w fun t16 w =>
  Pick t12 (.bool true) t16 w fun t17 w =>
  If t17
  (R (.returned (.bool false)) w)
  (Bn P .eql 9 true t0 (str [48]) w fun t19 w =>
  Gd t19 false (fun k => k t5 w) w fun t21 w =>
  Gd t19 false (fun k => Ix P 9 t21 (.int .i64 0) w k) w fun t22 w =>
  Gd t19 false (fun k => Bn P .neq 5 true t22 (.int .u8 48) w k) w fun t23 w =>
  Pick t19 (.bool true) t23 w fun t24 w =>
  R (.returned t24) w)
theorem e_integer_isValid {t0 : Value} {w : World} {R : Ending → World → Prop} (h : s_integer_isValid Tryz.prog t0 w R) : Calls Tryz.prog 47 #[t0] w R :=
  enter (h := (.sq .z (.sq .z (.sq (.sq .z (.cd (.sq .z .z) .z)) (.sq .z .z))))) (args := [t0]) Tryz.func47 (by kernel_rfl) (by kernel_rfl) (by kernel_rfl) (Eq.mp (by kernel_rfl) h)
theorem n_integer_isValid : Enters Tryz.prog 47 := enters_of Tryz.func47 (by kernel_rfl) rfl
def s_strconv_Atoi (P : Program) (t0 : Value) (w : World) (R : Ending → World → Prop) : Prop :=
  Cl P 75 #[t0] w (Pk R) fun t8 w =>
  Ex t8 0 w fun t9 w =>
  Ex t8 1 w fun t10 w =>
  Bn P .neq 69 true t10 .nilIface w fun t12 w =>
  If t12
  (Cl P 76 #[(str [65, 116, 111, 105]), t0, (.int .i64 0), (.int .i64 0), t10] w (Pk R) fun t16 w =>
  R (.returned (.tuple #[t9, t16])) w)
  (R (.returned (.tuple #[t9, .nilIface])) w)
theorem e_strconv_Atoi {t0 : Value} {w : World} {R : Ending → World → Prop} (h : s_strconv_Atoi Tryz.prog t0 w R) : Calls Tryz.prog 57 #[t0] w R :=
  enter (h := (.sq .z (.sq .z (.sq (.sq .z (.cd (.sq .z .z) .z)) (.sq .z .z))))) (args := [t0]) Tryz.func57 (by kernel_rfl) (by kernel_rfl) (by kernel_rfl) (Eq.mp (by kernel_rfl) h)
theorem n_strconv_Atoi : Enters Tryz.prog 57 := enters_of Tryz.func57 (by kernel_rfl) rfl
def s_strconv_Itoa (P : Program) (t0 : Value) (w : World) (R : Ending → World → Prop) : Prop :=
  Cl P 77 #[t0] w (Pk R) fun t4 w =>
  R (.returned t4) w
theorem e_strconv_Itoa {t0 : Value} {w : World} {R : Ending → World → Prop} (h : s_strconv_Itoa Tryz.prog t0 w R) : Calls Tryz.prog 58 #[t0] w R :=
  enter (h := (.sq .z (.sq .z .z))) (args := [t0]) Tryz.func58 (by kernel_rfl) (by kernel_rfl) (by kernel_rfl) (Eq.mp (by kernel_rfl) h)
theorem n_strconv_Itoa : Enters Tryz.prog 58 := enters_of Tryz.func58 (by kernel_rfl) rfl
def s_integer_parse (P : Program) (t0 : Value) (w : World) (R : Ending → World → Prop) : Prop :=
  Al P 50 w fun t2 w =>
  Cl P 73 #[t0, (str [45])] w (Pk R) fun t9 w =>
  Bt P .len #[9] 3 #[t9] w fun t11 w =>
  Bt P .len #[9] 3 #[t0] w fun t13 w =>
  Bn P .lss 3 false t11 t13 w fun t14 w =>
  Bd P 50 [(0, t14)] w fun t15 w =>
  Al P 50 w fun t4 w =>
  Sto P 50 t4 t15 w fun w =>
  Lp1 t9 w (fun t3 w k1 =>
  Bt P .len #[9] 3 #[t3] w fun t17 w =>
  Bn P .gtr 3 true t17 (.int .i64 0) w fun t18 w =>
  If t18
  (Bt P .len #[9] 3 #[t3] w fun t20 w =>
  Bn P .sub 3 true t20 (.int .i64 4) w fun t21 w =>
  Bt P .max #[3, 3] 3 #[(.int .i64 0), t21] w fun t22 w =>
  Sc P 9 t3 (some t22) none none w fun t26 w =>
  Cl P 57 #[t26] w (Pk R) fun t27 w =>
  Ex t27 0 w fun t28 w =>
  Ex t27 1 w fun t29 w =>
  Fa P 50 t4 1 w fun t30 w =>
  Ld P 48 t30 w fun t31 w =>
  Bs P 48 1 [(0, t28)] w fun t33 w =>
  Bt P .append #[48, 48] 48 #[t31, t33] w fun t34 w =>
  Fa P 50 t4 1 w fun t35 w =>
  Sto P 48 t35 t34 w fun w =>
  Sc P 9 t3 none (some t22) none w fun t38 w =>
  k1 t38 w)
  (Fa P 50 t4 1 w fun t39 w =>
  Ld P 48 t39 w fun t40 w =>
  Cl P 65 #[t40] w (Pk R) fun t41 w =>
  Fa P 50 t4 1 w fun t42 w =>
  Sto P 48 t42 t41 w fun w =>
  Ld P 50 t4 w fun t43 w =>
  Sto P 50 t2 t43 w fun w =>
  Rc P 50 t2 w fun r0 =>
  R (.returned r0) w))
theorem e_integer_parse {t0 : Value} {w : World} {R : Ending → World → Prop} (h : s_integer_parse Tryz.prog t0 w R) : Calls Tryz.prog 59 #[t0] w R :=
  enter (h := (.sq .z (.sq .z (.sq .z (.sq (.bk (.lp [3] [5, 6, 7, 16, 17, 18, 19, 20, 21, 22, 23, 24, 25, 26, 27, 28, 29, 30, 31, 32, 33, 34, 35, 36, 37, 38] (.sq (.sq .z (.cd .z .z)) (.bk (.sq .z (.sq .z (.sq .z .z))))))) (.sq .z (.sq .z .z))))))) (args := [t0]) Tryz.func59 (by kernel_rfl) (by kernel_rfl) (by kernel_rfl) (Eq.mp (by kernel_rfl) h)
theorem n_integer_parse : Enters Tryz.prog 59 := enters_of Tryz.func59 (by kernel_rfl) rfl
def s_slices_Backward_integer_number_int (P : Program) (t0 : Value) (w : World) (R : Ending → World → Prop) : Prop :=
  Bx P 48 t0 w fun t1 w =>
  R (.returned (.func (.func 78) #[] #[t1])) w
theorem e_slices_Backward_integer_number_int {t0 : Value} {w : World} {R : Ending → World → Prop} (h : s_slices_Backward_integer_number_int Tryz.prog t0 w R) : Calls Tryz.prog 60 #[t0] w R :=
  enter (h := (.sq .z (.sq .z .z))) (args := [t0]) Tryz.func60 (by kernel_rfl) (by kernel_rfl) (by kernel_rfl) (Eq.mp (by kernel_rfl) h)
theorem n_slices_Backward_integer_number_int : Enters Tryz.prog 60 := enters_of Tryz.func60 (by kernel_rfl) rfl
def s_strings_Repeat (P : Program) (t0 t1 : Value) (w : World) (R : Ending → World → Prop) : Prop :=
  Bn P .eql 3 true t1 (.int .i64 0) w fun t13 w =>
  If t13
  (R (.returned (str [])) w)
  (Bn P .eql 3 true t1 (.int .i64 1) w fun t15 w =>
  If t15
  (R (.returned t0) w)
  (Jn0 (fun k1 =>
  Bn P .lss 3 true t1 (.int .i64 0) w fun t18 w =>
  If t18
  (Mi P 9 (str [115, 116, 114, 105, 110, 103, 115, 58, 32, 110, 101, 103, 97, 116, 105, 118, 101, 32, 82, 101, 112, 101, 97, 116, 32, 99, 111, 117, 110, 116]) w fun t19 w =>
  Pn P t19 w (Pk R) fun _ w =>
  k1 w)
  (k1 w))
  (fun w =>
  Bt P .len #[9] 3 #[t0] w fun t22 w =>
  Cv P 3 89 t22 w fun t23 w =>
  Cv P 3 89 t1 w fun t25 w =>
  Cl P 79 #[t23, t25] w (Pk R) fun t26 w =>
  Ex t26 0 w fun t27 w =>
  Ex t26 1 w fun t28 w =>
  Jn0 (fun k2 =>
  Bn P .gtr 89 true t27 (.int .u64 0) w fun t30 w =>
  Gd t30 false (fun k => k t28 w) w fun t32 w =>
  Gd t30 false (fun k => Bn P .gtr 89 true t32 (.int .u64 9223372036854775807) w k) w fun t33 w =>
  Pick t30 (.bool true) t33 w fun t34 w =>
  If t34
  (Mi P 9 (str [115, 116, 114, 105, 110, 103, 115, 58, 32, 82, 101, 112, 101, 97, 116, 32, 111, 117, 116, 112, 117, 116, 32, 108, 101, 110, 103, 116, 104, 32, 111, 118, 101, 114, 102, 108, 111, 119]) w fun t35 w =>
  Pn P t35 w (Pk R) fun _ w =>
  k2 w)
  (k2 w))
  (fun w =>
  Cv P 89 3 t28 w fun t37 w =>
  Bt P .len #[9] 3 #[t0] w fun t39 w =>
  Bn P .eql 3 true t39 (.int .i64 0) w fun t40 w =>
  If t40
  (R (.returned (str [])) w)
  (Jn0 (fun k3 =>
  Ix P 9 t0 (.int .i64 0) w fun t42 w =>
  Jn1 (fun k4 =>
  Bn P .eql 5 true t42 (.int .u8 32) w fun t44 w =>
  If t44
  (k4 t44 w)
  (Bn P .eql 5 true t42 (.int .u8 45) w fun t45 w =>
  If t45
  (k4 t45 w)
  (Bn P .eql 5 true t42 (.int .u8 48) w fun t46 w =>
  If t46
  (k4 t46 w)
  (Bn P .eql 5 true t42 (.int .u8 61) w fun t47 w =>
  If t47
  (k4 t47 w)
  (Bn P .eql 5 true t42 (.int .u8 9) w fun t48 w =>
  k4 t48 w)))))
  (fun t43 w =>
  If t43
  (Bn P .leq 3 true t37 (.int .i64 128) w fun t51 w =>
  Gd t51 true (fun k => k t0 w) w fun t53 w =>
  Gd t51 true (fun k => Cl P 80 #[(str [32, 32, 32, 32, 32, 32, 32, 32, 32, 32, 32, 32, 32, 32, 32, 32, 32, 32, 32, 32, 32, 32, 32, 32, 32, 32, 32, 32, 32, 32, 32, 32, 32, 32, 32, 32, 32, 32, 32, 32, 32, 32, 32, 32, 32, 32, 32, 32, 32, 32, 32, 32, 32, 32, 32, 32, 32, 32, 32, 32, 32, 32, 32, 32, 32, 32, 32, 32, 32, 32, 32, 32, 32, 32, 32, 32, 32, 32, 32, 32, 32, 32, 32, 32, 32, 32, 32, 32, 32, 32, 32, 32, 32, 32, 32, 32, 32, 32, 32, 32, 32, 32, 32, 32, 32, 32, 32, 32, 32, 32, 32, 32, 32, 32, 32, 32, 32, 32, 32, 32, 32, 32, 32, 32, 32, 32, 32, 32]), t53] w (Pk R) k) w fun t54 w =>
  Pick t51 t54 (.bool false) w fun t55 w =>
  If t55
  (Sc P 9 (str [32, 32, 32, 32, 32, 32, 32, 32, 32, 32, 32, 32, 32, 32, 32, 32, 32, 32, 32, 32, 32, 32, 32, 32, 32, 32, 32, 32, 32, 32, 32, 32, 32, 32, 32, 32, 32, 32, 32, 32, 32, 32, 32, 32, 32, 32, 32, 32, 32, 32, 32, 32, 32, 32, 32, 32, 32, 32, 32, 32, 32, 32, 32, 32, 32, 32, 32, 32, 32, 32, 32, 32, 32, 32, 32, 32, 32, 32, 32, 32, 32, 32, 32, 32, 32, 32, 32, 32, 32, 32, 32, 32, 32, 32, 32, 32, 32, 32, 32, 32, 32, 32, 32, 32, 32, 32, 32, 32, 32, 32, 32, 32, 32, 32, 32, 32, 32, 32, 32, 32, 32, 32, 32, 32, 32, 32, 32, 32]) none (some t37) none w fun t57 w =>
  R (.returned t57) w)
  (Bn P .leq 3 true t37 (.int .i64 128) w fun t60 w =>
  Gd t60 true (fun k => k t0 w) w fun t62 w =>
  Gd t60 true (fun k => Cl P 80 #[(str [45, 45, 45, 45, 45, 45, 45, 45, 45, 45, 45, 45, 45, 45, 45, 45, 45, 45, 45, 45, 45, 45, 45, 45, 45, 45, 45, 45, 45, 45, 45, 45, 45, 45, 45, 45, 45, 45, 45, 45, 45, 45, 45, 45, 45, 45, 45, 45, 45, 45, 45, 45, 45, 45, 45, 45, 45, 45, 45, 45, 45, 45, 45, 45, 45, 45, 45, 45, 45, 45, 45, 45, 45, 45, 45, 45, 45, 45, 45, 45, 45, 45, 45, 45, 45, 45, 45, 45, 45, 45, 45, 45, 45, 45, 45, 45, 45, 45, 45, 45, 45, 45, 45, 45, 45, 45, 45, 45, 45, 45, 45, 45, 45, 45, 45, 45, 45, 45, 45, 45, 45, 45, 45, 45, 45, 45, 45, 45]), t62] w (Pk R) k) w fun t63 w =>
  Pick t60 t63 (.bool false) w fun t64 w =>
  If t64
  (Sc P 9 (str [45, 45, 45, 45, 45, 45, 45, 45, 45, 45, 45, 45, 45, 45, 45, 45, 45, 45, 45, 45, 45, 45, 45, 45, 45, 45, 45, 45, 45, 45, 45, 45, 45, 45, 45, 45, 45, 45, 45, 45, 45, 45, 45, 45, 45, 45, 45, 45, 45, 45, 45, 45, 45, 45, 45, 45, 45, 45, 45, 45, 45, 45, 45, 45, 45, 45, 45, 45, 45, 45, 45, 45, 45, 45, 45, 45, 45, 45, 45, 45, 45, 45, 45, 45, 45, 45, 45, 45, 45, 45, 45, 45, 45, 45, 45, 45, 45, 45, 45, 45, 45, 45, 45, 45, 45, 45, 45, 45, 45, 45, 45, 45, 45, 45, 45, 45, 45, 45, 45, 45, 45, 45, 45, 45, 45, 45, 45, 45]) none (some t37) none w fun t66 w =>
  R (.returned t66) w)
  (Bn P .leq 3 true t37 (.int .i64 64) w fun t69 w =>
  Gd t69 true (fun k => k t0 w) w fun t71 w =>
  Gd t69 true (fun k => Cl P 80 #[(str [48, 48, 48, 48, 48, 48, 48, 48, 48, 48, 48, 48, 48, 48, 48, 48, 48, 48, 48, 48, 48, 48, 48, 48, 48, 48, 48, 48, 48, 48, 48, 48, 48, 48, 48, 48, 48, 48, 48, 48, 48, 48, 48, 48, 48, 48, 48, 48, 48, 48, 48, 48, 48, 48, 48, 48, 48, 48, 48, 48, 48, 48, 48, 48]), t71] w (Pk R) k) w fun t72 w =>
  Pick t69 t72 (.bool false) w fun t73 w =>
  If t73
  (Sc P 9 (str [48, 48, 48, 48, 48, 48, 48, 48, 48, 48, 48, 48, 48, 48, 48, 48, 48, 48, 48, 48, 48, 48, 48, 48, 48, 48, 48, 48, 48, 48, 48, 48, 48, 48, 48, 48, 48, 48, 48, 48, 48, 48, 48, 48, 48, 48, 48, 48, 48, 48, 48, 48, 48, 48, 48, 48, 48, 48, 48, 48, 48, 48, 48, 48]) none (some t37) none w fun t75 w =>
  R (.returned t75) w)
  (Bn P .leq 3 true t37 (.int .i64 128) w fun t78 w =>
  Gd t78 true (fun k => k t0 w) w fun t80 w =>
  Gd t78 true (fun k => Cl P 80 #[(str [61, 61, 61, 61, 61, 61, 61, 61, 61, 61, 61, 61, 61, 61, 61, 61, 61, 61, 61, 61, 61, 61, 61, 61, 61, 61, 61, 61, 61, 61, 61, 61, 61, 61, 61, 61, 61, 61, 61, 61, 61, 61, 61, 61, 61, 61, 61, 61, 61, 61, 61, 61, 61, 61, 61, 61, 61, 61, 61, 61, 61, 61, 61, 61, 61, 61, 61, 61, 61, 61, 61, 61, 61, 61, 61, 61, 61, 61, 61, 61, 61, 61, 61, 61, 61, 61, 61, 61, 61, 61, 61, 61, 61, 61, 61, 61, 61, 61, 61, 61, 61, 61, 61, 61, 61, 61, 61, 61, 61, 61, 61, 61, 61, 61, 61, 61, 61, 61, 61, 61, 61, 61, 61, 61, 61, 61, 61, 61]), t80] w (Pk R) k) w fun t81 w =>
  Pick t78 t81 (.bool false) w fun t82 w =>
  If t82
  (Sc P 9 (str [61, 61, 61, 61, 61, 61, 61, 61, 61, 61, 61, 61, 61, 61, 61, 61, 61, 61, 61, 61, 61, 61, 61, 61, 61, 61, 61, 61, 61, 61, 61, 61, 61, 61, 61, 61, 61, 61, 61, 61, 61, 61, 61, 61, 61, 61, 61, 61, 61, 61, 61, 61, 61, 61, 61, 61, 61, 61, 61, 61, 61, 61, 61, 61, 61, 61, 61, 61, 61, 61, 61, 61, 61, 61, 61, 61, 61, 61, 61, 61, 61, 61, 61, 61, 61, 61, 61, 61, 61, 61, 61, 61, 61, 61, 61, 61, 61, 61, 61, 61, 61, 61, 61, 61, 61, 61, 61, 61, 61, 61, 61, 61, 61, 61, 61, 61, 61, 61, 61, 61, 61, 61, 61, 61, 61, 61, 61, 61]) none (some t37) none w fun t84 w =>
  R (.returned t84) w)
  (Bn P .leq 3 true t37 (.int .i64 64) w fun t87 w =>
  Gd t87 true (fun k => k t0 w) w fun t89 w =>
  Gd t87 true (fun k => Cl P 80 #[(str [9, 9, 9, 9, 9, 9, 9, 9, 9, 9, 9, 9, 9, 9, 9, 9, 9, 9, 9, 9, 9, 9, 9, 9, 9, 9, 9, 9, 9, 9, 9, 9, 9, 9, 9, 9, 9, 9, 9, 9, 9, 9, 9, 9, 9, 9, 9, 9, 9, 9, 9, 9, 9, 9, 9, 9, 9, 9, 9, 9, 9, 9, 9, 9]), t89] w (Pk R) k) w fun t90 w =>
  Pick t87 t90 (.bool false) w fun t91 w =>
  If t91
  (Sc P 9 (str [9, 9, 9, 9, 9, 9, 9, 9, 9, 9, 9, 9, 9, 9, 9, 9, 9, 9, 9, 9, 9, 9, 9, 9, 9, 9, 9, 9, 9, 9, 9, 9, 9, 9, 9, 9, 9, 9, 9, 9, 9, 9, 9, 9, 9, 9, 9, 9, 9, 9, 9, 9, 9, 9, 9, 9, 9, 9, 9, 9, 9, 9, 9, 9]) none (some t37) none w fun t93 w =>
  R (.returned t93) w)
  (k3 w))))))
  (k3 w)))
  (fun w =>
  Jn1 (fun k5 =>
  Bn P .gtr 3 true t37 (.int .i64 8192) w fun t96 w =>
  If t96
  (Bt P .len #[9] 3 #[t0] w fun t98 w =>
  Bn P .quo 3 true (.int .i64 8192) t98 w fun t99 w =>
  Bt P .len #[9] 3 #[t0] w fun t101 w =>
  Bn P .mul 3 false t99 t101 w fun t102 w =>
  Bn P .eql 3 true t102 (.int .i64 0) w fun t104 w =>
  If t104
  (Bt P .len #[9] 3 #[t0] w fun t106 w =>
  k5 t106 w)
  (k5 t102 w))
  (k5 t37 w))
  (fun t8 w =>
  Al P 76 w fun t9 w =>
  Cl P 81 #[t9, t37] w (Pk R) fun t108 w =>
  Cl P 62 #[t9, t0] w (Pk R) fun t110 w =>
  Lp0 w (fun w k6 =>
  Cl P 82 #[t9] w (Pk R) fun t111 w =>
  Bn P .lss 3 false t111 t37 w fun t113 w =>
  If t113
  (Cl P 82 #[t9] w (Pk R) fun t115 w =>
  Bn P .sub 3 false t37 t115 w fun t116 w =>
  Cl P 82 #[t9] w (Pk R) fun t117 w =>
  Bt P .min #[3, 3, 3] 3 #[t116, t117, t8] w fun t119 w =>
  Cl P 63 #[t9] w (Pk R) fun t120 w =>
  Sc P 9 t120 none (some t119) none w fun t122 w =>
  Cl P 62 #[t9, t122] w (Pk R) fun t123 w =>
  k6 w)
  (Cl P 63 #[t9] w (Pk R) fun t124 w =>
  R (.returned t124) w)))))))))
theorem e_strings_Repeat {t0 t1 : Value} {w : World} {R : Ending → World → Prop} (h : s_strings_Repeat Tryz.prog t0 t1 w R) : Calls Tryz.prog 61 #[t0, t1] w R :=
  enter (h := (.sq .z (.sq (.sq .z (.bk (.sq .z (.cd (.sq .z .z) (.sq .z (.cd (.sq .z .z) .z)))))) (.jn [] [17, 18, 19] (.sq .z (.cd .z .z)) (.sq .z (.jn [] [29, 30, 31, 32, 33, 34, 35] (.sq .z (.cd .z .z)) (.sq .z (.sq (.sq .z (.cd (.sq .z .z) .z)) (.jn [] [4, 41, 42, 43, 44, 45, 46, 47, 48, 49, 50, 51, 52, 53, 54, 55, 56, 57, 58, 59, 60, 61, 62, 63, 64, 65, 66, 67, 68, 69, 70, 71, 72, 73, 74, 75, 76, 77, 78, 79, 80, 81, 82, 83, 84, 85, 86, 87, 88, 89, 90, 91, 92, 93] (.sq .z (.bk (.jn [43] [44, 45, 46, 47, 48] (.sq .z (.cd .z (.sq .z (.cd .z (.sq .z (.cd .z (.sq .z (.cd .z .z)))))))) (.cd (.bk (.sq .z (.cd (.sq .z .z) (.sq .z (.cd (.sq .z .z) (.sq .z (.cd (.sq .z .z) (.sq .z (.cd (.sq .z .z) (.sq .z (.cd (.sq .z .z) .z))))))))))) .z)))) (.sq .z (.jn [8] [95, 96, 97, 98, 99, 100, 101, 102, 103, 104, 105, 106] (.sq .z (.cd (.sq .z (.sq .z (.cd .z .z))) .z)) (.sq .z (.sq .z (.sq .z (.sq (.bk (.lp [] [10, 111, 112, 113, 114, 115, 116, 117, 118, 119, 120, 121, 122, 123] (.sq (.sq .z (.cd .z .z)) (.bk (.sq .z .z))))) (.sq .z .z)))))))))))))))) (args := [t0, t1]) Tryz.func61 (by kernel_rfl) (by kernel_rfl) (by kernel_rfl) (Eq.mp (by kernel_rfl) h)
theorem n_strings_Repeat : Enters Tryz.prog 61 := enters_of Tryz.func61 (by kernel_rfl) rfl
def s_strings_Builder_WriteString (P : Program) (t0 t1 : Value) (w : World) (R : Ending → World → Prop) : Prop :=
  Cl P 83 #[t0] w (Pk R) fun t7 w =>
  Nc t0 w fun t10 w =>
  Fa P 76 t10 1 w fun t11 w =>
  Ld P 72 t11 w fun t12 w =>
  Bt P .append #[72, 9] 72 #[t12, t1] w fun t14 w =>
  Nc t0 w fun t15 w =>
  Fa P 76 t15 1 w fun t16 w =>
  Sto P 72 t16 t14 w fun w =>
  Bt P .len #[9] 3 #[t1] w fun t18 w =>
  R (.returned (.tuple #[t18, .nilIface])) w
theorem e_strings_Builder_WriteString {t0 t1 : Value} {w : World} {R : Ending → World → Prop} (h : s_strings_Builder_WriteString Tryz.prog t0 t1 w R) : Calls Tryz.prog 62 #[t0, t1] w R :=
  enter (h := (.sq .z (.sq .z (.sq .z (.sq .z .z))))) (args := [t0, t1]) Tryz.func62 (by kernel_rfl) (by kernel_rfl) (by kernel_rfl) (Eq.mp (by kernel_rfl) h)
theorem n_strings_Builder_WriteString : Enters Tryz.prog 62 := enters_of Tryz.func62 (by kernel_rfl) rfl
def s_strings_Builder_String (P : Program) (t0 : Value) (w : World) (R : Ending → World → Prop) : Prop :=
  NcP t0 fun t4 =>
  Dv P true (Instr.fieldAt 76 t4 1) w.drew fun t5 =>
  Dv P false (Instr.loadAt 72 t5) w.drew fun t6 =>
  NcP t0 fun t9 =>
  Dv P true (Instr.fieldAt 76 t9 1) w.drew fun t10 =>
  Dv P false (Instr.loadAt 72 t10) w.drew fun t11 =>
  Dv P true (bV .len #[72] 3 #[t11]) w.drew fun t12 =>
  Bt P .unsafeSliceData #[72] 94 #[t6] w.drew fun t7 w =>
  Ke P (Instr.loadAt 72 t10) t11 w <|
  Bt P .unsafeString #[94, 3] 9 #[t7, t12] w fun t13 w =>
  R (.returned t13) w
theorem e_strings_Builder_String {t0 : Value} {w : World} {R : Ending → World → Prop} (h : s_strings_Builder_String Tryz.prog t0 w R) : Calls Tryz.prog 63 #[t0] w R :=
  enter (h := (.sq .z (.sq (.dr (.pur true 0 (.pur true 1 (.pur true 2 (.pur false 3 (.pur true 5 (.pur true 6 (.pur true 7 (.pur false 8 (.pur true 9 (.eff 4 [8] (.eff 10 [] (.pur true 11 .done))))))))))))) .z))) (args := [t0]) Tryz.func63 (by kernel_rfl) (by kernel_rfl) (by kernel_rfl) (Eq.mp (by kernel_rfl) h)
theorem n_strings_Builder_String : Enters Tryz.prog 63 := enters_of Tryz.func63 (by kernel_rfl) rfl
def s_integer_number_by (P : Program) (t0 t1 : Value) (w : World) (R : Ending → World → Prop) : Prop :=
  Bx P 48 t0 w fun t2 w =>
  Bx P 3 t1 w fun t3 w =>
  Ld P 48 t2 w fun t5 w =>
  Bt P .len #[48] 3 #[t5] w fun t6 w =>
  Cl P 68 #[t6, (.int .i64 0), (.func (.func 84) #[] #[t2, t3])] w (Pk R) fun t8 w =>
  Cl P 65 #[t8] w (Pk R) fun t9 w =>
  R (.returned t9) w
theorem e_integer_number_by {t0 t1 : Value} {w : World} {R : Ending → World → Prop} (h : s_integer_number_by Tryz.prog t0 t1 w R) : Calls Tryz.prog 64 #[t0, t1] w R :=
  enter (h := (.sq .z (.sq .z .z))) (args := [t0, t1]) Tryz.func64 (by kernel_rfl) (by kernel_rfl) (by kernel_rfl) (Eq.mp (by kernel_rfl) h)
theorem n_integer_number_by : Enters Tryz.prog 64 := enters_of Tryz.func64 (by kernel_rfl) rfl
def s_integer_number_trimmed (P : Program) (t0 : Value) (w : World) (R : Ending → World → Prop) : Prop :=
  Lp1 t0 w (fun t0x1 w k1 =>
  Bt P .len #[48] 3 #[t0x1] w fun t4 w =>
  Bn P .gtr 3 true t4 (.int .i64 0) w fun t5 w =>
  Gd t5 true (fun k => k t0x1 w) w fun t7 w =>
  Gd t5 true (fun k => k t0x1 w) w fun t8 w =>
  Gd t5 true (fun k => Bt P .len #[48] 3 #[t8] w k) w fun t9 w =>
  Gd t5 true (fun k => Bn P .sub 3 true t9 (.int .i64 1) w k) w fun t10 w =>
  Gd t5 true (fun k => Ia P 48 t7 t10 w k) w fun t11 w =>
  Gd t5 true (fun k => Ld P 3 t11 w k) w fun t12 w =>
  Gd t5 true (fun k => Bn P .eql 3 true t12 (.int .i64 0) w k) w fun t13 w =>
  Pick t5 t13 (.bool false) w fun t14 w =>
  If t14
  (Bt P .len #[48] 3 #[t0x1] w fun t17 w =>
  Bn P .sub 3 true t17 (.int .i64 1) w fun t18 w =>
  Sc P 48 t0x1 none (some t18) none w fun t19 w =>
  k1 t19 w)
  (R (.returned t0x1) w))
theorem e_integer_number_trimmed {t0 : Value} {w : World} {R : Ending → World → Prop} (h : s_integer_number_trimmed Tryz.prog t0 w R) : Calls Tryz.prog 65 #[t0] w R :=
  enter (h := (.sq .z (.sq (.bk (.lp [0] [3, 4, 5, 6, 7, 8, 9, 10, 11, 12, 13, 14, 15, 16, 17, 18, 19] (.sq (.sq .z (.cd .z .z)) (.bk .z)))) (.sq .z .z)))) (args := [t0]) Tryz.func65 (by kernel_rfl) (by kernel_rfl) (by kernel_rfl) (Eq.mp (by kernel_rfl) h)
theorem n_integer_number_trimmed : Enters Tryz.prog 65 := enters_of Tryz.func65 (by kernel_rfl) rfl
def s_integer_number_over_1 (P : Program) (t0 t1 t2 : Value) (w : World) (R : Ending → World → Prop) : Prop :=
  Dv P false (Instr.loadAt 81 t1) w.drew fun t5 =>
  Dv P true (bn .add 3 true t0 (.int .i64 1)) w.drew fun t7 =>
  Dv P false (Instr.loadAt 48 t2) w.drew fun t9 =>
  Cw P t5 #[t7] w.drew (Pk R) fun t8 w =>
  Ke P (Instr.loadAt 48 t2) t9 w <|
  Cl P 46 #[t8, t9] w (Pk R) fun t10 w =>
  Dv P true (bn .gtr 3 true t10 (.int .i64 0)) w fun t11 =>
  R (.returned t11) w
theorem e_integer_number_over_1 {t0 t1 t2 : Value} {w : World} {R : Ending → World → Prop} (h : s_integer_number_over_1 Tryz.prog t0 t1 t2 w R) : Calls Tryz.prog 66 #[t0, t1, t2] w R :=
  enter (h := (.sq .z (.sq (.dr (.pur false 0 (.pur true 1 (.pur true 2 (.pur false 4 (.eff 3 [4] (.eff 5 [] (.pur true 6 (.pur true 7 .done))))))))) .z))) (args := [t0, t1, t2]) Tryz.func66 (by kernel_rfl) (by kernel_rfl) (by kernel_rfl) (Eq.mp (by kernel_rfl) h)
theorem n_integer_number_over_1 : Enters Tryz.prog 66 := enters_of Tryz.func66 (by kernel_rfl) rfl
def s_sort_Search (P : Program) (t0 t1 : Value) (w : World) (R : Ending → World → Prop) : Prop :=
  Lp2 (.int .i64 0) t0 w (fun t5 t6 w k1 =>
  Bn P .lss 3 false t5 t6 w fun t11 w =>
  If t11
  (Bn P .add 3 false t5 t6 w fun t14 w =>
  Cv P 3 89 t14 w fun t15 w =>
  Bn P .shr 89 true t15 (.int .u64 1) w fun t16 w =>
  Cv P 89 3 t16 w fun t17 w =>
  Cw P t1 #[t17] w (Pk R) fun t20 w =>
  Un P .not t20 w fun t21 w =>
  If t21
  (Bn P .add 3 true t17 (.int .i64 1) w fun t23 w =>
  k1 t23 t6 w)
  (k1 t5 t17 w))
  (R (.returned t5) w))
theorem e_sort_Search {t0 t1 : Value} {w : World} {R : Ending → World → Prop} (h : s_sort_Search Tryz.prog t0 t1 w R) : Calls Tryz.prog 67 #[t0, t1] w R :=
  enter (h := (.sq .z (.sq .z (.sq (.bk (.lp [5, 6] [7, 9, 10, 11, 12, 13, 14, 15, 16, 17, 18, 19, 20, 21, 22, 23, 24] (.sq (.sq .z (.cd .z .z)) (.bk (.sq .z (.sq .z (.cd .z .z))))))) (.sq .z .z))))) (args := [t0, t1]) Tryz.func67 (by kernel_rfl) (by kernel_rfl) (by kernel_rfl) (Eq.mp (by kernel_rfl) h)
theorem n_sort_Search : Enters Tryz.prog 67 := enters_of Tryz.func67 (by kernel_rfl) rfl
def s_integer_fold_integer_number (P : Program) (t0 t1 t2 : Value) (w : World) (R : Ending → World → Prop) : Prop :=
  Bn P .add 3 true t0 (.int .i64 1) w fun t11 w =>
  Ms P 48 (.int .i64 0) t11 w fun t12 w =>
  Lp3 t1 t12 (.int .i64 0) w (fun t1x1 t7 t8 w k1 =>
  Bn P .lss 3 false t8 t0 w fun t15 w =>
  Gd t15 false (fun k => k t1x1 w) w fun t17 w =>
  Gd t15 false (fun k => Bn P .neq 3 true t17 (.int .i64 0) w k) w fun t18 w =>
  Pick t15 (.bool true) t18 w fun t19 w =>
  If t19
  (Cw P t2 #[t8] w (Pk R) fun t24 w =>
  Bn P .add 3 false t24 t1x1 w fun t26 w =>
  Bn P .lss 3 true t26 (.int .i64 0) w fun t28 w =>
  If t28
  (Bn P .add 3 true t26 (.int .i64 10000) w fun t30 w =>
  Bs P 48 1 [(0, t30)] w fun t39 w =>
  Bt P .append #[48, 48] 48 #[t7, t39] w fun t40 w =>
  Bn P .add 3 true t8 (.int .i64 1) w fun t21 w =>
  k1 (.int .i64 (-1)) t40 t21 w)
  (Bn P .geq 3 true t26 (.int .i64 10000) w fun t32 w =>
  If t32
  (Bn P .quo 3 true t26 (.int .i64 10000) w fun t34 w =>
  Bn P .rem 3 true t26 (.int .i64 10000) w fun t36 w =>
  Bs P 48 1 [(0, t36)] w fun t39x1 w =>
  Bt P .append #[48, 48] 48 #[t7, t39x1] w fun t40x1 w =>
  Bn P .add 3 true t8 (.int .i64 1) w fun t21x1 w =>
  k1 t34 t40x1 t21x1 w)
  (Bs P 48 1 [(0, t26)] w fun t39x2 w =>
  Bt P .append #[48, 48] 48 #[t7, t39x2] w fun t40x2 w =>
  Bn P .add 3 true t8 (.int .i64 1) w fun t21x2 w =>
  k1 (.int .i64 0) t40x2 t21x2 w)))
  (R (.returned t7) w))
theorem e_integer_fold_integer_number {t0 t1 t2 : Value} {w : World} {R : Ending → World → Prop} (h : s_integer_fold_integer_number Tryz.prog t0 t1 t2 w R) : Calls Tryz.prog 68 #[t0, t1, t2] w R :=
  enter (h := (.sq .z (.sq .z (.sq (.sq .z (.bk (.lp [1, 7, 8] [9, 13, 14, 15, 16, 17, 18, 19, 20, 21, 22, 23, 24, 25, 26, 27, 28, 29, 30, 31, 32, 33, 34, 35, 36, 37, 38, 39, 40] (.sq (.sq .z (.cd .z .z)) (.sq (.bk (.sq .z (.sq .z (.sq (.sq .z (.cd (.sq .z .z) (.sq .z (.cd (.sq .z .z) .z)))) .z)))) .z))))) (.sq .z .z))))) (args := [t0, t1, t2]) Tryz.func68 (by kernel_rfl) (by kernel_rfl) (by kernel_rfl) (Eq.mp (by kernel_rfl) h)
theorem n_integer_fold_integer_number : Enters Tryz.prog 68 := enters_of Tryz.func68 (by kernel_rfl) rfl
def s_integer_number_plus_1 (P : Program) (t0 t1 t2 : Value) (w : World) (R : Ending → World → Prop) : Prop :=
  Dv P false (Instr.loadAt 48 t1) w.drew fun t5 =>
  Dv P false (Instr.loadAt 48 t2) w.drew fun t8 =>
  Cl P 70 #[t5, t0] w.drew (Pk R) fun t7 w =>
  Ke P (Instr.loadAt 48 t2) t8 w <|
  Cl P 70 #[t8, t0] w (Pk R) fun t10 w =>
  Dv P true (bn .add 3 false t7 t10) w fun t11 =>
  R (.returned t11) w
theorem e_integer_number_plus_1 {t0 t1 t2 : Value} {w : World} {R : Ending → World → Prop} (h : s_integer_number_plus_1 Tryz.prog t0 t1 t2 w R) : Calls Tryz.prog 69 #[t0, t1, t2] w R :=
  enter (h := (.sq .z (.sq (.dr (.pur false 0 (.pur true 1 (.pur false 3 (.pur true 4 (.eff 2 [3] (.eff 5 [] (.pur true 6 (.pur true 7 .done))))))))) .z))) (args := [t0, t1, t2]) Tryz.func69 (by kernel_rfl) (by kernel_rfl) (by kernel_rfl) (Eq.mp (by kernel_rfl) h)
theorem n_integer_number_plus_1 : Enters Tryz.prog 69 := enters_of Tryz.func69 (by kernel_rfl) rfl
def s_integer_number_at (P : Program) (t0 t1 : Value) (w : World) (R : Ending → World → Prop) : Prop :=
  Bt P .len #[48] 3 #[t0] w fun t7 w =>
  Bn P .lss 3 false t1 t7 w fun t8 w =>
  If t8
  (Ia P 48 t0 t1 w fun t11 w =>
  Ld P 3 t11 w fun t12 w =>
  R (.returned t12) w)
  (R (.returned (.int .i64 0)) w)
theorem e_integer_number_at {t0 t1 : Value} {w : World} {R : Ending → World → Prop} (h : s_integer_number_at Tryz.prog t0 t1 w R) : Calls Tryz.prog 70 #[t0, t1] w R :=
  enter (h := (.sq .z (.sq (.sq .z (.cd (.sq .z .z) .z)) (.sq .z .z)))) (args := [t0, t1]) Tryz.func70 (by kernel_rfl) (by kernel_rfl) (by kernel_rfl) (Eq.mp (by kernel_rfl) h)
theorem n_integer_number_at : Enters Tryz.prog 70 := enters_of Tryz.func70 (by kernel_rfl) rfl
def s_integer_number_minus_1 (P : Program) (t0 t1 t2 : Value) (w : World) (R : Ending → World → Prop) : Prop :=
  Dv P false (Instr.loadAt 48 t1) w.drew fun t5 =>
  Dv P false (Instr.loadAt 48 t2) w.drew fun t8 =>
  Cl P 70 #[t5, t0] w.drew (Pk R) fun t7 w =>
  Ke P (Instr.loadAt 48 t2) t8 w <|
  Cl P 70 #[t8, t0] w (Pk R) fun t10 w =>
  Dv P true (bn .sub 3 false t7 t10) w fun t11 =>
  R (.returned t11) w
theorem e_integer_number_minus_1 {t0 t1 t2 : Value} {w : World} {R : Ending → World → Prop} (h : s_integer_number_minus_1 Tryz.prog t0 t1 t2 w R) : Calls Tryz.prog 71 #[t0, t1, t2] w R :=
  enter (h := (.sq .z (.sq (.dr (.pur false 0 (.pur true 1 (.pur false 3 (.pur true 4 (.eff 2 [3] (.eff 5 [] (.pur true 6 (.pur true 7 .done))))))))) .z))) (args := [t0, t1, t2]) Tryz.func71 (by kernel_rfl) (by kernel_rfl) (by kernel_rfl) (Eq.mp (by kernel_rfl) h)
theorem n_integer_number_minus_1 : Enters Tryz.prog 71 := enters_of Tryz.func71 (by kernel_rfl) rfl
def s_cmp_Compare_int (P : Program) (t0 t1 : Value) (w : World) (R : Ending → World → Prop) : Prop :=
  Cl P 85 #[t0] w (Pk R) fun t8 w =>
  Cl P 85 #[t1] w (Pk R) fun t10 w =>
  If t8
  (If t10
  (R (.returned (.int .i64 0)) w)
  (R (.returned (.int .i64 (-1))) w))
  (If t10
  (R (.returned (.int .i64 1)) w)
  (Bn P .lss 3 false t0 t1 w fun t16 w =>
  If t16
  (R (.returned (.int .i64 (-1))) w)
  (Bn P .gtr 3 false t0 t1 w fun t19 w =>
  If t19
  (R (.returned (.int .i64 1)) w)
  (R (.returned (.int .i64 0)) w))))
theorem e_cmp_Compare_int {t0 t1 : Value} {w : World} {R : Ending → World → Prop} (h : s_cmp_Compare_int Tryz.prog t0 t1 w R) : Calls Tryz.prog 72 #[t0, t1] w R :=
  enter (h := (.sq .z (.sq .z (.sq .z (.sq (.sq .z (.cd (.sq (.sq .z (.cd (.sq .z .z) .z)) (.sq .z .z)) .z)) (.sq (.sq .z (.cd (.sq .z .z) .z)) (.sq (.sq .z (.cd (.sq .z .z) .z)) (.sq (.sq .z (.cd (.sq .z .z) .z)) (.sq .z .z))))))))) (args := [t0, t1]) Tryz.func72 (by kernel_rfl) (by kernel_rfl) (by kernel_rfl) (Eq.mp (by kernel_rfl) h)
theorem n_cmp_Compare_int : Enters Tryz.prog 72 := enters_of Tryz.func72 (by kernel_rfl) rfl
def s_strings_TrimPrefix (P : Program) (t0 t1 : Value) (w : World) (R : Ending → World → Prop) : Prop :=
  Cl P 86 #[t0, t1] w (Pk R) fun t7 w =>
  R (.returned t7) w
theorem e_strings_TrimPrefix {t0 t1 : Value} {w : World} {R : Ending → World → Prop} (h : s_strings_TrimPrefix Tryz.prog t0 t1 w R) : Calls Tryz.prog 73 #[t0, t1] w R :=
  enter (h := (.sq .z (.sq .z .z))) (args := [t0, t1]) Tryz.func73 (by kernel_rfl) (by kernel_rfl) (by kernel_rfl) (Eq.mp (by kernel_rfl) h)
theorem n_strings_TrimPrefix : Enters Tryz.prog 73 := enters_of Tryz.func73 (by kernel_rfl) rfl
def s_strings_Trim (P : Program) (t0 t1 : Value) (w : World) (R : Ending → World → Prop) : Prop :=
  Bn P .eql 9 true t0 (str []) w fun t8 w =>
  Gd t8 false (fun k => k t1 w) w fun t10 w =>
  Gd t8 false (fun k => Bn P .eql 9 true t10 (str []) w k) w fun t11 w =>
  Pick t8 (.bool true) t11 w fun t12 w =>
  If t12
  (R (.returned t0) w)
  (Bt P .len #[9] 3 #[t1] w fun t15 w =>
  Bn P .eql 3 true t15 (.int .i64 1) w fun t16 w =>
  Gd t16 true (fun k => k t1 w) w fun t18 w =>
  Gd t16 true (fun k => Ix P 9 t18 (.int .i64 0) w k) w fun t19 w =>
  Gd t16 true (fun k => Bn P .lss 5 true t19 (.int .u8 128) w k) w fun t20 w =>
  Pick t16 t20 (.bool false) w fun t21 w =>
  If t21
  (Dv P true (Instr.index 9 t1 (.int .i64 0)) w.drew fun t24 =>
  Dv P true (Instr.index 9 t1 (.int .i64 0)) w.drew fun t27 =>
  Cl P 88 #[t0, t24] w.drew (Pk R) fun t25 w =>
  Cl P 87 #[t25, t27] w (Pk R) fun t28 w =>
  R (.returned t28) w)
  (Cl P 89 #[t1] w (Pk R) fun t31 w =>
  Ex t31 0 w fun t32 w =>
  Ex t31 1 w fun t33 w =>
  Al P 97 w fun t5 w =>
  Sto P 97 t5 t32 w fun w =>
  If t33
  (Cl P 91 #[t0, t5] w (Pk R) fun t36 w =>
  Cl P 90 #[t36, t5] w (Pk R) fun t37 w =>
  R (.returned t37) w)
  (Cl P 93 #[t0, t1] w (Pk R) fun t40 w =>
  Cl P 92 #[t40, t1] w (Pk R) fun t42 w =>
  R (.returned t42) w)))
theorem e_strings_Trim {t0 t1 : Value} {w : World} {R : Ending → World → Prop} (h : s_strings_Trim Tryz.prog t0 t1 w R) : Calls Tryz.prog 74 #[t0, t1] w R :=
  enter (h := (.sq .z (.sq (.sq .z (.cd (.sq .z .z) .z)) (.sq (.sq .z (.cd (.sq (.dr (.pur true 0 (.pur true 1 (.pur true 2 (.pur true 4 (.pur true 5 (.eff 3 [] (.eff 6 [] (.pur true 7 .done))))))))) .z) .z)) (.sq (.sq .z (.sq .z (.cd (.sq .z .z) .z))) (.sq .z .z)))))) (args := [t0, t1]) Tryz.func74 (by kernel_rfl) (by kernel_rfl) (by kernel_rfl) (Eq.mp (by kernel_rfl) h)
theorem n_strings_Trim : Enters Tryz.prog 74 := enters_of Tryz.func74 (by kernel_rfl) rfl
def s_slices_Backward_integer_number_int_1 (P : Program) (t0 t1 : Value) (w : World) (R : Ending → World → Prop) : Prop :=
  Ld P 48 t1 w fun t4 w =>
  Bt P .len #[48] 3 #[t4] w fun t5 w =>
  Bn P .sub 3 true t5 (.int .i64 1) w fun t6 w =>
  Lp1 t6 w (fun t3 w k1 =>
  Bn P .geq 3 true t3 (.int .i64 0) w fun t8 w =>
  If t8
  (Ld P 48 t1 w fun t13 w =>
  Ia P 48 t13 t3 w fun t15 w =>
  Ld P 3 t15 w fun t16 w =>
  Cw P t0 #[t3, t16] w (Pk R) fun t17 w =>
  Un P .not t17 w fun t18 w =>
  If t18
  (R (.returned (.tuple #[])) w)
  (Bn P .sub 3 true t3 (.int .i64 1) w fun t10 w =>
  k1 t10 w))
  (R (.returned (.tuple #[])) w))
theorem e_slices_Backward_integer_number_int_1 {t0 t1 : Value} {w : World} {R : Ending → World → Prop} (h : s_slices_Backward_integer_number_int_1 Tryz.prog t0 t1 w R) : Calls Tryz.prog 78 #[t0, t1] w R :=
  enter (h := (.sq .z (.bk (.lp [3] [7, 8, 9, 10, 11, 12, 13, 14, 15, 16, 17, 18] (.sq (.sq .z (.cd .z .z)) (.sq (.bk (.sq .z (.cd .z .z))) .z)))))) (args := [t0, t1]) Tryz.func78 (by kernel_rfl) (by kernel_rfl) (by kernel_rfl) (Eq.mp (by kernel_rfl) h)
theorem n_slices_Backward_integer_number_int_1 : Enters Tryz.prog 78 := enters_of Tryz.func78 (by kernel_rfl) rfl
def s_strings_Builder_copyCheck (P : Program) (t0 : Value) (w : World) (R : Ending → World → Prop) : Prop :=
  Nc t0 w fun t3 w =>
  Fa P 76 t3 0 w fun t4 w =>
  Ld P 74 t4 w fun t5 w =>
  Bn P .eql 74 true t5 (.pointer none) w fun t6 w =>
  If t6
  (Cv P 74 115 t0 w fun t9 w =>
  Cl P 104 #[t9] w (Pk R) fun t10 w =>
  Cv P 115 74 t10 w fun t11 w =>
  Nc t0 w fun t12 w =>
  Fa P 76 t12 0 w fun t13 w =>
  Sto P 74 t13 t11 w fun w =>
  R (.returned (.tuple #[])) w)
  (Nc t0 w fun t15 w =>
  Fa P 76 t15 0 w fun t16 w =>
  Ld P 74 t16 w fun t17 w =>
  Bn P .neq 74 false t17 t0 w fun t19 w =>
  If t19
  (False)
  (R (.returned (.tuple #[])) w))
theorem e_strings_Builder_copyCheck {t0 : Value} {w : World} {R : Ending → World → Prop} (h : s_strings_Builder_copyCheck Tryz.prog t0 w R) : Calls Tryz.prog 83 #[t0] w R :=
  enter (h := (.sq .z (.cd .z (.sq .z (.cd .z .z))))) (args := [t0]) Tryz.func83 (by kernel_rfl) (by kernel_rfl) (by kernel_rfl) (Eq.mp (by kernel_rfl) h)
theorem n_strings_Builder_copyCheck : Enters Tryz.prog 83 := enters_of Tryz.func83 (by kernel_rfl) rfl
def s_integer_number_by_1 (P : Program) (t0 t1 t2 : Value) (w : World) (R : Ending → World → Prop) : Prop :=
  Dv P false (Instr.loadAt 48 t1) w.drew fun t5 =>
  Dv P false (Instr.loadAt 3 t2) w.drew fun t8 =>
  Cl P 70 #[t5, t0] w.drew (Pk R) fun t7 w =>
  Ke P (Instr.loadAt 3 t2) t8 w <|
  Dv P true (bn .mul 3 false t7 t8) w fun t9 =>
  R (.returned t9) w
theorem e_integer_number_by_1 {t0 t1 t2 : Value} {w : World} {R : Ending → World → Prop} (h : s_integer_number_by_1 Tryz.prog t0 t1 t2 w R) : Calls Tryz.prog 84 #[t0, t1, t2] w R :=
  enter (h := (.sq .z (.sq (.dr (.pur false 0 (.pur true 1 (.pur false 3 (.eff 2 [3] (.pur true 4 (.pur true 5 .done))))))) .z))) (args := [t0, t1, t2]) Tryz.func84 (by kernel_rfl) (by kernel_rfl) (by kernel_rfl) (Eq.mp (by kernel_rfl) h)
theorem n_integer_number_by_1 : Enters Tryz.prog 84 := enters_of Tryz.func84 (by kernel_rfl) rfl
def s_cmp_isNaN_int (P : Program) (t0 : Value) (w : World) (R : Ending → World → Prop) : Prop :=
  Bn P .neq 3 false t0 t0 w fun t5 w =>
  R (.returned t5) w
theorem e_cmp_isNaN_int {t0 : Value} {w : World} {R : Ending → World → Prop} (h : s_cmp_isNaN_int Tryz.prog t0 w R) : Calls Tryz.prog 85 #[t0] w R :=
  enter (h := (.sq .z (.sq .z .z))) (args := [t0]) Tryz.func85 (by kernel_rfl) (by kernel_rfl) (by kernel_rfl) (Eq.mp (by kernel_rfl) h)
theorem n_cmp_isNaN_int : Enters Tryz.prog 85 := enters_of Tryz.func85 (by kernel_rfl) rfl
def s_strings_makeASCIISet (P : Program) (t0 : Value) (w : World) (R : Ending → World → Prop) : Prop :=
  Al P 97 w fun t2 w =>
  Lp1 (.int .i64 0) w (fun t4 w k1 =>
  Bt P .len #[9] 3 #[t0] w fun t8 w =>
  Bn P .lss 3 false t4 t8 w fun t9 w =>
  If t9
  (Ix P 9 t0 t4 w fun t14 w =>
  Bn P .geq 5 true t14 (.int .u8 128) w fun t16 w =>
  If t16
  (Ld P 97 t2 w fun t17 w =>
  Sto P 97 t2 t17 w fun w =>
  Rc P 97 t2 w fun r0 =>
  R (.returned (.tuple #[r0, (.bool false)])) w)
  (Ia P 97 t2 t14 w fun t19 w =>
  Sto P 4 t19 (.bool true) w fun w =>
  Bn P .add 3 true t4 (.int .i64 1) w fun t11 w =>
  k1 t11 w))
  (Ld P 97 t2 w fun t20 w =>
  Sto P 97 t2 t20 w fun w =>
  Rc P 97 t2 w fun r0 =>
  R (.returned (.tuple #[r0, (.bool true)])) w))
theorem e_strings_makeASCIISet {t0 : Value} {w : World} {R : Ending → World → Prop} (h : s_strings_makeASCIISet Tryz.prog t0 w R) : Calls Tryz.prog 89 #[t0] w R :=
  enter (h := (.sq .z (.sq (.sq .z (.bk (.lp [4] [3, 5, 6, 7, 8, 9, 10, 11, 12, 13, 14, 15, 16, 17, 18, 19] (.sq (.sq .z (.cd .z .z)) (.sq (.bk (.sq .z (.sq (.sq .z (.cd (.sq .z .z) .z)) .z))) .z))))) (.sq .z .z)))) (args := [t0]) Tryz.func89 (by kernel_rfl) (by kernel_rfl) (by kernel_rfl) (Eq.mp (by kernel_rfl) h)
theorem n_strings_makeASCIISet : Enters Tryz.prog 89 := enters_of Tryz.func89 (by kernel_rfl) rfl
def s_strings_trimLeftASCII (P : Program) (t0 t1 : Value) (w : World) (R : Ending → World → Prop) : Prop :=
  Lp1 t0 w (fun t0x1 w k1 =>
  Bt P .len #[9] 3 #[t0x1] w fun t6 w =>
  Bn P .gtr 3 true t6 (.int .i64 0) w fun t7 w =>
  If t7
  (Ix P 9 t0x1 (.int .i64 0) w fun t10 w =>
  Cl P 105 #[t1, t10] w (Pk R) fun t11 w =>
  Un P .not t11 w fun t12 w =>
  If t12
  (R (.returned t0x1) w)
  (Sc P 9 t0x1 (some (.int .i64 1)) none none w fun t14 w =>
  k1 t14 w))
  (R (.returned t0x1) w))
theorem e_strings_trimLeftASCII {t0 t1 : Value} {w : World} {R : Ending → World → Prop} (h : s_strings_trimLeftASCII Tryz.prog t0 t1 w R) : Calls Tryz.prog 90 #[t0, t1] w R :=
  enter (h := (.sq .z (.sq (.bk (.lp [0] [5, 6, 7, 8, 9, 10, 11, 12, 13, 14] (.sq (.sq .z (.cd .z .z)) (.bk (.sq (.sq .z (.cd .z .z)) .z))))) (.sq .z .z)))) (args := [t0, t1]) Tryz.func90 (by kernel_rfl) (by kernel_rfl) (by kernel_rfl) (Eq.mp (by kernel_rfl) h)
theorem n_strings_trimLeftASCII : Enters Tryz.prog 90 := enters_of Tryz.func90 (by kernel_rfl) rfl
def s_strings_trimRightASCII (P : Program) (t0 t1 : Value) (w : World) (R : Ending → World → Prop) : Prop :=
  Lp1 t0 w (fun t0x1 w k1 =>
  Bt P .len #[9] 3 #[t0x1] w fun t6 w =>
  Bn P .gtr 3 true t6 (.int .i64 0) w fun t7 w =>
  If t7
  (Bt P .len #[9] 3 #[t0x1] w fun t11 w =>
  Bn P .sub 3 true t11 (.int .i64 1) w fun t12 w =>
  Ix P 9 t0x1 t12 w fun t13 w =>
  Cl P 105 #[t1, t13] w (Pk R) fun t14 w =>
  Un P .not t14 w fun t15 w =>
  If t15
  (R (.returned t0x1) w)
  (Bt P .len #[9] 3 #[t0x1] w fun t18 w =>
  Bn P .sub 3 true t18 (.int .i64 1) w fun t19 w =>
  Sc P 9 t0x1 none (some t19) none w fun t20 w =>
  k1 t20 w))
  (R (.returned t0x1) w))
theorem e_strings_trimRightASCII {t0 t1 : Value} {w : World} {R : Ending → World → Prop} (h : s_strings_trimRightASCII Tryz.prog t0 t1 w R) : Calls Tryz.prog 91 #[t0, t1] w R :=
  enter (h := (.sq .z (.sq (.bk (.lp [0] [5, 6, 7, 8, 9, 10, 11, 12, 13, 14, 15, 16, 17, 18, 19, 20] (.sq (.sq .z (.cd .z .z)) (.bk (.sq (.sq .z (.cd .z .z)) .z))))) (.sq .z .z)))) (args := [t0, t1]) Tryz.func91 (by kernel_rfl) (by kernel_rfl) (by kernel_rfl) (Eq.mp (by kernel_rfl) h)
theorem n_strings_trimRightASCII : Enters Tryz.prog 91 := enters_of Tryz.func91 (by kernel_rfl) rfl
def s_strings_asciiSet_contains (P : Program) (t0 t1 : Value) (w : World) (R : Ending → World → Prop) : Prop :=
  Nc t0 w fun t7 w =>
  Ia P 97 t7 t1 w fun t8 w =>
  Ld P 4 t8 w fun t9 w =>
  R (.returned t9) w
theorem e_strings_asciiSet_contains {t0 t1 : Value} {w : World} {R : Ending → World → Prop} (h : s_strings_asciiSet_contains Tryz.prog t0 t1 w R) : Calls Tryz.prog 105 #[t0, t1] w R :=
  enter (h := (.sq .z (.sq .z .z))) (args := [t0, t1]) Tryz.func105 (by kernel_rfl) (by kernel_rfl) (by kernel_rfl) (Eq.mp (by kernel_rfl) h)
theorem n_strings_asciiSet_contains : Enters Tryz.prog 105 := enters_of Tryz.func105 (by kernel_rfl) rfl
end Go.Proofs.YtocilcjojdjfdaaGreatDoor
