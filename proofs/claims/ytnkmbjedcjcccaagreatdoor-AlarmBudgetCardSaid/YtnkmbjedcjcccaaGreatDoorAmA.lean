/-
  Contracts and plain lemmas. By an AI agent.
-/
import Derived.Test.YtnkmbjedcjcccaaGreatDoorTyp
import Derived.Test.YtnkmbjedcjcccaaGreatDoorAlY
import Derived.Test.YtnkmbjedcjcccaaGreatDoorEsA
set_option linter.unusedSimpArgs false
set_option linter.unusedVariables false
set_option linter.unusedSectionVars false
namespace Go.Proofs.YtnkmbjedcjcccaaGreatDoor
open Go Go.Eng
set_option maxRecDepth 100000
def s_law28_sane_6 (P : Program) (t188 : Value) (t184 : Value) (t15 : Value) (t6 : Value) (t17 : Value) (t14x5 : Value) (t11x6 : Value) (w : World) (R : Ending → World → Prop) : Prop :=
 Al P 30 w fun t24 w =>
 Sto P 30 t24 t188 w fun w =>
 Cl P 33 #[(.int .i64 0), (.int .i64 101), (.int .i64 101)] w (Pk R) fun t190 w =>
 Cl P 33 #[(.int .i64 1), (.int .i64 90), (.int .i64 110)] w (Pk R) fun t191 w =>
 Cl P 33 #[(.int .i64 2), (.int .i64 5), (.int .i64 6)] w (Pk R) fun t192 w =>
 Bs P 31 3 [(0, t190), (1, t191), (2, t192)] w fun t193 w =>
 Cl P 28 #[t193, (.int .i64 1), (.int .i64 2), (.int .i64 100)] w (Pk R) fun t194 w =>
 Ex t194 0 w fun t195 w =>
 Ex t194 1 w fun t196 w =>
 Ex t194 2 w fun t197 w =>
 Ex t194 3 w fun t198 w =>
 GdP t184 true (fun k => Dv P true (Instr.fieldAt 30 t24 10) w.drew k) fun t201 =>
 GdP t184 true (fun k => Dv P false (Instr.loadAt 4 t201) w.drew k) fun t202 =>
 PickP t184 t202 (.bool false) fun t203 =>
 GdP t203 true (fun k => Dv P true (Instr.fieldAt 30 t24 8) w.drew k) fun t205 =>
 GdP t203 true (fun k => Dv P false (Instr.loadAt 3 t205) w.drew k) fun t206 =>
 GdP t203 true (fun k => Dv P true (bn .eql 3 true t206 (.int .i64 6)) w.drew k) fun t207 =>
 PickP t203 t207 (.bool false) fun t208 =>
 GdP t208 true (fun k => Dv P true (Instr.fieldAt 30 t24 7) w.drew k) fun t210 =>
 GdP t208 true (fun k => Dv P false (Instr.loadAt 3 t210) w.drew k) fun t211 =>
 GdP t208 true (fun k => Dv P true (bn .eql 3 true t211 (.int .i64 6)) w.drew k) fun t212 =>
 PickP t208 t212 (.bool false) fun t213 =>
 GdP t213 true (fun k => k t15) fun t215 =>
 Gd t213 true (fun k => Bs P 33 1 [(0, (.int .i64 0))] w.drew k) w.drew fun t216 w =>
 Gd t213 true (fun k => Cl P 26 #[t215, t216] w (Pk R) k) w fun t217 w =>
 PickP t213 t217 (.bool false) fun t218 =>
 GdP t218 true (fun k => Dv P false (Instr.loadAt 25 t6) w k) fun t220 =>
 Gd t218 true (fun k => Cl P 30 #[(.int .i64 1), (.int .i64 20)] w (Pk R) k) w fun t221 w =>
 Kg t218 true P (Instr.loadAt 25 t6) t220 w <|
 GdP t218 true (fun k => Dv P false (bn .eql 25 false t220 t221) w k) fun t222 =>
 PickP t218 t222 (.bool false) fun t223 =>
 GdP t223 true (fun k => Dv P true (Instr.fieldAt 28 t17 1) w k) fun t225 =>
 GdP t223 true (fun k => Dv P false (Instr.loadAt 26 t225) w k) fun t226 =>
 GdP t223 true (fun k => Dv P true (Instr.indexAt 26 t226 (.int .i64 1)) w k) fun t227 =>
 GdP t223 true (fun k => Dv P true (Instr.fieldAt 30 t227 6) w k) fun t228 =>
 GdP t223 true (fun k => Dv P false (Instr.loadAt 3 t228) w k) fun t229 =>
 GdP t223 true (fun k => Dv P true (bn .eql 3 true t229 (.int .i64 6)) w k) fun t230 =>
 PickP t223 t230 (.bool false) fun t231 =>
 GdP t231 true (fun k => Dv P false (Instr.loadAt 28 t14x5) w k) fun t233 =>
 Gd t231 true (fun k => Cl P 13 #[t233] w (Pk R) k) w fun t234 w =>
 PickP t231 t234 (.bool false) fun t235 =>
 GdP t235 true (fun k => Dv P true (Instr.build 28 #[]) w k) fun t237 =>
 Gd t235 true (fun k => Cl P 13 #[t237] w (Pk R) k) w fun t238 w =>
 GdP t235 true (fun k => Dv P true (Op.unary .not t238) w k) fun t239 =>
 PickP t235 t239 (.bool false) fun t240 =>
 GdP t240 true (fun k => Dv P false (Instr.loadAt 28 t14x5) w k) fun t242 =>
 GdP t240 true (fun k => Dv P false (Instr.loadAt 28 t14x5) w k) fun t243 =>
 Gd t240 true (fun k => Cl P 15 #[t242, t243] w (Pk R) k) w fun t244 w =>
 PickP t240 t244 (.bool false) fun t245 =>
 GdP t245 true (fun k => Dv P false (Instr.loadAt 28 t14x5) w k) fun t247 =>
 GdP t245 true (fun k => Dv P false (Instr.loadAt 28 t11x6) w k) fun t248 =>
 Gd t245 true (fun k => Cl P 15 #[t247, t248] w (Pk R) k) w fun t249 w =>
 GdP t245 true (fun k => Dv P true (Op.unary .not t249) w k) fun t250 =>
 PickP t245 t250 (.bool false) fun t251 =>
 GdP t251 true (fun k => k t198) fun t253 =>
 GdP t251 true (fun k => Dv P true (bn .eql 46 true t253 (.int .i64 0)) w k) fun t254 =>
 PickP t251 t254 (.bool false) fun t255 =>
 GdP t255 true (fun k => k t195) fun t257 =>
 GdP t255 true (fun k => Dv P true (bn .eql 3 true t257 (.int .i64 1)) w k) fun t258 =>
 PickP t255 t258 (.bool false) fun t259 =>
 GdP t259 true (fun k => k t196) fun t261 =>
 GdP t259 true (fun k => Dv P true (bn .eql 3 true t261 (.int .i64 2)) w k) fun t262 =>
 PickP t259 t262 (.bool false) fun t263 =>
 GdP t263 true (fun k => k t197) fun t265 =>
 GdP t263 true (fun k => Dv P true (bn .eql 3 true t265 (.int .i64 3)) w k) fun t266 =>
 PickP t263 t266 (.bool false) fun t267 =>
 R (.returned t267) w
def s_law28_sane_5 (P : Program) (t159 : Value) (t8x5 : Value) (t11x6 : Value) (t14x5 : Value) (t15 : Value) (t6 : Value) (t17 : Value) (w : World) (R : Ending → World → Prop) : Prop :=
 If t159
 (R (.returned (.bool false)) w)
 (Dv P true (Instr.fieldAt 28 t8x5 1) w.drew fun t160 =>
 Dv P false (Instr.loadAt 26 t160) w.drew fun t161 =>
 Dv P true (Instr.indexAt 26 t161 (.int .i64 0)) w.drew fun t162 =>
 Dv P true (Instr.fieldAt 30 t162 9) w.drew fun t163 =>
 Dv P false (Instr.loadAt 25 t163) w.drew fun t164 =>
 Cl P 30 #[(.int .i64 5), (.int .i64 4)] w.drew (Pk R) fun t165 w =>
 Ke P (Instr.loadAt 26 t160) t161 w <|
 Ke P (Instr.loadAt 25 t163) t164 w <|
 Dv P false (bn .eql 25 false t164 t165) w fun t166 =>
 GdP t166 true (fun k => Dv P true (Instr.fieldAt 28 t11x6 1) w k) fun t168 =>
 GdP t166 true (fun k => Dv P false (Instr.loadAt 26 t168) w k) fun t169 =>
 GdP t166 true (fun k => Dv P true (Instr.indexAt 26 t169 (.int .i64 0)) w k) fun t170 =>
 GdP t166 true (fun k => Dv P true (Instr.fieldAt 30 t170 9) w k) fun t171 =>
 GdP t166 true (fun k => Dv P false (Instr.loadAt 25 t171) w k) fun t172 =>
 Gd t166 true (fun k => Cl P 30 #[(.int .i64 625), (.int .i64 32)] w (Pk R) k) w fun t173 w =>
 Kg t166 true P (Instr.loadAt 26 t168) t169 w <|
 Kg t166 true P (Instr.loadAt 25 t171) t172 w <|
 GdP t166 true (fun k => Dv P false (bn .eql 25 false t172 t173) w k) fun t174 =>
 PickP t166 t174 (.bool false) fun t175 =>
 GdP t175 true (fun k => Dv P true (Instr.fieldAt 28 t14x5 1) w k) fun t177 =>
 GdP t175 true (fun k => Dv P false (Instr.loadAt 26 t177) w k) fun t178 =>
 GdP t175 true (fun k => Dv P true (Instr.indexAt 26 t178 (.int .i64 0)) w k) fun t179 =>
 GdP t175 true (fun k => Dv P true (Instr.fieldAt 30 t179 9) w k) fun t180 =>
 GdP t175 true (fun k => Dv P false (Instr.loadAt 25 t180) w k) fun t181 =>
 Gd t175 true (fun k => Cl P 30 #[(.int .i64 3125), (.int .i64 64)] w (Pk R) k) w fun t182 w =>
 Kg t175 true P (Instr.loadAt 26 t177) t178 w <|
 Kg t175 true P (Instr.loadAt 25 t180) t181 w <|
 GdP t175 true (fun k => Dv P false (bn .eql 25 false t181 t182) w k) fun t183 =>
 PickP t175 t183 (.bool false) fun t184 =>
 Fa P 28 t14x5 1 w fun t185 w =>
 Ld P 26 t185 w fun t186 w =>
 Ia P 26 t186 (.int .i64 0) w fun t187 w =>
 Ld P 30 t187 w fun t188 w =>
 s_law28_sane_6 P t188 t184 t15 t6 t17 t14x5 t11x6 w R)
def s_law28_sane_4 (P : Program) (t127 : Value) (t8x5 : Value) (t11x6 : Value) (t14x5 : Value) (t17 : Value) (t9 : Value) (t12 : Value) (t15 : Value) (t6 : Value) (w : World) (R : Ending → World → Prop) : Prop :=
 If t127
 (R (.returned (.bool false)) w)
 (Fa P 28 t8x5 1 w fun t128 w =>
 Ld P 26 t128 w fun t129 w =>
 Bt P .len #[26] 3 #[t129] w fun t130 w =>
 Bn P .neq 3 true t130 (.int .i64 1) w fun t131 w =>
 Gd t131 false (fun k => Fa P 28 t11x6 1 w k) w fun t133 w =>
 Gd t131 false (fun k => Ld P 26 t133 w k) w fun t134 w =>
 Gd t131 false (fun k => Bt P .len #[26] 3 #[t134] w k) w fun t135 w =>
 Gd t131 false (fun k => Bn P .neq 3 true t135 (.int .i64 1) w k) w fun t136 w =>
 Pick t131 (.bool true) t136 w fun t137 w =>
 Gd t137 false (fun k => Fa P 28 t14x5 1 w k) w fun t139 w =>
 Gd t137 false (fun k => Ld P 26 t139 w k) w fun t140 w =>
 Gd t137 false (fun k => Bt P .len #[26] 3 #[t140] w k) w fun t141 w =>
 Gd t137 false (fun k => Bn P .neq 3 true t141 (.int .i64 1) w k) w fun t142 w =>
 Pick t137 (.bool true) t142 w fun t143 w =>
 Gd t143 false (fun k => Fa P 28 t17 1 w k) w fun t145 w =>
 Gd t143 false (fun k => Ld P 26 t145 w k) w fun t146 w =>
 Gd t143 false (fun k => Bt P .len #[26] 3 #[t146] w k) w fun t147 w =>
 Gd t143 false (fun k => Bn P .neq 3 true t147 (.int .i64 2) w k) w fun t148 w =>
 Pick t143 (.bool true) t148 w fun t149 w =>
 Gd t149 false (fun k => k t9 w) w fun t151 w =>
 Gd t149 false (fun k => Bt P .len #[33] 3 #[t151] w k) w fun t152 w =>
 Gd t149 false (fun k => Bn P .gtr 3 true t152 (.int .i64 0) w k) w fun t153 w =>
 Pick t149 (.bool true) t153 w fun t154 w =>
 Gd t154 false (fun k => k t12 w) w fun t156 w =>
 Gd t154 false (fun k => Bt P .len #[33] 3 #[t156] w k) w fun t157 w =>
 Gd t154 false (fun k => Bn P .gtr 3 true t157 (.int .i64 0) w k) w fun t158 w =>
 Pick t154 (.bool true) t158 w fun t159 w =>
 s_law28_sane_5 P t159 t8x5 t11x6 t14x5 t15 t6 t17 w R)
def s_law28_sane_3 (P : Program) (t14x5 : Value) (t3 : Value) (t33 : Value) (t43 : Value) (t48 : Value) (t10 : Value) (t13 : Value) (t16 : Value) (t8x5 : Value) (t11x6 : Value) (t9 : Value) (t12 : Value) (t15 : Value) (t6 : Value) (w : World) (R : Ending → World → Prop) : Prop :=
 Ld P 28 t14x5 w fun t78 w =>
 Ld P 30 t3 w fun t79 w =>
 Cl P 22 #[t78, t79] w (Pk R) fun t80 w =>
 Ex t80 0 w fun t81 w =>
 Ex t80 1 w fun t82 w =>
 Al P 28 w fun t17 w =>
 Sto P 28 t17 t81 w fun w =>
 Ld P 28 t17 w fun t84 w =>
 Ld P 30 t3 w fun t85 w =>
 Cl P 22 #[t84, t85] w (Pk R) fun t86 w =>
 Ex t86 0 w fun t87 w =>
 Ex t86 1 w fun t88 w =>
 Al P 28 w fun t19 w =>
 Sto P 28 t19 t87 w fun w =>
 Cl P 30 #[(.int .i64 3), (.int .i64 2)] w (Pk R) fun t90 w =>
 Cl P 17 #[t90] w (Pk R) fun t91 w =>
 Ex t91 0 w fun t92 w =>
 Ex t91 1 w fun t93 w =>
 Al P 28 w fun t21 w =>
 Sto P 28 t21 t92 w fun w =>
 Bn P .neq 46 true t33 (.int .i64 0) w fun t95 w =>
 Gd t95 false (fun k => k t43 w) w fun t97 w =>
 Gd t95 false (fun k => Bn P .neq 46 true t97 (.int .i64 0) w k) w fun t98 w =>
 Pick t95 (.bool true) t98 w fun t99 w =>
 Gd t99 false (fun k => k t48 w) w fun t101 w =>
 Gd t99 false (fun k => Bn P .neq 46 true t101 (.int .i64 0) w k) w fun t102 w =>
 Pick t99 (.bool true) t102 w fun t103 w =>
 Gd t103 false (fun k => k t10 w) w fun t105 w =>
 Gd t103 false (fun k => Bn P .neq 46 true t105 (.int .i64 0) w k) w fun t106 w =>
 Pick t103 (.bool true) t106 w fun t107 w =>
 Gd t107 false (fun k => k t13 w) w fun t109 w =>
 Gd t107 false (fun k => Bn P .neq 46 true t109 (.int .i64 0) w k) w fun t110 w =>
 Pick t107 (.bool true) t110 w fun t111 w =>
 Gd t111 false (fun k => k t16 w) w fun t113 w =>
 Gd t111 false (fun k => Bn P .neq 46 true t113 (.int .i64 0) w k) w fun t114 w =>
 Pick t111 (.bool true) t114 w fun t115 w =>
 Gd t115 false (fun k => k t82 w) w fun t117 w =>
 Gd t115 false (fun k => Bn P .neq 46 true t117 (.int .i64 0) w k) w fun t118 w =>
 Pick t115 (.bool true) t118 w fun t119 w =>
 Gd t119 false (fun k => k t88 w) w fun t121 w =>
 Gd t119 false (fun k => Bn P .neq 46 true t121 (.int .i64 280) w k) w fun t122 w =>
 Pick t119 (.bool true) t122 w fun t123 w =>
 Gd t123 false (fun k => k t93 w) w fun t125 w =>
 Gd t123 false (fun k => Bn P .neq 46 true t125 (.int .i64 280) w k) w fun t126 w =>
 Pick t123 (.bool true) t126 w fun t127 w =>
 s_law28_sane_4 P t127 t8x5 t11x6 t14x5 t17 t9 t12 t15 t6 w R
def s_law28_sane_2 (P : Program) (t11x6 : Value) (t3 : Value) (t33 : Value) (t43 : Value) (t48 : Value) (t10 : Value) (t13 : Value) (t8x5 : Value) (t9 : Value) (t12 : Value) (t6 : Value) (w : World) (R : Ending → World → Prop) : Prop :=
 Jn3 (fun k3 =>
 Dv P false (Instr.loadAt 28 t11x6) w.drew fun t69 =>
 (Cl P 33 #[(.int .i64 5), (.int .i64 200), (.int .i64 200)] w.drew (Pk R) fun t70 w =>
 Ke P (Instr.loadAt 28 t11x6) t69 w <|
 (Cl P 33 #[(.int .i64 6), (.int .i64 200), (.int .i64 200)] w (Pk R) fun t71 w =>
 Ke P (Instr.loadAt 28 t11x6) t69 w <|
 (Bs P 31 2 [(0, t70), (1, t71)] w fun t72 w =>
 Ke P (Instr.loadAt 28 t11x6) t69 w <|
 (Cl P 24 #[t69, t72] w (Pk R) fun t73 w =>
 ExP t73 0 fun t74 =>
 ExP t73 1 fun t75 =>
 ExP t73 2 fun t76 =>
 Al P 28 w fun t14 w =>
 Ke P (Instr.loadAt 28 t11x6) t69 w <|
 Sto P 28 t14 t74 w fun w =>
 k3 t14 t75 t76 w) ∧
 (Al P 28 w fun t14x1 w =>
 Ke P (Instr.loadAt 28 t11x6) t69 w <|
 Cl P 24 #[t69, t72] w (Pk R) fun t73x1 w =>
 ExP t73x1 0 fun t74x1 =>
 ExP t73x1 1 fun t75x1 =>
 ExP t73x1 2 fun t76x1 =>
 Sto P 28 t14x1 t74x1 w fun w =>
 k3 t14x1 t75x1 t76x1 w)) ∧
 (Al P 28 w fun t14x2 w =>
 Ke P (Instr.loadAt 28 t11x6) t69 w <|
 Bs P 31 2 [(0, t70), (1, t71)] w fun t72x1 w =>
 Ke P (Instr.loadAt 28 t11x6) t69 w <|
 Cl P 24 #[t69, t72x1] w (Pk R) fun t73x2 w =>
 ExP t73x2 0 fun t74x2 =>
 ExP t73x2 1 fun t75x2 =>
 ExP t73x2 2 fun t76x2 =>
 Sto P 28 t14x2 t74x2 w fun w =>
 k3 t14x2 t75x2 t76x2 w)) ∧
 (Al P 28 w fun t14x3 w =>
 Ke P (Instr.loadAt 28 t11x6) t69 w <|
 Cl P 33 #[(.int .i64 6), (.int .i64 200), (.int .i64 200)] w (Pk R) fun t71x1 w =>
 Ke P (Instr.loadAt 28 t11x6) t69 w <|
 Bs P 31 2 [(0, t70), (1, t71x1)] w fun t72x2 w =>
 Ke P (Instr.loadAt 28 t11x6) t69 w <|
 Cl P 24 #[t69, t72x2] w (Pk R) fun t73x3 w =>
 ExP t73x3 0 fun t74x3 =>
 ExP t73x3 1 fun t75x3 =>
 ExP t73x3 2 fun t76x3 =>
 Sto P 28 t14x3 t74x3 w fun w =>
 k3 t14x3 t75x3 t76x3 w)) ∧
 (Al P 28 w.drew fun t14x4 w =>
 Ke P (Instr.loadAt 28 t11x6) t69 w <|
 Cl P 33 #[(.int .i64 5), (.int .i64 200), (.int .i64 200)] w (Pk R) fun t70x1 w =>
 Ke P (Instr.loadAt 28 t11x6) t69 w <|
 Cl P 33 #[(.int .i64 6), (.int .i64 200), (.int .i64 200)] w (Pk R) fun t71x2 w =>
 Ke P (Instr.loadAt 28 t11x6) t69 w <|
 Bs P 31 2 [(0, t70x1), (1, t71x2)] w fun t72x3 w =>
 Ke P (Instr.loadAt 28 t11x6) t69 w <|
 Cl P 24 #[t69, t72x3] w (Pk R) fun t73x4 w =>
 ExP t73x4 0 fun t74x4 =>
 ExP t73x4 1 fun t75x4 =>
 ExP t73x4 2 fun t76x4 =>
 Sto P 28 t14x4 t74x4 w fun w =>
 k3 t14x4 t75x4 t76x4 w))
 (fun t14x5 t15 t16 w =>
 s_law28_sane_3 P t14x5 t3 t33 t43 t48 t10 t13 t16 t8x5 t11x6 t9 t12 t15 t6 w R)
def s_law28_sane_1 (P : Program) (t8x5 : Value) (t3 : Value) (t33 : Value) (t43 : Value) (t48 : Value) (t10 : Value) (t9 : Value) (t6 : Value) (w : World) (R : Ending → World → Prop) : Prop :=
 Jn3 (fun k2 =>
 Dv P false (Instr.loadAt 28 t8x5) w.drew fun t59 =>
 (Cl P 33 #[(.int .i64 2), (.int .i64 200), (.int .i64 200)] w.drew (Pk R) fun t60 w =>
 Ke P (Instr.loadAt 28 t8x5) t59 w <|
 (Cl P 33 #[(.int .i64 3), (.int .i64 200), (.int .i64 200)] w (Pk R) fun t61 w =>
 Ke P (Instr.loadAt 28 t8x5) t59 w <|
 (Cl P 33 #[(.int .i64 4), (.int .i64 200), (.int .i64 200)] w (Pk R) fun t62 w =>
 Ke P (Instr.loadAt 28 t8x5) t59 w <|
 (Bs P 31 3 [(0, t60), (1, t61), (2, t62)] w fun t63 w =>
 Ke P (Instr.loadAt 28 t8x5) t59 w <|
 (Cl P 24 #[t59, t63] w (Pk R) fun t64 w =>
 ExP t64 0 fun t65 =>
 ExP t64 1 fun t66 =>
 ExP t64 2 fun t67 =>
 Al P 28 w fun t11 w =>
 Ke P (Instr.loadAt 28 t8x5) t59 w <|
 Sto P 28 t11 t65 w fun w =>
 k2 t11 t66 t67 w) ∧
 (Al P 28 w fun t11x1 w =>
 Ke P (Instr.loadAt 28 t8x5) t59 w <|
 Cl P 24 #[t59, t63] w (Pk R) fun t64x1 w =>
 ExP t64x1 0 fun t65x1 =>
 ExP t64x1 1 fun t66x1 =>
 ExP t64x1 2 fun t67x1 =>
 Sto P 28 t11x1 t65x1 w fun w =>
 k2 t11x1 t66x1 t67x1 w)) ∧
 (Al P 28 w fun t11x2 w =>
 Ke P (Instr.loadAt 28 t8x5) t59 w <|
 Bs P 31 3 [(0, t60), (1, t61), (2, t62)] w fun t63x1 w =>
 Ke P (Instr.loadAt 28 t8x5) t59 w <|
 Cl P 24 #[t59, t63x1] w (Pk R) fun t64x2 w =>
 ExP t64x2 0 fun t65x2 =>
 ExP t64x2 1 fun t66x2 =>
 ExP t64x2 2 fun t67x2 =>
 Sto P 28 t11x2 t65x2 w fun w =>
 k2 t11x2 t66x2 t67x2 w)) ∧
 (Al P 28 w fun t11x3 w =>
 Ke P (Instr.loadAt 28 t8x5) t59 w <|
 Cl P 33 #[(.int .i64 4), (.int .i64 200), (.int .i64 200)] w (Pk R) fun t62x1 w =>
 Ke P (Instr.loadAt 28 t8x5) t59 w <|
 Bs P 31 3 [(0, t60), (1, t61), (2, t62x1)] w fun t63x2 w =>
 Ke P (Instr.loadAt 28 t8x5) t59 w <|
 Cl P 24 #[t59, t63x2] w (Pk R) fun t64x3 w =>
 ExP t64x3 0 fun t65x3 =>
 ExP t64x3 1 fun t66x3 =>
 ExP t64x3 2 fun t67x3 =>
 Sto P 28 t11x3 t65x3 w fun w =>
 k2 t11x3 t66x3 t67x3 w)) ∧
 (Al P 28 w fun t11x4 w =>
 Ke P (Instr.loadAt 28 t8x5) t59 w <|
 Cl P 33 #[(.int .i64 3), (.int .i64 200), (.int .i64 200)] w (Pk R) fun t61x1 w =>
 Ke P (Instr.loadAt 28 t8x5) t59 w <|
 Cl P 33 #[(.int .i64 4), (.int .i64 200), (.int .i64 200)] w (Pk R) fun t62x2 w =>
 Ke P (Instr.loadAt 28 t8x5) t59 w <|
 Bs P 31 3 [(0, t60), (1, t61x1), (2, t62x2)] w fun t63x3 w =>
 Ke P (Instr.loadAt 28 t8x5) t59 w <|
 Cl P 24 #[t59, t63x3] w (Pk R) fun t64x4 w =>
 ExP t64x4 0 fun t65x4 =>
 ExP t64x4 1 fun t66x4 =>
 ExP t64x4 2 fun t67x4 =>
 Sto P 28 t11x4 t65x4 w fun w =>
 k2 t11x4 t66x4 t67x4 w)) ∧
 (Al P 28 w.drew fun t11x5 w =>
 Ke P (Instr.loadAt 28 t8x5) t59 w <|
 Cl P 33 #[(.int .i64 2), (.int .i64 200), (.int .i64 200)] w (Pk R) fun t60x1 w =>
 Ke P (Instr.loadAt 28 t8x5) t59 w <|
 Cl P 33 #[(.int .i64 3), (.int .i64 200), (.int .i64 200)] w (Pk R) fun t61x2 w =>
 Ke P (Instr.loadAt 28 t8x5) t59 w <|
 Cl P 33 #[(.int .i64 4), (.int .i64 200), (.int .i64 200)] w (Pk R) fun t62x3 w =>
 Ke P (Instr.loadAt 28 t8x5) t59 w <|
 Bs P 31 3 [(0, t60x1), (1, t61x2), (2, t62x3)] w fun t63x4 w =>
 Ke P (Instr.loadAt 28 t8x5) t59 w <|
 Cl P 24 #[t59, t63x4] w (Pk R) fun t64x5 w =>
 ExP t64x5 0 fun t65x5 =>
 ExP t64x5 1 fun t66x5 =>
 ExP t64x5 2 fun t67x5 =>
 Sto P 28 t11x5 t65x5 w fun w =>
 k2 t11x5 t66x5 t67x5 w))
 (fun t11x6 t12 t13 w =>
 s_law28_sane_2 P t11x6 t3 t33 t43 t48 t10 t13 t8x5 t9 t12 t6 w R)
def s_law28_sane_0 (P : Program) (w : World) (R : Ending → World → Prop) : Prop :=
 Cl P 30 #[(.int .i64 1), (.int .i64 10)] w (Pk R) fun t30 w =>
 Cl P 17 #[t30] w (Pk R) fun t31 w =>
 Ex t31 0 w fun t32 w =>
 Ex t31 1 w fun t33 w =>
 Al P 28 w fun t1 w =>
 Sto P 28 t1 t32 w fun w =>
 Cl P 30 #[(.int .i64 1), (.int .i64 4)] w (Pk R) fun t34 w =>
 Cl P 30 #[(.int .i64 1), (.int .i64 20)] w (Pk R) fun t35 w =>
 Cl P 30 #[(.int .i64 2), (.int .i64 1)] w (Pk R) fun t36 w =>
 Bd P 30 [(0, (.int .i64 1)), (1, (.int .i64 2)), (2, (.int .i64 100)), (3, t34), (4, t35), (5, t36), (6, (.int .i64 (-1)))] w fun t37 w =>
 Al P 30 w fun t3 w =>
 Sto P 30 t3 t37 w fun w =>
 Ld P 28 t1 w fun t39 w =>
 Ld P 30 t3 w fun t40 w =>
 Cl P 22 #[t39, t40] w (Pk R) fun t41 w =>
 Ex t41 0 w fun t42 w =>
 Ex t41 1 w fun t43 w =>
 Al P 28 w fun t4 w =>
 Sto P 28 t4 t42 w fun w =>
 Ld P 28 t4 w fun t45 w =>
 Cl P 19 #[t45] w (Pk R) fun t46 w =>
 Ex t46 0 w fun t47 w =>
 Ex t46 1 w fun t48 w =>
 Al P 25 w fun t6 w =>
 Sto P 25 t6 t47 w fun w =>
 Jn3 (fun k1 =>
 Dv P false (Instr.loadAt 28 t4) w.drew fun t50 =>
 (Cl P 33 #[(.int .i64 0), (.int .i64 101), (.int .i64 101)] w.drew (Pk R) fun t51 w =>
 Ke P (Instr.loadAt 28 t4) t50 w <|
 (Cl P 33 #[(.int .i64 1), (.int .i64 90), (.int .i64 110)] w (Pk R) fun t52 w =>
 Ke P (Instr.loadAt 28 t4) t50 w <|
 (Bs P 31 2 [(0, t51), (1, t52)] w fun t53 w =>
 Ke P (Instr.loadAt 28 t4) t50 w <|
 (Cl P 24 #[t50, t53] w (Pk R) fun t54 w =>
 ExP t54 0 fun t55 =>
 ExP t54 1 fun t56 =>
 ExP t54 2 fun t57 =>
 Al P 28 w fun t8 w =>
 Ke P (Instr.loadAt 28 t4) t50 w <|
 Sto P 28 t8 t55 w fun w =>
 k1 t8 t56 t57 w) ∧
 (Al P 28 w fun t8x1 w =>
 Ke P (Instr.loadAt 28 t4) t50 w <|
 Cl P 24 #[t50, t53] w (Pk R) fun t54x1 w =>
 ExP t54x1 0 fun t55x1 =>
 ExP t54x1 1 fun t56x1 =>
 ExP t54x1 2 fun t57x1 =>
 Sto P 28 t8x1 t55x1 w fun w =>
 k1 t8x1 t56x1 t57x1 w)) ∧
 (Al P 28 w fun t8x2 w =>
 Ke P (Instr.loadAt 28 t4) t50 w <|
 Bs P 31 2 [(0, t51), (1, t52)] w fun t53x1 w =>
 Ke P (Instr.loadAt 28 t4) t50 w <|
 Cl P 24 #[t50, t53x1] w (Pk R) fun t54x2 w =>
 ExP t54x2 0 fun t55x2 =>
 ExP t54x2 1 fun t56x2 =>
 ExP t54x2 2 fun t57x2 =>
 Sto P 28 t8x2 t55x2 w fun w =>
 k1 t8x2 t56x2 t57x2 w)) ∧
 (Al P 28 w fun t8x3 w =>
 Ke P (Instr.loadAt 28 t4) t50 w <|
 Cl P 33 #[(.int .i64 1), (.int .i64 90), (.int .i64 110)] w (Pk R) fun t52x1 w =>
 Ke P (Instr.loadAt 28 t4) t50 w <|
 Bs P 31 2 [(0, t51), (1, t52x1)] w fun t53x2 w =>
 Ke P (Instr.loadAt 28 t4) t50 w <|
 Cl P 24 #[t50, t53x2] w (Pk R) fun t54x3 w =>
 ExP t54x3 0 fun t55x3 =>
 ExP t54x3 1 fun t56x3 =>
 ExP t54x3 2 fun t57x3 =>
 Sto P 28 t8x3 t55x3 w fun w =>
 k1 t8x3 t56x3 t57x3 w)) ∧
 (Al P 28 w.drew fun t8x4 w =>
 Ke P (Instr.loadAt 28 t4) t50 w <|
 Cl P 33 #[(.int .i64 0), (.int .i64 101), (.int .i64 101)] w (Pk R) fun t51x1 w =>
 Ke P (Instr.loadAt 28 t4) t50 w <|
 Cl P 33 #[(.int .i64 1), (.int .i64 90), (.int .i64 110)] w (Pk R) fun t52x2 w =>
 Ke P (Instr.loadAt 28 t4) t50 w <|
 Bs P 31 2 [(0, t51x1), (1, t52x2)] w fun t53x3 w =>
 Ke P (Instr.loadAt 28 t4) t50 w <|
 Cl P 24 #[t50, t53x3] w (Pk R) fun t54x4 w =>
 ExP t54x4 0 fun t55x4 =>
 ExP t54x4 1 fun t56x4 =>
 ExP t54x4 2 fun t57x4 =>
 Sto P 28 t8x4 t55x4 w fun w =>
 k1 t8x4 t56x4 t57x4 w))
 (fun t8x5 t9 t10 w =>
 s_law28_sane_1 P t8x5 t3 t33 t43 t48 t10 t9 t6 w R)
theorem u_law28_sane {w : World} {R : Ending → World → Prop} (h : s_law28_sane_0 Tryz.prog w R) : s_law28_sane Tryz.prog w R := Eq.mp (by kernel_rfl) h
end Go.Proofs.YtnkmbjedcjcccaaGreatDoor
namespace Go.Proofs.YtnkmbjedcjcccaaGreatDoor
open Go Go.Eng Go.Proofs Go.Num Go.RowKit
open Go.Alm (Ft Wt Sm VW VA dn fct obs obs1 rungs obsN fresh sumW)
set_option maxRecDepth 100000
def qq (n d : Int) : Rat := (n : Rat) / (d : Rat)
def wt0 : Wt := ⟨1, 2, 100, qq 1 4, qq 1 20, qq 2 1, -1, 0, 0, 0, false⟩
def wsB : List Wt := [⟨1, 2, 100, qq 1 4, qq 1 20, qq 2 1, -1, -1, 0, qq 1 1, false⟩]
def wsC : List Wt := [⟨1, 2, 100, qq 1 4, qq 1 20, qq 2 1, -1, 1, 2, qq 5 4, false⟩]
def wsD : List Wt := [⟨1, 2, 100, qq 1 4, qq 1 20, qq 2 1, -1, 4, 5, qq 625 32, false⟩]
def wsK : List Wt := [⟨1, 2, 100, qq 1 4, qq 1 20, qq 2 1, -1, 6, 6, qq 3125 64, true⟩]
def wsT : List Wt := [⟨1, 2, 100, qq 1 4, qq 1 20, qq 2 1, -1, 6, 6, qq 3125 64, true⟩, ⟨1, 2, 100, qq 1 4, qq 1 20, qq 2 1, 6, 6, 0, qq 1 1, false⟩]
def flC : List Ft := [ftL 0 101 101, ftL 1 90 110]
def flD : List Ft := [ftL 2 200 200, ftL 3 200 200, ftL 4 200 200]
def flK : List Ft := [ftL 5 200 200, ftL 6 200 200]
deriving instance DecidableEq for Alm.Wt
theorem ex_B : [] ++ [fresh [] wt0] = wsB := by decide +kernel
theorem ex_C : obs wsB flC = wsC := by decide +kernel
theorem ex_D : obs wsC flD = wsD := by decide +kernel
theorem ex_K : obs wsD flK = wsK := by decide +kernel
theorem ex_T : wsK ++ [fresh wsK wt0] = wsT := by decide +kernel
theorem ex_rC : rungs wsB wsC 0 = [] := by decide +kernel
theorem ex_rD : rungs wsC wsD 0 = [] := by decide +kernel
theorem ex_rK : rungs wsD wsK 0 = [0] := by decide +kernel
theorem qq_Sm {k n d : Int} (h : 0 ≤ n ∧ n ≤ k * d ∧ 0 < d ∧ d ≤ 1000) : Sm k (qq n d) := Sm.divq h.1 h.2.1 h.2.2
theorem wt0_reg : Reg wt0 := ⟨by decide, by decide, by decide, by decide, qq_Sm (by decide), qq_Sm (by decide), qq_Sm (by decide), by decide +kernel, by decide +kernel, by decide +kernel, by decide +kernel⟩
theorem ex_can0 : Can (qq 1 10) [] wt0 := ⟨by decide, by decide +kernel⟩
theorem ex_can1 : Can (qq 1 10) wsK wt0 := ⟨by decide, by decide +kernel⟩
theorem ex_can2 : ¬ Can (qq 1 10) wsT wt0 := fun h => absurd h.2 (by decide +kernel)
theorem ex_V0 : VB 0 (qq 1 10) [] := ⟨qq_Sm (by decide), by simp, by simp, (qq_Sm (by decide) : Sm 1 (qq 1 10)).ge⟩
theorem ex_VB : VB 0 (qq 1 10) wsB := by have := ex_V0.reg wt0_reg (by decide) ex_can0; rw [ex_B] at this; exact this
theorem ex_fC : VFs flC := by
 refine ⟨by decide, by decide, fun i a b ha hb => ?_⟩
 match i with
 | 0 => cases ha; cases hb; decide
 | 1 => cases hb
 | k + 2 => cases ha
theorem ex_fD : VFs flD := by
 refine ⟨by decide, by decide, fun i a b ha hb => ?_⟩
 match i with
 | 0 => cases ha; cases hb; decide
 | 1 => cases ha; cases hb; decide
 | 2 => cases hb
 | k + 3 => cases ha
theorem ex_fK : VFs flK := by
 refine ⟨by decide, by decide, fun i a b ha hb => ?_⟩
 match i with
 | 0 => cases ha; cases hb; decide
 | 1 => cases hb
 | k + 2 => cases ha
theorem ex_VC : VB 10 (qq 1 10) wsC := by have := (ex_VB.obs ex_fC).mono (m := 10) (by decide); rw [ex_C] at this; exact this
theorem ex_VD : VB 20 (qq 1 10) wsD := by have := (ex_VC.obs ex_fD).mono (m := 20) (by decide); rw [ex_D] at this; exact this
theorem ex_VK : VB 30 (qq 1 10) wsK := by have := (ex_VD.obs ex_fK).mono (m := 30) (by decide); rw [ex_K] at this; exact this
theorem ex_VT : VB 30 (qq 1 10) wsT := by have := ex_VK.reg wt0_reg (by decide) ex_can1; rw [ex_T] at this; exact this
theorem ex_left : qq 1 10 - sumW Alm.al wsB = qq 1 20 := by decide +kernel
theorem vfs_fi {fl : List Ft} (h : VFs fl) : ∀ f ∈ fl, FI f := fun f hf => (h.2.1 f hf).fi
def flR : List Ft := [ftL 0 101 101, ftL 1 90 110, ftL 2 5 6]
theorem ex_fR : VFs flR := by
 refine ⟨by decide, by decide, fun i a b ha hb => ?_⟩
 match i with
 | 0 => cases ha; cases hb; decide
 | 1 => cases ha; cases hb; decide
 | 2 => cases hb
 | k + 3 => cases ha
theorem ex_rate : rateO flR 1 2 100 = .tuple #[.int .i64 1, .int .i64 2, .int .i64 3, .int .i64 0] := by
 unfold rateO
 rw [okF_t ex_fR]
 rfl
theorem ak_of {n : Int} {B : Rat} {ws : List Wt} (h : VB n B ws) (hn : n ≤ 1000000) {w : World} {v : Value} (hv : SlC w 15 v ws.length ((ws.map wr).flatMap fW)) : Ak w (tx B) v (ws.map wr) := h.ak (by omega) hv
section
variable {w0 : World} {R : Ending → World → Prop} (hE : En w0) (hR : ∀ W, Ext w0 W → R (.returned (.bool true)) W)
include hE hR
set_option maxHeartbeats 16000000 in
theorem sane_6 {gk gt gd gl : Nat} {ka ta da ra : Option Addr} {kb kc tb tc db dc rb rc : Nat} (bk : Blk w0 gk tAl [str (tx (qq 1 10)).1, str (tx (qq 1 10)).2, .slice ka kb kc]) (sk : SlC w0 15 (.slice ka kb kc) 1 ((wsK.map wr).flatMap fW)) (sr : SlC w0 1 (.slice ra rb rc) 1 (([0] : List Nat).flatMap fN))
 (bt : Blk w0 gt tAl [str (tx (qq 1 10)).1, str (tx (qq 1 10)).2, .slice ta tb tc]) (st : SlC w0 15 (.slice ta tb tc) 2 ((wsT.map wr).flatMap fW)) (bd : Blk w0 gd tAl [str (tx (qq 1 10)).1, str (tx (qq 1 10)).2, .slice da db dc]) (sd : SlC w0 15 (.slice da db dc) 1 ((wsD.map wr).flatMap fW)) (bl : Blk w0 gl tR (fR (tx (qq 1 20)))) :
 s_law28_sane_6 Tryz.prog (vC 1 2 100 (tx (qq 1 4)) (tx (qq 1 20)) (tx (qq 2 1)) (-1) 6 6 (tx (qq 3125 64)) true) (.bool true) (.slice ra rb rc) (pr gl 0) (pr gt 0) (pr gk 0) (pr gd 0) w0 R := by
 have ccq3 : ∀ {W : World}, Ext w0 W → Calls Tryz.prog 30 #[.int .i64 1, .int .i64 20] W (Ret fun r w' => Ext W w' ∧ r = vR (tx (qq 1 20))) := fun {W} e => c_of (w := W) (hE.hT.ext e) (by decide) (by decide) (by decide)
 have ccf0 := fun {W : World} (_ : Ext w0 W) => c_fact (w0 := W) (t := 0) (lo := 101) (hi := 101) (by decide)
 have ccf1 := fun {W : World} (_ : Ext w0 W) => c_fact (w0 := W) (t := 1) (lo := 90) (hi := 110) (by decide)
 have ccf2 := fun {W : World} (_ : Ext w0 W) => c_fact (w0 := W) (t := 2) (lo := 5) (hi := 6) (by decide)
 have ccv := fun {W : World} (e : Ext w0 W) => c_ValB (w0 := W) (ws := wsK) ex_VK (by decide) (sk.ext e) (hE.ext e)
 have hK := fun {W : World} (e : Ext w0 W) => ak_of ex_VK (by decide) (sk.ext e)
 have hD := fun {W : World} (e : Ext w0 W) => ak_of ex_VD (by decide) (sd.ext e)
 have ccs : ∀ {W : World}, Ext w0 W → Calls Tryz.prog 15 #[vA (tx (qq 1 10)) (.slice ka kb kc), vA (tx (qq 1 10)) (.slice ka kb kc)] W (Ret fun r w' => Ext W w' ∧ r = .bool true) := fun {W} e => by
  have := c_aSame (hK e) (hK e)
  rw [smA_t] at this
  exact this
 have ccd : ∀ {W : World}, Ext w0 W → Calls Tryz.prog 15 #[vA (tx (qq 1 10)) (.slice ka kb kc), vA (tx (qq 1 10)) (.slice da db dc)] W (Ret fun r w' => Ext W w' ∧ r = .bool false) := fun {W} e => by
  have := c_aSame (hK e) (hD e)
  rw [smA_f fun h => absurd (wrs_inj h.2) (by decide +kernel)] at this
  exact this
 have cce : ∀ {W : World}, Ext w0 W → Calls Tryz.prog 13 #[.agg #[str [], str [], .slice none 0 0]] W (Ret fun r w' => Ext W w' ∧ r = .bool false) := fun {W} e => by
  have := c_aValid (w0 := W) (p := ([], [])) (v := .slice none 0 0) (l := []) (hE.ext e) (ak_nil ⟨Nat.zero_le _, Nat.zero_le _⟩)
  rw [okA_f fun ⟨B, ws, e1, _⟩ => itoa_ne' (B.den : Int) (congrArg Prod.snd e1).symm] at this
  exact this
 clear hK hD
 unfold s_law28_sane_6
 have h := Hp.init [] w0
 refine alS h fun g1 w h => ?_
 refine stA h 0 rfl rfl rfl rfl fun w h => ?_
 refine cl1 h n_law28_fact (ccf0 h.ext) fun w h => ?_
 refine cl1 h n_law28_fact (ccf1 h.ext) fun w h => ?_
 refine cl1 h n_law28_fact (ccf2 h.ext) fun w h => ?_
 refine bsN (vs := [_, _, _]) h (.cons (by rfl) (by rfl) (.cons (by rfl) (by rfl) (.cons (by rfl) (by rfl) .nil))) (by rfl) (by rfl) (by decide) (by decide) (by decide) fun v1 w h => ?_
 dsimp only [List.set] at h
 have ccr := c_Rate (w0 := w) (l := flR) (v := v1) (op := 1) (ve := 2) (lim := 100) ⟨h.sl (i := 0) rfl, vfs_fi ex_fR, by decide⟩ (by decide) (by decide) (by decide)
 rw [ex_rate] at ccr
 refine Cl_i n_alarm_Rate ccr ?_
 rintro _ W1 ⟨x1, rfl⟩
 have h := h.x x1
 clear ccr x1 ccf0 ccf1 ccf2
 refine Ex4 ?_
 refine GdP_T ?_
 replace h := h.dr
 refine dfS (GdP_T (dl1 h 1 rfl rfl (PickP_T (GdP_T (dfS (GdP_T (dl1 h 1 rfl rfl (GdP_T (Dv_eqT (by omega) (PickP_T (GdP_T (dfS (GdP_T (dl1 h 1 rfl rfl (GdP_T (Dv_eqT (by omega) (PickP_T (GdP_T (Gd_T (bs1A h (by rfl) (by decide) (by rfl) (by decide) fun v2 w h => ?_))))))))))))))))))))
 refine Gd_T ?_
 have cci := c_ints (xs := [0]) (ys := [0]) (sr.hp h) (qZ 0 h rfl) (by decide) (by decide) (by decide) (by decide)
 rw [decide_eq_true (show ([0] : List Nat) = [0] from rfl)] at cci
 refine Cl_i n_law28_ints cci ?_
 rintro _ W1 ⟨x1, rfl⟩
 have h := h.x x1
 clear x1 cci
 have s2 : Seg ((wsT.map wr).flatMap fW) (1 * 15) (cW 1 2 100 (tx (qq 1 4)) (tx (qq 1 20)) (tx (qq 2 1)) 6 6 0 (tx (qq 1 1)) false) := flat_seg (f := fW) (fun _ => rfl) (l := wsT.map wr) (a := wr ⟨1, 2, 100, qq 1 4, qq 1 20, qq 2 1, 6, 6, 0, qq 1 1, false⟩) rfl
 refine PickP_T (GdP_T (dgA h ‹_› (by rfl) ?_))
 refine Gd_T (cl1 h n_law28_of (ccq3 h.ext) fun w h => ?_)
 refine Kg_T ?_
 refine kgA h ‹_› (by rfl) ?_
 refine GdP_T (dqEqS ?_)
 refine PickP_T (GdP_T (dfS (GdP_T (dg1 h ‹_› (by rfl) ?_))))
 refine GdP_T (diHz h ‹_› (by omega) (by omega) fun zb zo zk zv zc => ?_)
 refine GdP_T (dfS (GdP_T (dh1 h ‹_› ‹_› (by rfl) ?_)))
 refine GdP_T (Dv_eqT (by omega) (PickP_T (GdP_T (dgA h ‹_› (by rfl) ?_))))
 refine Gd_T (cl1 h n_alarm_Valid (ccv h.ext) fun w h => ?_)
 refine PickP_T (GdP_T (dbS PC.nil (by rfl) ?_))
 refine Gd_T (cl1 h n_alarm_Valid (cce h.ext) fun w h => ?_)
 refine GdP_T (Dv_nF (PickP_T (GdP_T (dgA h ‹_› (by rfl) ?_))))
 refine GdP_T (dgA h ‹_› (by rfl) ?_)
 refine Gd_T (cl1 h n_alarm_Same (ccs h.ext) fun w h => ?_)
 refine PickP_T (GdP_T (dgA h ‹_› (by rfl) ?_))
 refine GdP_T (dgA h ‹_› (by rfl) ?_)
 refine Gd_T (cl1 h n_alarm_Same (ccd h.ext) fun w h => ?_)
 refine GdP_T (Dv_nF (PickP_T (GdP_T (GdP_T (Dv_eqT (by omega) (PickP_T (GdP_T (GdP_T (Dv_eqT (by omega) (PickP_T (GdP_T (GdP_T (Dv_eqT (by omega) (PickP_T (GdP_T (GdP_T (Dv_eqT (by omega) (PickP_T ?_))))))))))))))))))
 exact hR _ h.ext
set_option maxHeartbeats 16000000 in
theorem sane_5 {gc gk gt gd gl : Nat} {ca ka ta da ra : Option Addr} {cb cc kb kc tb tc db dc rb rc : Nat} (bc : Blk w0 gc tAl [str (tx (qq 1 10)).1, str (tx (qq 1 10)).2, .slice ca cb cc]) (sc : SlC w0 15 (.slice ca cb cc) 1 ((wsC.map wr).flatMap fW)) (bk : Blk w0 gk tAl [str (tx (qq 1 10)).1, str (tx (qq 1 10)).2, .slice ka kb kc]) (sk : SlC w0 15 (.slice ka kb kc) 1 ((wsK.map wr).flatMap fW)) (sr : SlC w0 1 (.slice ra rb rc) 1 (([0] : List Nat).flatMap fN))
 (bt : Blk w0 gt tAl [str (tx (qq 1 10)).1, str (tx (qq 1 10)).2, .slice ta tb tc]) (st : SlC w0 15 (.slice ta tb tc) 2 ((wsT.map wr).flatMap fW)) (bd : Blk w0 gd tAl [str (tx (qq 1 10)).1, str (tx (qq 1 10)).2, .slice da db dc]) (sd : SlC w0 15 (.slice da db dc) 1 ((wsD.map wr).flatMap fW)) (bl : Blk w0 gl tR (fR (tx (qq 1 20)))) :
 s_law28_sane_5 Tryz.prog (.bool false) (pr gc 0) (pr gd 0) (pr gk 0) (.slice ra rb rc) (pr gl 0) (pr gt 0) w0 R := by
 have ccq1 : ∀ {W : World}, Ext w0 W → Calls Tryz.prog 30 #[.int .i64 5, .int .i64 4] W (Ret fun r w' => Ext W w' ∧ r = vR (tx (qq 5 4))) := fun {W} e => c_of (w := W) (hE.hT.ext e) (by decide) (by decide) (by decide)
 have ccq2 : ∀ {W : World}, Ext w0 W → Calls Tryz.prog 30 #[.int .i64 625, .int .i64 32] W (Ret fun r w' => Ext W w' ∧ r = vR (tx (qq 625 32))) := fun {W} e => c_of (w := W) (hE.hT.ext e) (by decide) (by decide) (by decide)
 have ccq3 : ∀ {W : World}, Ext w0 W → Calls Tryz.prog 30 #[.int .i64 3125, .int .i64 64] W (Ret fun r w' => Ext W w' ∧ r = vR (tx (qq 3125 64))) := fun {W} e => c_of (w := W) (hE.hT.ext e) (by decide) (by decide) (by decide)
 have s1 : Seg ((wsC.map wr).flatMap fW) (0 * 15) (cW 1 2 100 (tx (qq 1 4)) (tx (qq 1 20)) (tx (qq 2 1)) (-1) 1 2 (tx (qq 5 4)) false) := flat_seg (f := fW) (fun _ => rfl) (l := wsC.map wr) (a := wr ⟨1, 2, 100, qq 1 4, qq 1 20, qq 2 1, -1, 1, 2, qq 5 4, false⟩) rfl
 have s2 : Seg ((wsD.map wr).flatMap fW) (0 * 15) (cW 1 2 100 (tx (qq 1 4)) (tx (qq 1 20)) (tx (qq 2 1)) (-1) 4 5 (tx (qq 625 32)) false) := flat_seg (f := fW) (fun _ => rfl) (l := wsD.map wr) (a := wr ⟨1, 2, 100, qq 1 4, qq 1 20, qq 2 1, -1, 4, 5, qq 625 32, false⟩) rfl
 have s3 : Seg ((wsK.map wr).flatMap fW) (0 * 15) (cW 1 2 100 (tx (qq 1 4)) (tx (qq 1 20)) (tx (qq 2 1)) (-1) 6 6 (tx (qq 3125 64)) true) := flat_seg (f := fW) (fun _ => rfl) (l := wsK.map wr) (a := wr ⟨1, 2, 100, qq 1 4, qq 1 20, qq 2 1, -1, 6, 6, qq 3125 64, true⟩) rfl
 unfold s_law28_sane_5
 have h := Hp.init [] w0
 refine If_F ?_
 replace h := h.dr
 refine dfS (dg1 h ‹_› (by rfl) ?_)
 refine diHz h ‹_› (by omega) (by omega) fun zb zo zk zv zc => ?_
 refine dfS (dhP h ‹_› ‹_› (by rfl) ?_)
 refine cl1 h n_law28_of (ccq1 h.ext) fun w h => ?_
 refine kg1 h ‹_› (by rfl) ?_
 refine khP h ‹_› ‹_› (by rfl) ?_
 refine dqEqS ?_
 refine GdP_T (dfS (GdP_T (dg1 h ‹_› (by rfl) ?_)))
 refine GdP_T (diHz h ‹_› (by omega) (by omega) fun zb zo zk zv zc => ?_)
 refine GdP_T (dfS (GdP_T (dhP h ‹_› ‹_› (by rfl) ?_)))
 refine Gd_T (cl1 h n_law28_of (ccq2 h.ext) fun w h => ?_)
 refine Kg_T ?_
 refine kg1 h ‹_› (by rfl) ?_
 refine Kg_T ?_
 refine khP h ‹_› ‹_› (by rfl) ?_
 refine GdP_T (dqEqS ?_)
 refine PickP_T (GdP_T (dfS (GdP_T (dg1 h ‹_› (by rfl) ?_))))
 refine GdP_T (diHz h ‹_› (by omega) (by omega) fun zb zo zk zv zc => ?_)
 refine GdP_T (dfS (GdP_T (dhP h ‹_› ‹_› (by rfl) ?_)))
 refine Gd_T (cl1 h n_law28_of (ccq3 h.ext) fun w h => ?_)
 refine Kg_T ?_
 refine kg1 h ‹_› (by rfl) ?_
 refine Kg_T ?_
 refine khP h ‹_› ‹_› (by rfl) ?_
 refine GdP_T (dqEqS ?_)
 refine PickP_T (faS (lg1 h ‹_› (by rfl) ?_))
 refine iaHz h ‹_› (by omega) (by omega) fun zb zo zk zv zc => ?_
 refine lhA h ‹_› ‹_› (by rfl) ?_
 exact sane_6 (hE.ext h.ext) (fun W e => hR W (h.ext.tr e)) (bk.ext h.ext) (sk.ext h.ext) (sr.ext h.ext) (bt.ext h.ext) (st.ext h.ext) (bd.ext h.ext) (sd.ext h.ext) (bl.ext h.ext)
set_option maxHeartbeats 16000000 in
theorem sane_4 {gc gk gt gd gl : Nat} {ca ka ta da ra xa ya : Option Addr} {cb cc kb kc tb tc db dc rb rc xb xc yb yc : Nat} (bc : Blk w0 gc tAl [str (tx (qq 1 10)).1, str (tx (qq 1 10)).2, .slice ca cb cc]) (sc : SlC w0 15 (.slice ca cb cc) 1 ((wsC.map wr).flatMap fW)) (bk : Blk w0 gk tAl [str (tx (qq 1 10)).1, str (tx (qq 1 10)).2, .slice ka kb kc]) (sk : SlC w0 15 (.slice ka kb kc) 1 ((wsK.map wr).flatMap fW)) (sr : SlC w0 1 (.slice ra rb rc) 1 (([0] : List Nat).flatMap fN))
 (bt : Blk w0 gt tAl [str (tx (qq 1 10)).1, str (tx (qq 1 10)).2, .slice ta tb tc]) (st : SlC w0 15 (.slice ta tb tc) 2 ((wsT.map wr).flatMap fW)) (bd : Blk w0 gd tAl [str (tx (qq 1 10)).1, str (tx (qq 1 10)).2, .slice da db dc]) (sd : SlC w0 15 (.slice da db dc) 1 ((wsD.map wr).flatMap fW)) (bl : Blk w0 gl tR (fR (tx (qq 1 20)))) (sx : SlC w0 1 (.slice xa xb xc) 0 []) (sy : SlC w0 1 (.slice ya yb yc) 0 []) :
 s_law28_sane_4 Tryz.prog (.bool false) (pr gc 0) (pr gd 0) (pr gk 0) (pr gt 0) (.slice xa xb xc) (.slice ya yb yc) (.slice ra rb rc) (pr gl 0) w0 R := by
 unfold s_law28_sane_4
 have h := Hp.init [] w0
 refine If_F (faS (lg1 h ‹_› (by rfl) ?_))
 refine leS (sc.hp h) ?_
 refine Bn_neF (by omega) (Gd_F (faS (Gd_F (lg1 h ‹_› (by rfl) ?_))))
 refine Gd_F (leS (sd.hp h) ?_)
 refine Gd_F (Bn_neF (by omega) (Pick_F (Gd_F (faS (Gd_F (lg1 h ‹_› (by rfl) ?_))))))
 refine Gd_F (leS (sk.hp h) ?_)
 refine Gd_F (Bn_neF (by omega) (Pick_F (Gd_F (faS (Gd_F (lg1 h ‹_› (by rfl) ?_))))))
 refine Gd_F (leS (st.hp h) ?_)
 refine Gd_F (Bn_neF (by omega) (Pick_F (Gd_F (Gd_F (leS (sx.hp h) ?_)))))
 refine Gd_F (Bn_gtF (by omega) (Pick_F (Gd_F (Gd_F (leS (sy.hp h) ?_)))))
 refine Gd_F (Bn_gtF (by omega) (Pick_F ?_))
 exact sane_5 (hE.ext h.ext) (fun W e => hR W (h.ext.tr e)) (bc.ext h.ext) (sc.ext h.ext) (bk.ext h.ext) (sk.ext h.ext) (sr.ext h.ext) (bt.ext h.ext) (st.ext h.ext) (bd.ext h.ext) (sd.ext h.ext) (bl.ext h.ext)
set_option maxHeartbeats 16000000 in
theorem sane_3 {gw : Nat} {gc gk gd gl : Nat} {ca ka da ra xa ya : Option Addr} {cb cc kb kc db dc rb rc xb xc yb yc : Nat} (bc : Blk w0 gc tAl [str (tx (qq 1 10)).1, str (tx (qq 1 10)).2, .slice ca cb cc]) (sc : SlC w0 15 (.slice ca cb cc) 1 ((wsC.map wr).flatMap fW)) (bk : Blk w0 gk tAl [str (tx (qq 1 10)).1, str (tx (qq 1 10)).2, .slice ka kb kc]) (sk : SlC w0 15 (.slice ka kb kc) 1 ((wsK.map wr).flatMap fW)) (sr : SlC w0 1 (.slice ra rb rc) 1 (([0] : List Nat).flatMap fN))
 (bd : Blk w0 gd tAl [str (tx (qq 1 10)).1, str (tx (qq 1 10)).2, .slice da db dc]) (sd : SlC w0 15 (.slice da db dc) 1 ((wsD.map wr).flatMap fW)) (bl : Blk w0 gl tR (fR (tx (qq 1 20)))) (sx : SlC w0 1 (.slice xa xb xc) 0 []) (sy : SlC w0 1 (.slice ya yb yc) 0 []) (bw : Blk w0 gw tWc [.int .i64 1, .int .i64 2, .int .i64 100, str (tx (qq 1 4)).1, str (tx (qq 1 4)).2, str (tx (qq 1 20)).1, str (tx (qq 1 20)).2, str (tx (qq 2 1)).1, str (tx (qq 2 1)).2, .int .i64 (-1), .int .i64 0, .int .i64 0, str [], str [], .bool false]) :
 s_law28_sane_3 Tryz.prog (pr gk 0) (pr gw 0) (.int .i64 0) (.int .i64 0) (.int .i64 0) (.int .i64 0) (.int .i64 0) (.int .i64 0) (pr gc 0) (pr gd 0) (.slice xa xb xc) (.slice ya yb yc) (.slice ra rb rc) (pr gl 0) w0 R := by
 have ccq1 : ∀ {W : World}, Ext w0 W → Calls Tryz.prog 30 #[.int .i64 3, .int .i64 2] W (Ret fun r w' => Ext W w' ∧ r = vR (tx (qq 3 2))) := fun {W} e => c_of (w := W) (hE.hT.ext e) (by decide) (by decide) (by decide)
 have hk32 : RSk (tx (qq 3 2)) := by
  have h := Sm.rb (qq_Sm (by decide) : Sm 1000 (qq 3 2)) (.inr rfl)
  exact ⟨itoa_ok h.n, itoa_ok h.d⟩
 have cco : ∀ {W : World}, Ext w0 W → Calls Tryz.prog 17 #[vR (tx (qq 3 2))] W (Ret fun r w' => Ext W w' ∧ r = .tuple #[vA ([], []) (.slice none 0 0), .int .i64 280]) := fun {W} e => by
  have := c_Open (w0 := W) (hE.ext e) hk32
  rw [okA_f fun ⟨B, ws, e1, _, h⟩ => absurd (tx_inj e1 ▸ h.b.le : qq 3 2 ≤ ((1 : Int) : Rat)) (by decide +kernel)] at this
  exact this
 unfold s_law28_sane_3
 have h := Hp.init [] w0
 refine lgA h ‹_› (by rfl) ?_
 refine lgA h ‹_› (by rfl) ?_
 refine Cl_i n_alarm_Register (c_RegK (w := wt0) (ws := wsK) ex_VK (by decide) (sk.ext h.ext) wt0_reg (hE.ext h.ext) ex_can1) ?_
 rintro _ W1 ⟨a, b, c, rfl, h1⟩
 rw [ex_T] at h1
 have h := h.cat1 h1 ro_sm
 clear h1
 refine Ex2 (alS h fun g1 w h => ?_)
 refine stA h 0 rfl rfl rfl rfl fun w h => ?_
 refine ldA h 0 rfl rfl ?_
 refine lgA h ‹_› (by rfl) ?_
 dsimp only [List.set] at h
 have ccr := c_RegF (w0 := w) (w := wt0) (ws := wsT) ex_VT (by decide) (qZ 1 h rfl) wt0_reg (hE.ext h.ext) ex_can2
 refine Cl_i n_alarm_Register ccr ?_
 rintro _ W1 ⟨x1, rfl⟩
 have h := h.x x1
 clear ccr x1
 refine Ex2 (alS h fun g2 w h => ?_)
 refine stA h 0 rfl rfl rfl rfl fun w h => ?_
 refine cl1 h n_law28_of (ccq1 h.ext) fun w h => ?_
 refine cl1 h n_alarm_Open (cco h.ext) fun w h => ?_
 refine Ex2 (alS h fun g3 w h => ?_)
 refine stA h 0 rfl rfl rfl rfl fun w h => ?_
 refine Bn_neF (by omega) (Gd_F (Gd_F (Bn_neF (by omega) (Pick_F (Gd_F (Gd_F (Bn_neF (by omega) (Pick_F (Gd_F (Gd_F (Bn_neF (by omega) (Pick_F (Gd_F (Gd_F (Bn_neF (by omega) (Pick_F (Gd_F (Gd_F (Bn_neF (by omega) (Pick_F (Gd_F (Gd_F (Bn_neF (by omega) (Pick_F (Gd_F (Gd_F (Bn_neF (by omega) (Pick_F (Gd_F (Gd_F (Bn_neF (by omega) (Pick_F ?_))))))))))))))))))))))))))))))))
 dsimp only [List.set] at h
 exact sane_4 (hE.ext h.ext) (fun W e => hR W (h.ext.tr e)) (bc.ext h.ext) (sc.ext h.ext) (bk.ext h.ext) (sk.ext h.ext) (sr.ext h.ext) (h.get (i := 2) rfl) (qZ 3 h rfl) (bd.ext h.ext) (sd.ext h.ext) (bl.ext h.ext) (sx.ext h.ext) (sy.ext h.ext)
set_option maxHeartbeats 16000000 in
theorem sane_2 {gl gw gc gd : Nat} {ca da xa ya : Option Addr} {cb cc db dc xb xc yb yc : Nat} (bc : Blk w0 gc tAl [str (tx (qq 1 10)).1, str (tx (qq 1 10)).2, .slice ca cb cc]) (sc : SlC w0 15 (.slice ca cb cc) 1 ((wsC.map wr).flatMap fW)) (bd : Blk w0 gd tAl [str (tx (qq 1 10)).1, str (tx (qq 1 10)).2, .slice da db dc]) (sd : SlC w0 15 (.slice da db dc) 1 ((wsD.map wr).flatMap fW)) (sx : SlC w0 1 (.slice xa xb xc) 0 []) (sy : SlC w0 1 (.slice ya yb yc) 0 []) (bl : Blk w0 gl tR (fR (tx (qq 1 20)))) (bw : Blk w0 gw tWc [.int .i64 1, .int .i64 2, .int .i64 100, str (tx (qq 1 4)).1, str (tx (qq 1 4)).2, str (tx (qq 1 20)).1, str (tx (qq 1 20)).2, str (tx (qq 2 1)).1, str (tx (qq 2 1)).2, .int .i64 (-1), .int .i64 0, .int .i64 0, str [], str [], .bool false]) :
 s_law28_sane_2 Tryz.prog (pr gd 0) (pr gw 0) (.int .i64 0) (.int .i64 0) (.int .i64 0) (.int .i64 0) (.int .i64 0) (pr gc 0) (.slice xa xb xc) (.slice ya yb yc) (pr gl 0) w0 R := by
 have ccf0 := fun {W : World} (_ : Ext w0 W) => c_fact (w0 := W) (t := 5) (lo := 200) (hi := 200) (by decide)
 have ccf1 := fun {W : World} (_ : Ext w0 W) => c_fact (w0 := W) (t := 6) (lo := 200) (hi := 200) (by decide)
 unfold s_law28_sane_2
 have h := Hp.init [] w0
 refine Jn3.mk fun K lf => ?_
 have lf1 : ∀ {W : World} {g : Nat} {a a' : Option Addr} {b c b' c' : Nat}, Hp [] w0 W [bx g tAl [str (tx (qq 1 10)).1, str (tx (qq 1 10)).2, .slice a b c], ro tWc 15 (.slice a b c) wsK.length ((wsK.map wr).flatMap fW), ro 3 1 (.slice a' b' c') ([0] : List Nat).length (([0] : List Nat).flatMap fN)] → K (pr g 0) (.slice a' b' c') (.int .i64 0) W := fun {W} {g} {a} {a'} {b} {c} {b'} {c'} h => lf _ _ _ W (by
  exact sane_3 (hE.ext h.ext) (fun W e => hR W (h.ext.tr e)) (bc.ext h.ext) (sc.ext h.ext) (h.get (i := 0) rfl) (qZ 1 h rfl) (qZ 2 h rfl) (bd.ext h.ext) (sd.ext h.ext) (bl.ext h.ext) (sx.ext h.ext) (sy.ext h.ext) (bw.ext h.ext))
 clear lf
 replace h := h.dr
 refine dgA h ‹_› (by rfl) ?_
 refine ⟨?_, ?_⟩
 refine cl1 h n_law28_fact (ccf0 h.ext) fun w h => ?_
 refine kgA h ‹_› (by rfl) ?_
 refine ⟨?_, ?_⟩
 refine cl1 h n_law28_fact (ccf1 h.ext) fun w h => ?_
 refine kgA h ‹_› (by rfl) ?_
 refine ⟨?_, ?_⟩
 refine bsN (vs := [_, _]) h (.cons (by rfl) (by rfl) (.cons (by rfl) (by rfl) .nil)) (by rfl) (by rfl) (by decide) (by decide) (by decide) fun v1 w h => ?_
 refine kgA h ‹_› (by rfl) ?_
 refine ⟨?_, ?_⟩
 ·refine Cl_i n_alarm_Observe (c_ObsK ex_VD (by decide) (sd.ext h.ext) (hE.ext h.ext) ⟨by first | exact h.sl (i := 0) rfl | exact h.sl (i := 1) rfl | exact h.sl (i := 2) rfl, vfs_fi ex_fK, by decide⟩ ex_fK (by decide)) ?_
  rintro _ W1 ⟨a, b, c, a', b', c', rfl, h1⟩
  rw [ex_K, ex_rK] at h1
  have h := h.cat2 h1 ro_sm ro_sm
  clear h1
  refine ExP3x (alS h fun g1 w h => ?_)
  refine kgA h ‹_› (by rfl) ?_
  refine stA h 0 rfl rfl rfl rfl fun w h => ?_
  exact lf1 (h.pick [0, 1, 2] (by decide) rfl)
 ·refine alS h fun g1 w h => ?_
  refine kgA h ‹_› (by rfl) ?_
  refine Cl_i n_alarm_Observe (c_ObsK ex_VD (by decide) (sd.ext h.ext) (hE.ext h.ext) ⟨by first | exact h.sl (i := 0) rfl | exact h.sl (i := 1) rfl | exact h.sl (i := 2) rfl, vfs_fi ex_fK, by decide⟩ ex_fK (by decide)) ?_
  rintro _ W1 ⟨a, b, c, a', b', c', rfl, h1⟩
  rw [ex_K, ex_rK] at h1
  have h := h.cat2 h1 ro_sm ro_sm
  clear h1
  refine ExP3x (stA h 2 rfl rfl rfl rfl fun w h => ?_)
  exact lf1 (h.pick [2, 0, 1] (by decide) rfl)
 ·refine alS h fun g1 w h => ?_
  refine kgA h ‹_› (by rfl) ?_
  refine bsN (vs := [_, _]) h (.cons (by rfl) (by rfl) (.cons (by rfl) (by rfl) .nil)) (by rfl) (by rfl) (by decide) (by decide) (by decide) fun v1 w h => ?_
  refine kgA h ‹_› (by rfl) ?_
  refine Cl_i n_alarm_Observe (c_ObsK ex_VD (by decide) (sd.ext h.ext) (hE.ext h.ext) ⟨by first | exact h.sl (i := 0) rfl | exact h.sl (i := 1) rfl | exact h.sl (i := 2) rfl, vfs_fi ex_fK, by decide⟩ ex_fK (by decide)) ?_
  rintro _ W1 ⟨a, b, c, a', b', c', rfl, h1⟩
  rw [ex_K, ex_rK] at h1
  have h := h.cat2 h1 ro_sm ro_sm
  clear h1
  refine ExP3x (stA h 3 rfl rfl rfl rfl fun w h => ?_)
  exact lf1 (h.pick [3, 0, 1] (by decide) rfl)
 ·refine alS h fun g1 w h => ?_
  refine kgA h ‹_› (by rfl) ?_
  refine cl1 h n_law28_fact (ccf1 h.ext) fun w h => ?_
  refine kgA h ‹_› (by rfl) ?_
  refine bsN (vs := [_, _]) h (.cons (by rfl) (by rfl) (.cons (by rfl) (by rfl) .nil)) (by rfl) (by rfl) (by decide) (by decide) (by decide) fun v1 w h => ?_
  refine kgA h ‹_› (by rfl) ?_
  refine Cl_i n_alarm_Observe (c_ObsK ex_VD (by decide) (sd.ext h.ext) (hE.ext h.ext) ⟨by first | exact h.sl (i := 0) rfl | exact h.sl (i := 1) rfl | exact h.sl (i := 2) rfl, vfs_fi ex_fK, by decide⟩ ex_fK (by decide)) ?_
  rintro _ W1 ⟨a, b, c, a', b', c', rfl, h1⟩
  rw [ex_K, ex_rK] at h1
  have h := h.cat2 h1 ro_sm ro_sm
  clear h1
  refine ExP3x (stA h 3 rfl rfl rfl rfl fun w h => ?_)
  exact lf1 (h.pick [3, 0, 1] (by decide) rfl)
 ·refine alS h fun g1 w h => ?_
  refine kgA h ‹_› (by rfl) ?_
  refine cl1 h n_law28_fact (ccf0 h.ext) fun w h => ?_
  refine kgA h ‹_› (by rfl) ?_
  refine cl1 h n_law28_fact (ccf1 h.ext) fun w h => ?_
  refine kgA h ‹_› (by rfl) ?_
  refine bsN (vs := [_, _]) h (.cons (by rfl) (by rfl) (.cons (by rfl) (by rfl) .nil)) (by rfl) (by rfl) (by decide) (by decide) (by decide) fun v1 w h => ?_
  refine kgA h ‹_› (by rfl) ?_
  refine Cl_i n_alarm_Observe (c_ObsK ex_VD (by decide) (sd.ext h.ext) (hE.ext h.ext) ⟨by first | exact h.sl (i := 0) rfl | exact h.sl (i := 1) rfl | exact h.sl (i := 2) rfl, vfs_fi ex_fK, by decide⟩ ex_fK (by decide)) ?_
  rintro _ W1 ⟨a, b, c, a', b', c', rfl, h1⟩
  rw [ex_K, ex_rK] at h1
  have h := h.cat2 h1 ro_sm ro_sm
  clear h1
  refine ExP3x (stA h 3 rfl rfl rfl rfl fun w h => ?_)
  exact lf1 (h.pick [3, 0, 1] (by decide) rfl)
set_option maxHeartbeats 16000000 in
theorem sane_1 {gl gw gc : Nat} {ca xa : Option Addr} {cb cc xb xc : Nat} (bc : Blk w0 gc tAl [str (tx (qq 1 10)).1, str (tx (qq 1 10)).2, .slice ca cb cc]) (sc : SlC w0 15 (.slice ca cb cc) 1 ((wsC.map wr).flatMap fW)) (sx : SlC w0 1 (.slice xa xb xc) 0 []) (bl : Blk w0 gl tR (fR (tx (qq 1 20)))) (bw : Blk w0 gw tWc [.int .i64 1, .int .i64 2, .int .i64 100, str (tx (qq 1 4)).1, str (tx (qq 1 4)).2, str (tx (qq 1 20)).1, str (tx (qq 1 20)).2, str (tx (qq 2 1)).1, str (tx (qq 2 1)).2, .int .i64 (-1), .int .i64 0, .int .i64 0, str [], str [], .bool false]) :
 s_law28_sane_1 Tryz.prog (pr gc 0) (pr gw 0) (.int .i64 0) (.int .i64 0) (.int .i64 0) (.int .i64 0) (.slice xa xb xc) (pr gl 0) w0 R := by
 have ccf0 := fun {W : World} (_ : Ext w0 W) => c_fact (w0 := W) (t := 2) (lo := 200) (hi := 200) (by decide)
 have ccf1 := fun {W : World} (_ : Ext w0 W) => c_fact (w0 := W) (t := 3) (lo := 200) (hi := 200) (by decide)
 have ccf2 := fun {W : World} (_ : Ext w0 W) => c_fact (w0 := W) (t := 4) (lo := 200) (hi := 200) (by decide)
 unfold s_law28_sane_1
 have h := Hp.init [] w0
 refine Jn3.mk fun K lf => ?_
 have lf1 : ∀ {W : World} {g : Nat} {a a' : Option Addr} {b c b' c' : Nat}, Hp [] w0 W [bx g tAl [str (tx (qq 1 10)).1, str (tx (qq 1 10)).2, .slice a b c], ro tWc 15 (.slice a b c) wsD.length ((wsD.map wr).flatMap fW), ro 3 1 (.slice a' b' c') ([] : List Nat).length (([] : List Nat).flatMap fN)] → K (pr g 0) (.slice a' b' c') (.int .i64 0) W := fun {W} {g} {a} {a'} {b} {c} {b'} {c'} h => lf _ _ _ W (by
  exact sane_2 (hE.ext h.ext) (fun W e => hR W (h.ext.tr e)) (bc.ext h.ext) (sc.ext h.ext) (h.get (i := 0) rfl) (qZ 1 h rfl) (sx.ext h.ext) (qZ 2 h rfl) (bl.ext h.ext) (bw.ext h.ext))
 clear lf
 replace h := h.dr
 refine dgA h ‹_› (by rfl) ?_
 refine ⟨?_, ?_⟩
 refine cl1 h n_law28_fact (ccf0 h.ext) fun w h => ?_
 refine kgA h ‹_› (by rfl) ?_
 refine ⟨?_, ?_⟩
 refine cl1 h n_law28_fact (ccf1 h.ext) fun w h => ?_
 refine kgA h ‹_› (by rfl) ?_
 refine ⟨?_, ?_⟩
 refine cl1 h n_law28_fact (ccf2 h.ext) fun w h => ?_
 refine kgA h ‹_› (by rfl) ?_
 refine ⟨?_, ?_⟩
 refine bsN (vs := [_, _, _]) h (.cons (by rfl) (by rfl) (.cons (by rfl) (by rfl) (.cons (by rfl) (by rfl) .nil))) (by rfl) (by rfl) (by decide) (by decide) (by decide) fun v1 w h => ?_
 refine kgA h ‹_› (by rfl) ?_
 refine ⟨?_, ?_⟩
 ·refine Cl_i n_alarm_Observe (c_ObsK ex_VC (by decide) (sc.ext h.ext) (hE.ext h.ext) ⟨by first | exact h.sl (i := 0) rfl | exact h.sl (i := 1) rfl | exact h.sl (i := 2) rfl, vfs_fi ex_fD, by decide⟩ ex_fD (by decide)) ?_
  rintro _ W1 ⟨a, b, c, a', b', c', rfl, h1⟩
  rw [ex_D, ex_rD] at h1
  have h := h.cat2 h1 ro_sm ro_sm
  clear h1
  refine ExP3x (alS h fun g1 w h => ?_)
  refine kgA h ‹_› (by rfl) ?_
  refine stA h 0 rfl rfl rfl rfl fun w h => ?_
  exact lf1 (h.pick [0, 1, 2] (by decide) rfl)
 ·refine alS h fun g1 w h => ?_
  refine kgA h ‹_› (by rfl) ?_
  refine Cl_i n_alarm_Observe (c_ObsK ex_VC (by decide) (sc.ext h.ext) (hE.ext h.ext) ⟨by first | exact h.sl (i := 0) rfl | exact h.sl (i := 1) rfl | exact h.sl (i := 2) rfl, vfs_fi ex_fD, by decide⟩ ex_fD (by decide)) ?_
  rintro _ W1 ⟨a, b, c, a', b', c', rfl, h1⟩
  rw [ex_D, ex_rD] at h1
  have h := h.cat2 h1 ro_sm ro_sm
  clear h1
  refine ExP3x (stA h 2 rfl rfl rfl rfl fun w h => ?_)
  exact lf1 (h.pick [2, 0, 1] (by decide) rfl)
 ·refine alS h fun g1 w h => ?_
  refine kgA h ‹_› (by rfl) ?_
  refine bsN (vs := [_, _, _]) h (.cons (by rfl) (by rfl) (.cons (by rfl) (by rfl) (.cons (by rfl) (by rfl) .nil))) (by rfl) (by rfl) (by decide) (by decide) (by decide) fun v1 w h => ?_
  refine kgA h ‹_› (by rfl) ?_
  refine Cl_i n_alarm_Observe (c_ObsK ex_VC (by decide) (sc.ext h.ext) (hE.ext h.ext) ⟨by first | exact h.sl (i := 0) rfl | exact h.sl (i := 1) rfl | exact h.sl (i := 2) rfl, vfs_fi ex_fD, by decide⟩ ex_fD (by decide)) ?_
  rintro _ W1 ⟨a, b, c, a', b', c', rfl, h1⟩
  rw [ex_D, ex_rD] at h1
  have h := h.cat2 h1 ro_sm ro_sm
  clear h1
  refine ExP3x (stA h 3 rfl rfl rfl rfl fun w h => ?_)
  exact lf1 (h.pick [3, 0, 1] (by decide) rfl)
 ·refine alS h fun g1 w h => ?_
  refine kgA h ‹_› (by rfl) ?_
  refine cl1 h n_law28_fact (ccf2 h.ext) fun w h => ?_
  refine kgA h ‹_› (by rfl) ?_
  refine bsN (vs := [_, _, _]) h (.cons (by rfl) (by rfl) (.cons (by rfl) (by rfl) (.cons (by rfl) (by rfl) .nil))) (by rfl) (by rfl) (by decide) (by decide) (by decide) fun v1 w h => ?_
  refine kgA h ‹_› (by rfl) ?_
  refine Cl_i n_alarm_Observe (c_ObsK ex_VC (by decide) (sc.ext h.ext) (hE.ext h.ext) ⟨by first | exact h.sl (i := 0) rfl | exact h.sl (i := 1) rfl | exact h.sl (i := 2) rfl, vfs_fi ex_fD, by decide⟩ ex_fD (by decide)) ?_
  rintro _ W1 ⟨a, b, c, a', b', c', rfl, h1⟩
  rw [ex_D, ex_rD] at h1
  have h := h.cat2 h1 ro_sm ro_sm
  clear h1
  refine ExP3x (stA h 3 rfl rfl rfl rfl fun w h => ?_)
  exact lf1 (h.pick [3, 0, 1] (by decide) rfl)
 ·refine alS h fun g1 w h => ?_
  refine kgA h ‹_› (by rfl) ?_
  refine cl1 h n_law28_fact (ccf1 h.ext) fun w h => ?_
  refine kgA h ‹_› (by rfl) ?_
  refine cl1 h n_law28_fact (ccf2 h.ext) fun w h => ?_
  refine kgA h ‹_› (by rfl) ?_
  refine bsN (vs := [_, _, _]) h (.cons (by rfl) (by rfl) (.cons (by rfl) (by rfl) (.cons (by rfl) (by rfl) .nil))) (by rfl) (by rfl) (by decide) (by decide) (by decide) fun v1 w h => ?_
  refine kgA h ‹_› (by rfl) ?_
  refine Cl_i n_alarm_Observe (c_ObsK ex_VC (by decide) (sc.ext h.ext) (hE.ext h.ext) ⟨by first | exact h.sl (i := 0) rfl | exact h.sl (i := 1) rfl | exact h.sl (i := 2) rfl, vfs_fi ex_fD, by decide⟩ ex_fD (by decide)) ?_
  rintro _ W1 ⟨a, b, c, a', b', c', rfl, h1⟩
  rw [ex_D, ex_rD] at h1
  have h := h.cat2 h1 ro_sm ro_sm
  clear h1
  refine ExP3x (stA h 3 rfl rfl rfl rfl fun w h => ?_)
  exact lf1 (h.pick [3, 0, 1] (by decide) rfl)
 ·refine alS h fun g1 w h => ?_
  refine kgA h ‹_› (by rfl) ?_
  refine cl1 h n_law28_fact (ccf0 h.ext) fun w h => ?_
  refine kgA h ‹_› (by rfl) ?_
  refine cl1 h n_law28_fact (ccf1 h.ext) fun w h => ?_
  refine kgA h ‹_› (by rfl) ?_
  refine cl1 h n_law28_fact (ccf2 h.ext) fun w h => ?_
  refine kgA h ‹_› (by rfl) ?_
  refine bsN (vs := [_, _, _]) h (.cons (by rfl) (by rfl) (.cons (by rfl) (by rfl) (.cons (by rfl) (by rfl) .nil))) (by rfl) (by rfl) (by decide) (by decide) (by decide) fun v1 w h => ?_
  refine kgA h ‹_› (by rfl) ?_
  refine Cl_i n_alarm_Observe (c_ObsK ex_VC (by decide) (sc.ext h.ext) (hE.ext h.ext) ⟨by first | exact h.sl (i := 0) rfl | exact h.sl (i := 1) rfl | exact h.sl (i := 2) rfl, vfs_fi ex_fD, by decide⟩ ex_fD (by decide)) ?_
  rintro _ W1 ⟨a, b, c, a', b', c', rfl, h1⟩
  rw [ex_D, ex_rD] at h1
  have h := h.cat2 h1 ro_sm ro_sm
  clear h1
  refine ExP3x (stA h 3 rfl rfl rfl rfl fun w h => ?_)
  exact lf1 (h.pick [3, 0, 1] (by decide) rfl)
end
set_option maxHeartbeats 16000000 in
theorem c_sane {w0 : World} (hE : En w0) : Calls Tryz.prog 9 #[] w0 (Ret fun r w' => Ext w0 w' ∧ r = .bool true) := by
 have ccq1 : ∀ {W : World}, Ext w0 W → Calls Tryz.prog 30 #[.int .i64 1, .int .i64 10] W (Ret fun r w' => Ext W w' ∧ r = vR (tx (qq 1 10))) := fun {W} e => c_of (w := W) (hE.hT.ext e) (by decide) (by decide) (by decide)
 have ccq2 : ∀ {W : World}, Ext w0 W → Calls Tryz.prog 30 #[.int .i64 1, .int .i64 4] W (Ret fun r w' => Ext W w' ∧ r = vR (tx (qq 1 4))) := fun {W} e => c_of (w := W) (hE.hT.ext e) (by decide) (by decide) (by decide)
 have ccq3 : ∀ {W : World}, Ext w0 W → Calls Tryz.prog 30 #[.int .i64 1, .int .i64 20] W (Ret fun r w' => Ext W w' ∧ r = vR (tx (qq 1 20))) := fun {W} e => c_of (w := W) (hE.hT.ext e) (by decide) (by decide) (by decide)
 have ccq4 : ∀ {W : World}, Ext w0 W → Calls Tryz.prog 30 #[.int .i64 2, .int .i64 1] W (Ret fun r w' => Ext W w' ∧ r = vR (tx (qq 2 1))) := fun {W} e => c_of (w := W) (hE.hT.ext e) (by decide) (by decide) (by decide)
 have hk10 : RSk (tx (qq 1 10)) := by
  have h := Sm.rb (qq_Sm (by decide) : Sm 1 (qq 1 10)) (.inl rfl)
  exact ⟨itoa_ok h.n, itoa_ok h.d⟩
 have cco : ∀ {W : World}, Ext w0 W → Calls Tryz.prog 17 #[vR (tx (qq 1 10))] W (Ret fun r w' => Ext W w' ∧ r = .tuple #[vA (tx (qq 1 10)) (.slice none 0 0), .int .i64 0]) := fun {W} e => by
  have := c_Open (w0 := W) (hE.ext e) hk10
  rw [show okA (tx (qq 1 10)) [] = true from okA_t ⟨_, [], rfl, rfl, ex_V0.va (by decide)⟩] at this
  exact this
 apply e_law28_sane
 apply u_law28_sane
 unfold s_law28_sane_0
 have h := Hp.init [] w0
 refine cl1 h n_law28_of (ccq1 h.ext) fun w h => ?_
 refine cl1 h n_alarm_Open (cco h.ext) fun w h => ?_
 refine Ex2 (alS h fun g1 w h => ?_)
 refine stA h 0 rfl rfl rfl rfl fun w h => ?_
 refine cl1 h n_law28_of (ccq2 h.ext) fun w h => ?_
 refine cl1 h n_law28_of (ccq3 h.ext) fun w h => ?_
 refine cl1 h n_law28_of (ccq4 h.ext) fun w h => ?_
 refine bdS (PC.cons (by rfl) (PC.cons (by rfl) (PC.cons (by rfl) (PC.cons (by rfl) (PC.cons (by rfl) (PC.cons (by rfl) (PC.cons (by rfl) PC.nil))))))) (by rfl) ?_
 refine alS h fun g2 w h => ?_
 refine stA h 0 rfl rfl rfl rfl fun w h => ?_
 refine ldA h 1 rfl rfl ?_
 refine ldA h 0 rfl rfl ?_
 dsimp only [List.set] at h
 have h := h.nil tWc 15
 refine Cl_i n_alarm_Register (c_RegK (w := wt0) (ws := []) ex_V0 (by decide) (qZ 0 h rfl) wt0_reg (hE.ext h.ext) ex_can0) ?_
 rintro _ W1 ⟨a, b, c, rfl, h1⟩
 rw [ex_B] at h1
 have h := (h.cat1 h1 ro_sm).pick [0, 2, 3] (by decide) rfl
 clear h1 ccq1 ccq2 ccq3 ccq4 cco
 refine Ex2 (alS h fun g3 w h => ?_)
 refine stA h 0 rfl rfl rfl rfl fun w h => ?_
 refine ldA h 0 rfl rfl ?_
 dsimp only [List.set] at h
 have ccl := c_LeftB (w0 := w) (ws := wsB) ex_VB (by decide) (qZ 1 h rfl) (hE.ext h.ext)
 rw [ex_left] at ccl
 refine Cl_i n_alarm_Left ccl ?_
 rintro _ W2 ⟨x2, rfl⟩
 have h := h.x x2
 clear ccl x2
 refine Ex2 (alS h fun g4 w h => ?_)
 refine stA h 0 rfl rfl rfl rfl fun w h => ?_
 dsimp only [List.set] at h
 have e0 := h.ext
 have bb : Blk w g3 tAl [str (tx (qq 1 10)).1, str (tx (qq 1 10)).2, .slice a b c] := h.get (i := 1) rfl
 have sb : SlC w 15 (.slice a b c) 1 ((wsB.map wr).flatMap fW) := h.sl (i := 2) rfl
 have bl : Blk w g4 tR (fR (tx (qq 1 20))) := h.get (i := 0) rfl
 have bw : Blk w g2 tWc [.int .i64 1, .int .i64 2, .int .i64 100, str (tx (qq 1 4)).1, str (tx (qq 1 4)).2, str (tx (qq 1 20)).1, str (tx (qq 1 20)).2, str (tx (qq 2 1)).1, str (tx (qq 2 1)).2, .int .i64 (-1), .int .i64 0, .int .i64 0, str [], str [], .bool false] := h.get (i := 3) rfl
 clear h
 have h := Hp.init [] w
 have ccf0 := fun {W : World} (_ : Ext w W) => c_fact (w0 := W) (t := 0) (lo := 101) (hi := 101) (by decide)
 have ccf1 := fun {W : World} (_ : Ext w W) => c_fact (w0 := W) (t := 1) (lo := 90) (hi := 110) (by decide)
 refine Jn3.mk fun K lf => ?_
 have lf1 : ∀ {W : World} {g : Nat} {a a' : Option Addr} {b c b' c' : Nat}, Hp [] w W [bx g tAl [str (tx (qq 1 10)).1, str (tx (qq 1 10)).2, .slice a b c], ro tWc 15 (.slice a b c) wsC.length ((wsC.map wr).flatMap fW), ro 3 1 (.slice a' b' c') ([] : List Nat).length (([] : List Nat).flatMap fN)] → K (pr g 0) (.slice a' b' c') (.int .i64 0) W := fun {W} {g} {a} {a'} {b} {c} {b'} {c'} h => lf _ _ _ W (by
  exact sane_1 (hE.ext (e0.tr h.ext)) (fun W e => Ret.mk ⟨e0.tr (h.ext.tr e), rfl⟩) (h.get (i := 0) rfl) (qZ 1 h rfl) (qZ 2 h rfl) (bl.ext h.ext) (bw.ext h.ext))
 clear lf
 replace h := h.dr
 refine dgA h ‹_› (by rfl) ?_
 refine ⟨?_, ?_⟩
 refine cl1 h n_law28_fact (ccf0 h.ext) fun w h => ?_
 refine kgA h ‹_› (by rfl) ?_
 refine ⟨?_, ?_⟩
 refine cl1 h n_law28_fact (ccf1 h.ext) fun w h => ?_
 refine kgA h ‹_› (by rfl) ?_
 refine ⟨?_, ?_⟩
 refine bsN (vs := [_, _]) h (.cons (by rfl) (by rfl) (.cons (by rfl) (by rfl) .nil)) (by rfl) (by rfl) (by decide) (by decide) (by decide) fun v1 w h => ?_
 refine kgA h ‹_› (by rfl) ?_
 refine ⟨?_, ?_⟩
 ·refine Cl_i n_alarm_Observe (c_ObsK ex_VB (by decide) (sb.ext h.ext) (hE.ext (e0.tr h.ext)) ⟨by first | exact h.sl (i := 0) rfl | exact h.sl (i := 1) rfl | exact h.sl (i := 2) rfl, vfs_fi ex_fC, by decide⟩ ex_fC (by decide)) ?_
  rintro _ W1 ⟨a, b, c, a', b', c', rfl, h1⟩
  rw [ex_C, ex_rC] at h1
  have h := h.cat2 h1 ro_sm ro_sm
  clear h1
  refine ExP3x (alS h fun g5 w h => ?_)
  refine kgA h ‹_› (by rfl) ?_
  refine stA h 0 rfl rfl rfl rfl fun w h => ?_
  exact lf1 (h.pick [0, 1, 2] (by decide) rfl)
 ·refine alS h fun g5 w h => ?_
  refine kgA h ‹_› (by rfl) ?_
  refine Cl_i n_alarm_Observe (c_ObsK ex_VB (by decide) (sb.ext h.ext) (hE.ext (e0.tr h.ext)) ⟨by first | exact h.sl (i := 0) rfl | exact h.sl (i := 1) rfl | exact h.sl (i := 2) rfl, vfs_fi ex_fC, by decide⟩ ex_fC (by decide)) ?_
  rintro _ W1 ⟨a, b, c, a', b', c', rfl, h1⟩
  rw [ex_C, ex_rC] at h1
  have h := h.cat2 h1 ro_sm ro_sm
  clear h1
  refine ExP3x (stA h 2 rfl rfl rfl rfl fun w h => ?_)
  exact lf1 (h.pick [2, 0, 1] (by decide) rfl)
 ·refine alS h fun g5 w h => ?_
  refine kgA h ‹_› (by rfl) ?_
  refine bsN (vs := [_, _]) h (.cons (by rfl) (by rfl) (.cons (by rfl) (by rfl) .nil)) (by rfl) (by rfl) (by decide) (by decide) (by decide) fun v1 w h => ?_
  refine kgA h ‹_› (by rfl) ?_
  refine Cl_i n_alarm_Observe (c_ObsK ex_VB (by decide) (sb.ext h.ext) (hE.ext (e0.tr h.ext)) ⟨by first | exact h.sl (i := 0) rfl | exact h.sl (i := 1) rfl | exact h.sl (i := 2) rfl, vfs_fi ex_fC, by decide⟩ ex_fC (by decide)) ?_
  rintro _ W1 ⟨a, b, c, a', b', c', rfl, h1⟩
  rw [ex_C, ex_rC] at h1
  have h := h.cat2 h1 ro_sm ro_sm
  clear h1
  refine ExP3x (stA h 3 rfl rfl rfl rfl fun w h => ?_)
  exact lf1 (h.pick [3, 0, 1] (by decide) rfl)
 ·refine alS h fun g5 w h => ?_
  refine kgA h ‹_› (by rfl) ?_
  refine cl1 h n_law28_fact (ccf1 h.ext) fun w h => ?_
  refine kgA h ‹_› (by rfl) ?_
  refine bsN (vs := [_, _]) h (.cons (by rfl) (by rfl) (.cons (by rfl) (by rfl) .nil)) (by rfl) (by rfl) (by decide) (by decide) (by decide) fun v1 w h => ?_
  refine kgA h ‹_› (by rfl) ?_
  refine Cl_i n_alarm_Observe (c_ObsK ex_VB (by decide) (sb.ext h.ext) (hE.ext (e0.tr h.ext)) ⟨by first | exact h.sl (i := 0) rfl | exact h.sl (i := 1) rfl | exact h.sl (i := 2) rfl, vfs_fi ex_fC, by decide⟩ ex_fC (by decide)) ?_
  rintro _ W1 ⟨a, b, c, a', b', c', rfl, h1⟩
  rw [ex_C, ex_rC] at h1
  have h := h.cat2 h1 ro_sm ro_sm
  clear h1
  refine ExP3x (stA h 3 rfl rfl rfl rfl fun w h => ?_)
  exact lf1 (h.pick [3, 0, 1] (by decide) rfl)
 ·refine alS h fun g5 w h => ?_
  refine kgA h ‹_› (by rfl) ?_
  refine cl1 h n_law28_fact (ccf0 h.ext) fun w h => ?_
  refine kgA h ‹_› (by rfl) ?_
  refine cl1 h n_law28_fact (ccf1 h.ext) fun w h => ?_
  refine kgA h ‹_› (by rfl) ?_
  refine bsN (vs := [_, _]) h (.cons (by rfl) (by rfl) (.cons (by rfl) (by rfl) .nil)) (by rfl) (by rfl) (by decide) (by decide) (by decide) fun v1 w h => ?_
  refine kgA h ‹_› (by rfl) ?_
  refine Cl_i n_alarm_Observe (c_ObsK ex_VB (by decide) (sb.ext h.ext) (hE.ext (e0.tr h.ext)) ⟨by first | exact h.sl (i := 0) rfl | exact h.sl (i := 1) rfl | exact h.sl (i := 2) rfl, vfs_fi ex_fC, by decide⟩ ex_fC (by decide)) ?_
  rintro _ W1 ⟨a, b, c, a', b', c', rfl, h1⟩
  rw [ex_C, ex_rC] at h1
  have h := h.cat2 h1 ro_sm ro_sm
  clear h1
  refine ExP3x (stA h 3 rfl rfl rfl rfl fun w h => ?_)
  exact lf1 (h.pick [3, 0, 1] (by decide) rfl)
end Go.Proofs.YtnkmbjedcjcccaaGreatDoor
