/-
  Contracts and plain lemmas. By an AI agent.
-/
import Derived.Test.YtnkmbjedcjcccaaGreatDoorTyp
import Derived.Test.YtnkmbjedcjcccaaGreatDoorAlY
import Derived.Test.YtnkmbjedcjcccaaGreatDoorEsA
set_option linter.all false
namespace Go.Proofs.YtnkmbjedcjcccaaGreatDoor
open Tryz
open Go Go.Eng
set_option maxRecDepth 100000
def nk(P:Program)(t188:Value)(t184:Value)(t15:Value)(t6:Value)(t17:Value)(t14x5:Value)(t11x6:Value)(w:World)(R:Ending->World->Prop):Prop:=
 Al P 30 w fun t24 w=>
 cL P 30 t24 t188 w fun w=>
 Cl P 33 #[(.int .i64 0),(.int .i64 101),(.int .i64 101)] w (Pk R) fun t190 w=>
 Cl P 33 #[(.int .i64 1),(.int .i64 90),(.int .i64 110)] w (Pk R) fun t191 w=>
 Cl P 33 #[(.int .i64 2),(.int .i64 5),(.int .i64 6)] w (Pk R) fun t192 w=>
 Bs P 31 3 [(0,t190),(1,t191),(2,t192)] w fun t193 w=>
 Cl P 28 #[t193,(.int .i64 1),(.int .i64 2),(.int .i64 100)] w (Pk R) fun t194 w=>
 Ex t194 0 w fun t195 w=>
 Ex t194 1 w fun t196 w=>
 Ex t194 2 w fun t197 w=>
 Ex t194 3 w fun t198 w=>
 dx t184 true (fun k=>Dv P true (Instr.fieldAt 30 t24 10) w.drew k) fun t201=>
 dx t184 true (fun k=>Dv P false (Instr.loadAt 4 t201) w.drew k) fun t202=>
 eH t184 t202 (.bool false) fun t203=>
 dx t203 true (fun k=>Dv P true (Instr.fieldAt 30 t24 8) w.drew k) fun t205=>
 dx t203 true (fun k=>Dv P false (Instr.loadAt 3 t205) w.drew k) fun t206=>
 dx t203 true (fun k=>Dv P true (bn .eql 3 true t206 (.int .i64 6)) w.drew k) fun t207=>
 eH t203 t207 (.bool false) fun t208=>
 dx t208 true (fun k=>Dv P true (Instr.fieldAt 30 t24 7) w.drew k) fun t210=>
 dx t208 true (fun k=>Dv P false (Instr.loadAt 3 t210) w.drew k) fun t211=>
 dx t208 true (fun k=>Dv P true (bn .eql 3 true t211 (.int .i64 6)) w.drew k) fun t212=>
 eH t208 t212 (.bool false) fun t213=>
 dx t213 true (fun k=>k t15) fun t215=>
 Gd t213 true (fun k=>Bs P 33 1 [(0,(.int .i64 0))] w.drew k) w.drew fun t216 w=>
 Gd t213 true (fun k=>Cl P 26 #[t215,t216] w (Pk R) k) w fun t217 w=>
 eH t213 t217 (.bool false) fun t218=>
 dx t218 true (fun k=>Dv P false (Instr.loadAt 25 t6) w k) fun t220=>
 Gd t218 true (fun k=>Cl P 30 #[(.int .i64 1),(.int .i64 20)] w (Pk R) k) w fun t221 w=>
 Kg t218 true P (Instr.loadAt 25 t6) t220 w <|
 dx t218 true (fun k=>Dv P false (bn .eql 25 false t220 t221) w k) fun t222=>
 eH t218 t222 (.bool false) fun t223=>
 dx t223 true (fun k=>Dv P true (Instr.fieldAt 28 t17 1) w k) fun t225=>
 dx t223 true (fun k=>Dv P false (Instr.loadAt 26 t225) w k) fun t226=>
 dx t223 true (fun k=>Dv P true (Instr.indexAt 26 t226 (.int .i64 1)) w k) fun t227=>
 dx t223 true (fun k=>Dv P true (Instr.fieldAt 30 t227 6) w k) fun t228=>
 dx t223 true (fun k=>Dv P false (Instr.loadAt 3 t228) w k) fun t229=>
 dx t223 true (fun k=>Dv P true (bn .eql 3 true t229 (.int .i64 6)) w k) fun t230=>
 eH t223 t230 (.bool false) fun t231=>
 dx t231 true (fun k=>Dv P false (Instr.loadAt 28 t14x5) w k) fun t233=>
 Gd t231 true (fun k=>Cl P 13 #[t233] w (Pk R) k) w fun t234 w=>
 eH t231 t234 (.bool false) fun t235=>
 dx t235 true (fun k=>Dv P true (Instr.build 28 #[]) w k) fun t237=>
 Gd t235 true (fun k=>Cl P 13 #[t237] w (Pk R) k) w fun t238 w=>
 dx t235 true (fun k=>Dv P true (Op.unary .not t238) w k) fun t239=>
 eH t235 t239 (.bool false) fun t240=>
 dx t240 true (fun k=>Dv P false (Instr.loadAt 28 t14x5) w k) fun t242=>
 dx t240 true (fun k=>Dv P false (Instr.loadAt 28 t14x5) w k) fun t243=>
 Gd t240 true (fun k=>Cl P 15 #[t242,t243] w (Pk R) k) w fun t244 w=>
 eH t240 t244 (.bool false) fun t245=>
 dx t245 true (fun k=>Dv P false (Instr.loadAt 28 t14x5) w k) fun t247=>
 dx t245 true (fun k=>Dv P false (Instr.loadAt 28 t11x6) w k) fun t248=>
 Gd t245 true (fun k=>Cl P 15 #[t247,t248] w (Pk R) k) w fun t249 w=>
 dx t245 true (fun k=>Dv P true (Op.unary .not t249) w k) fun t250=>
 eH t245 t250 (.bool false) fun t251=>
 dx t251 true (fun k=>k t198) fun t253=>
 dx t251 true (fun k=>Dv P true (bn .eql 46 true t253 (.int .i64 0)) w k) fun t254=>
 eH t251 t254 (.bool false) fun t255=>
 dx t255 true (fun k=>k t195) fun t257=>
 dx t255 true (fun k=>Dv P true (bn .eql 3 true t257 (.int .i64 1)) w k) fun t258=>
 eH t255 t258 (.bool false) fun t259=>
 dx t259 true (fun k=>k t196) fun t261=>
 dx t259 true (fun k=>Dv P true (bn .eql 3 true t261 (.int .i64 2)) w k) fun t262=>
 eH t259 t262 (.bool false) fun t263=>
 dx t263 true (fun k=>k t197) fun t265=>
 dx t263 true (fun k=>Dv P true (bn .eql 3 true t265 (.int .i64 3)) w k) fun t266=>
 eH t263 t266 (.bool false) fun t267=>
 R (.returned t267) w
def np(P:Program)(t159:Value)(t8x5:Value)(t11x6:Value)(t14x5:Value)(t15:Value)(t6:Value)(t17:Value)(w:World)(R:Ending->World->Prop):Prop:=
 If t159
 (R (.returned (.bool false)) w)
 (Dv P true (Instr.fieldAt 28 t8x5 1) w.drew fun t160=>
 Dv P false (Instr.loadAt 26 t160) w.drew fun t161=>
 Dv P true (Instr.indexAt 26 t161 (.int .i64 0)) w.drew fun t162=>
 Dv P true (Instr.fieldAt 30 t162 9) w.drew fun t163=>
 Dv P false (Instr.loadAt 25 t163) w.drew fun t164=>
 Cl P 30 #[(.int .i64 5),(.int .i64 4)] w.drew (Pk R) fun t165 w=>
 Ke P (Instr.loadAt 26 t160) t161 w <|
 Ke P (Instr.loadAt 25 t163) t164 w <|
 Dv P false (bn .eql 25 false t164 t165) w fun t166=>
 dx t166 true (fun k=>Dv P true (Instr.fieldAt 28 t11x6 1) w k) fun t168=>
 dx t166 true (fun k=>Dv P false (Instr.loadAt 26 t168) w k) fun t169=>
 dx t166 true (fun k=>Dv P true (Instr.indexAt 26 t169 (.int .i64 0)) w k) fun t170=>
 dx t166 true (fun k=>Dv P true (Instr.fieldAt 30 t170 9) w k) fun t171=>
 dx t166 true (fun k=>Dv P false (Instr.loadAt 25 t171) w k) fun t172=>
 Gd t166 true (fun k=>Cl P 30 #[(.int .i64 625),(.int .i64 32)] w (Pk R) k) w fun t173 w=>
 Kg t166 true P (Instr.loadAt 26 t168) t169 w <|
 Kg t166 true P (Instr.loadAt 25 t171) t172 w <|
 dx t166 true (fun k=>Dv P false (bn .eql 25 false t172 t173) w k) fun t174=>
 eH t166 t174 (.bool false) fun t175=>
 dx t175 true (fun k=>Dv P true (Instr.fieldAt 28 t14x5 1) w k) fun t177=>
 dx t175 true (fun k=>Dv P false (Instr.loadAt 26 t177) w k) fun t178=>
 dx t175 true (fun k=>Dv P true (Instr.indexAt 26 t178 (.int .i64 0)) w k) fun t179=>
 dx t175 true (fun k=>Dv P true (Instr.fieldAt 30 t179 9) w k) fun t180=>
 dx t175 true (fun k=>Dv P false (Instr.loadAt 25 t180) w k) fun t181=>
 Gd t175 true (fun k=>Cl P 30 #[(.int .i64 3125),(.int .i64 64)] w (Pk R) k) w fun t182 w=>
 Kg t175 true P (Instr.loadAt 26 t177) t178 w <|
 Kg t175 true P (Instr.loadAt 25 t180) t181 w <|
 dx t175 true (fun k=>Dv P false (bn .eql 25 false t181 t182) w k) fun t183=>
 eH t175 t183 (.bool false) fun t184=>
 Fa P 28 t14x5 1 w fun t185 w=>
 Ld P 26 t185 w fun t186 w=>
 Ia P 26 t186 (.int .i64 0) w fun t187 w=>
 Ld P 30 t187 w fun t188 w=>
 nk P t188 t184 t15 t6 t17 t14x5 t11x6 w R)
def ns(P:Program)(t127:Value)(t8x5:Value)(t11x6:Value)(t14x5:Value)(t17:Value)(t9:Value)(t12:Value)(t15:Value)(t6:Value)(w:World)(R:Ending->World->Prop):Prop:=
 If t127
 (R (.returned (.bool false)) w)
 (Fa P 28 t8x5 1 w fun t128 w=>
 Ld P 26 t128 w fun t129 w=>
 Bt P .len #[26] 3 #[t129] w fun t130 w=>
 Bn P .neq 3 true t130 (.int .i64 1) w fun t131 w=>
 Gd t131 false (fun k=>Fa P 28 t11x6 1 w k) w fun t133 w=>
 Gd t131 false (fun k=>Ld P 26 t133 w k) w fun t134 w=>
 Gd t131 false (fun k=>Bt P .len #[26] 3 #[t134] w k) w fun t135 w=>
 Gd t131 false (fun k=>Bn P .neq 3 true t135 (.int .i64 1) w k) w fun t136 w=>
 cH t131 (.bool true) t136 w fun t137 w=>
 Gd t137 false (fun k=>Fa P 28 t14x5 1 w k) w fun t139 w=>
 Gd t137 false (fun k=>Ld P 26 t139 w k) w fun t140 w=>
 Gd t137 false (fun k=>Bt P .len #[26] 3 #[t140] w k) w fun t141 w=>
 Gd t137 false (fun k=>Bn P .neq 3 true t141 (.int .i64 1) w k) w fun t142 w=>
 cH t137 (.bool true) t142 w fun t143 w=>
 Gd t143 false (fun k=>Fa P 28 t17 1 w k) w fun t145 w=>
 Gd t143 false (fun k=>Ld P 26 t145 w k) w fun t146 w=>
 Gd t143 false (fun k=>Bt P .len #[26] 3 #[t146] w k) w fun t147 w=>
 Gd t143 false (fun k=>Bn P .neq 3 true t147 (.int .i64 2) w k) w fun t148 w=>
 cH t143 (.bool true) t148 w fun t149 w=>
 Gd t149 false (fun k=>k t9 w) w fun t151 w=>
 Gd t149 false (fun k=>Bt P .len #[33] 3 #[t151] w k) w fun t152 w=>
 Gd t149 false (fun k=>Bn P .gtr 3 true t152 (.int .i64 0) w k) w fun t153 w=>
 cH t149 (.bool true) t153 w fun t154 w=>
 Gd t154 false (fun k=>k t12 w) w fun t156 w=>
 Gd t154 false (fun k=>Bt P .len #[33] 3 #[t156] w k) w fun t157 w=>
 Gd t154 false (fun k=>Bn P .gtr 3 true t157 (.int .i64 0) w k) w fun t158 w=>
 cH t154 (.bool true) t158 w fun t159 w=>
 np P t159 t8x5 t11x6 t14x5 t15 t6 t17 w R)
def nt(P:Program)(t14x5:Value)(t3:Value)(t33:Value)(t43:Value)(t48:Value)(t10:Value)(t13:Value)(t16:Value)(t8x5:Value)(t11x6:Value)(t9:Value)(t12:Value)(t15:Value)(t6:Value)(w:World)(R:Ending->World->Prop):Prop:=
 Ld P 28 t14x5 w fun t78 w=>
 Ld P 30 t3 w fun t79 w=>
 Cl P 22 #[t78,t79] w (Pk R) fun t80 w=>
 Ex t80 0 w fun t81 w=>
 Ex t80 1 w fun t82 w=>
 Al P 28 w fun t17 w=>
 cL P 28 t17 t81 w fun w=>
 Ld P 28 t17 w fun t84 w=>
 Ld P 30 t3 w fun t85 w=>
 Cl P 22 #[t84,t85] w (Pk R) fun t86 w=>
 Ex t86 0 w fun t87 w=>
 Ex t86 1 w fun t88 w=>
 Al P 28 w fun t19 w=>
 cL P 28 t19 t87 w fun w=>
 Cl P 30 #[(.int .i64 3),(.int .i64 2)] w (Pk R) fun t90 w=>
 Cl P 17 #[t90] w (Pk R) fun t91 w=>
 Ex t91 0 w fun t92 w=>
 Ex t91 1 w fun t93 w=>
 Al P 28 w fun t21 w=>
 cL P 28 t21 t92 w fun w=>
 Bn P .neq 46 true t33 (.int .i64 0) w fun t95 w=>
 Gd t95 false (fun k=>k t43 w) w fun t97 w=>
 Gd t95 false (fun k=>Bn P .neq 46 true t97 (.int .i64 0) w k) w fun t98 w=>
 cH t95 (.bool true) t98 w fun t99 w=>
 Gd t99 false (fun k=>k t48 w) w fun t101 w=>
 Gd t99 false (fun k=>Bn P .neq 46 true t101 (.int .i64 0) w k) w fun t102 w=>
 cH t99 (.bool true) t102 w fun t103 w=>
 Gd t103 false (fun k=>k t10 w) w fun t105 w=>
 Gd t103 false (fun k=>Bn P .neq 46 true t105 (.int .i64 0) w k) w fun t106 w=>
 cH t103 (.bool true) t106 w fun t107 w=>
 Gd t107 false (fun k=>k t13 w) w fun t109 w=>
 Gd t107 false (fun k=>Bn P .neq 46 true t109 (.int .i64 0) w k) w fun t110 w=>
 cH t107 (.bool true) t110 w fun t111 w=>
 Gd t111 false (fun k=>k t16 w) w fun t113 w=>
 Gd t111 false (fun k=>Bn P .neq 46 true t113 (.int .i64 0) w k) w fun t114 w=>
 cH t111 (.bool true) t114 w fun t115 w=>
 Gd t115 false (fun k=>k t82 w) w fun t117 w=>
 Gd t115 false (fun k=>Bn P .neq 46 true t117 (.int .i64 0) w k) w fun t118 w=>
 cH t115 (.bool true) t118 w fun t119 w=>
 Gd t119 false (fun k=>k t88 w) w fun t121 w=>
 Gd t119 false (fun k=>Bn P .neq 46 true t121 (.int .i64 280) w k) w fun t122 w=>
 cH t119 (.bool true) t122 w fun t123 w=>
 Gd t123 false (fun k=>k t93 w) w fun t125 w=>
 Gd t123 false (fun k=>Bn P .neq 46 true t125 (.int .i64 280) w k) w fun t126 w=>
 cH t123 (.bool true) t126 w fun t127 w=>
 ns P t127 t8x5 t11x6 t14x5 t17 t9 t12 t15 t6 w R
def nu(P:Program)(t11x6:Value)(t3:Value)(t33:Value)(t43:Value)(t48:Value)(t10:Value)(t13:Value)(t8x5:Value)(t9:Value)(t12:Value)(t6:Value)(w:World)(R:Ending->World->Prop):Prop:=
 K7 (fun k3=>
 Dv P false (Instr.loadAt 28 t11x6) w.drew fun t69=>
 (Cl P 33 #[(.int .i64 5),(.int .i64 200),(.int .i64 200)] w.drew (Pk R) fun t70 w=>
 Ke P (Instr.loadAt 28 t11x6) t69 w <|
 (Cl P 33 #[(.int .i64 6),(.int .i64 200),(.int .i64 200)] w (Pk R) fun t71 w=>
 Ke P (Instr.loadAt 28 t11x6) t69 w <|
 (Bs P 31 2 [(0,t70),(1,t71)] w fun t72 w=>
 Ke P (Instr.loadAt 28 t11x6) t69 w <|
 (Cl P 24 #[t69,t72] w (Pk R) fun t73 w=>
 gR t73 0 fun t74=>
 gR t73 1 fun t75=>
 gR t73 2 fun t76=>
 Al P 28 w fun t14 w=>
 Ke P (Instr.loadAt 28 t11x6) t69 w <|
 cL P 28 t14 t74 w fun w=>
 k3 t14 t75 t76 w)/\
 (Al P 28 w fun t14x1 w=>
 Ke P (Instr.loadAt 28 t11x6) t69 w <|
 Cl P 24 #[t69,t72] w (Pk R) fun t73x1 w=>
 gR t73x1 0 fun t74x1=>
 gR t73x1 1 fun t75x1=>
 gR t73x1 2 fun t76x1=>
 cL P 28 t14x1 t74x1 w fun w=>
 k3 t14x1 t75x1 t76x1 w))/\
 (Al P 28 w fun t14x2 w=>
 Ke P (Instr.loadAt 28 t11x6) t69 w <|
 Bs P 31 2 [(0,t70),(1,t71)] w fun t72x1 w=>
 Ke P (Instr.loadAt 28 t11x6) t69 w <|
 Cl P 24 #[t69,t72x1] w (Pk R) fun t73x2 w=>
 gR t73x2 0 fun t74x2=>
 gR t73x2 1 fun t75x2=>
 gR t73x2 2 fun t76x2=>
 cL P 28 t14x2 t74x2 w fun w=>
 k3 t14x2 t75x2 t76x2 w))/\
 (Al P 28 w fun t14x3 w=>
 Ke P (Instr.loadAt 28 t11x6) t69 w <|
 Cl P 33 #[(.int .i64 6),(.int .i64 200),(.int .i64 200)] w (Pk R) fun t71x1 w=>
 Ke P (Instr.loadAt 28 t11x6) t69 w <|
 Bs P 31 2 [(0,t70),(1,t71x1)] w fun t72x2 w=>
 Ke P (Instr.loadAt 28 t11x6) t69 w <|
 Cl P 24 #[t69,t72x2] w (Pk R) fun t73x3 w=>
 gR t73x3 0 fun t74x3=>
 gR t73x3 1 fun t75x3=>
 gR t73x3 2 fun t76x3=>
 cL P 28 t14x3 t74x3 w fun w=>
 k3 t14x3 t75x3 t76x3 w))/\
 (Al P 28 w.drew fun t14x4 w=>
 Ke P (Instr.loadAt 28 t11x6) t69 w <|
 Cl P 33 #[(.int .i64 5),(.int .i64 200),(.int .i64 200)] w (Pk R) fun t70x1 w=>
 Ke P (Instr.loadAt 28 t11x6) t69 w <|
 Cl P 33 #[(.int .i64 6),(.int .i64 200),(.int .i64 200)] w (Pk R) fun t71x2 w=>
 Ke P (Instr.loadAt 28 t11x6) t69 w <|
 Bs P 31 2 [(0,t70x1),(1,t71x2)] w fun t72x3 w=>
 Ke P (Instr.loadAt 28 t11x6) t69 w <|
 Cl P 24 #[t69,t72x3] w (Pk R) fun t73x4 w=>
 gR t73x4 0 fun t74x4=>
 gR t73x4 1 fun t75x4=>
 gR t73x4 2 fun t76x4=>
 cL P 28 t14x4 t74x4 w fun w=>
 k3 t14x4 t75x4 t76x4 w))
 (fun t14x5 t15 t16 w=>
 nt P t14x5 t3 t33 t43 t48 t10 t13 t16 t8x5 t11x6 t9 t12 t15 t6 w R)
def nv(P:Program)(t8x5:Value)(t3:Value)(t33:Value)(t43:Value)(t48:Value)(t10:Value)(t9:Value)(t6:Value)(w:World)(R:Ending->World->Prop):Prop:=
 K7 (fun k2=>
 Dv P false (Instr.loadAt 28 t8x5) w.drew fun t59=>
 (Cl P 33 #[(.int .i64 2),(.int .i64 200),(.int .i64 200)] w.drew (Pk R) fun t60 w=>
 Ke P (Instr.loadAt 28 t8x5) t59 w <|
 (Cl P 33 #[(.int .i64 3),(.int .i64 200),(.int .i64 200)] w (Pk R) fun t61 w=>
 Ke P (Instr.loadAt 28 t8x5) t59 w <|
 (Cl P 33 #[(.int .i64 4),(.int .i64 200),(.int .i64 200)] w (Pk R) fun t62 w=>
 Ke P (Instr.loadAt 28 t8x5) t59 w <|
 (Bs P 31 3 [(0,t60),(1,t61),(2,t62)] w fun t63 w=>
 Ke P (Instr.loadAt 28 t8x5) t59 w <|
 (Cl P 24 #[t59,t63] w (Pk R) fun t64 w=>
 gR t64 0 fun t65=>
 gR t64 1 fun t66=>
 gR t64 2 fun t67=>
 Al P 28 w fun t11 w=>
 Ke P (Instr.loadAt 28 t8x5) t59 w <|
 cL P 28 t11 t65 w fun w=>
 k2 t11 t66 t67 w)/\
 (Al P 28 w fun t11x1 w=>
 Ke P (Instr.loadAt 28 t8x5) t59 w <|
 Cl P 24 #[t59,t63] w (Pk R) fun t64x1 w=>
 gR t64x1 0 fun t65x1=>
 gR t64x1 1 fun t66x1=>
 gR t64x1 2 fun t67x1=>
 cL P 28 t11x1 t65x1 w fun w=>
 k2 t11x1 t66x1 t67x1 w))/\
 (Al P 28 w fun t11x2 w=>
 Ke P (Instr.loadAt 28 t8x5) t59 w <|
 Bs P 31 3 [(0,t60),(1,t61),(2,t62)] w fun t63x1 w=>
 Ke P (Instr.loadAt 28 t8x5) t59 w <|
 Cl P 24 #[t59,t63x1] w (Pk R) fun t64x2 w=>
 gR t64x2 0 fun t65x2=>
 gR t64x2 1 fun t66x2=>
 gR t64x2 2 fun t67x2=>
 cL P 28 t11x2 t65x2 w fun w=>
 k2 t11x2 t66x2 t67x2 w))/\
 (Al P 28 w fun t11x3 w=>
 Ke P (Instr.loadAt 28 t8x5) t59 w <|
 Cl P 33 #[(.int .i64 4),(.int .i64 200),(.int .i64 200)] w (Pk R) fun t62x1 w=>
 Ke P (Instr.loadAt 28 t8x5) t59 w <|
 Bs P 31 3 [(0,t60),(1,t61),(2,t62x1)] w fun t63x2 w=>
 Ke P (Instr.loadAt 28 t8x5) t59 w <|
 Cl P 24 #[t59,t63x2] w (Pk R) fun t64x3 w=>
 gR t64x3 0 fun t65x3=>
 gR t64x3 1 fun t66x3=>
 gR t64x3 2 fun t67x3=>
 cL P 28 t11x3 t65x3 w fun w=>
 k2 t11x3 t66x3 t67x3 w))/\
 (Al P 28 w fun t11x4 w=>
 Ke P (Instr.loadAt 28 t8x5) t59 w <|
 Cl P 33 #[(.int .i64 3),(.int .i64 200),(.int .i64 200)] w (Pk R) fun t61x1 w=>
 Ke P (Instr.loadAt 28 t8x5) t59 w <|
 Cl P 33 #[(.int .i64 4),(.int .i64 200),(.int .i64 200)] w (Pk R) fun t62x2 w=>
 Ke P (Instr.loadAt 28 t8x5) t59 w <|
 Bs P 31 3 [(0,t60),(1,t61x1),(2,t62x2)] w fun t63x3 w=>
 Ke P (Instr.loadAt 28 t8x5) t59 w <|
 Cl P 24 #[t59,t63x3] w (Pk R) fun t64x4 w=>
 gR t64x4 0 fun t65x4=>
 gR t64x4 1 fun t66x4=>
 gR t64x4 2 fun t67x4=>
 cL P 28 t11x4 t65x4 w fun w=>
 k2 t11x4 t66x4 t67x4 w))/\
 (Al P 28 w.drew fun t11x5 w=>
 Ke P (Instr.loadAt 28 t8x5) t59 w <|
 Cl P 33 #[(.int .i64 2),(.int .i64 200),(.int .i64 200)] w (Pk R) fun t60x1 w=>
 Ke P (Instr.loadAt 28 t8x5) t59 w <|
 Cl P 33 #[(.int .i64 3),(.int .i64 200),(.int .i64 200)] w (Pk R) fun t61x2 w=>
 Ke P (Instr.loadAt 28 t8x5) t59 w <|
 Cl P 33 #[(.int .i64 4),(.int .i64 200),(.int .i64 200)] w (Pk R) fun t62x3 w=>
 Ke P (Instr.loadAt 28 t8x5) t59 w <|
 Bs P 31 3 [(0,t60x1),(1,t61x2),(2,t62x3)] w fun t63x4 w=>
 Ke P (Instr.loadAt 28 t8x5) t59 w <|
 Cl P 24 #[t59,t63x4] w (Pk R) fun t64x5 w=>
 gR t64x5 0 fun t65x5=>
 gR t64x5 1 fun t66x5=>
 gR t64x5 2 fun t67x5=>
 cL P 28 t11x5 t65x5 w fun w=>
 k2 t11x5 t66x5 t67x5 w))
 (fun t11x6 t12 t13 w=>
 nu P t11x6 t3 t33 t43 t48 t10 t13 t8x5 t9 t12 t6 w R)
def rH(P:Program)(w:World)(R:Ending->World->Prop):Prop:=
 Cl P 30 #[(.int .i64 1),(.int .i64 10)] w (Pk R) fun t30 w=>
 Cl P 17 #[t30] w (Pk R) fun t31 w=>
 Ex t31 0 w fun t32 w=>
 Ex t31 1 w fun t33 w=>
 Al P 28 w fun t1 w=>
 cL P 28 t1 t32 w fun w=>
 Cl P 30 #[(.int .i64 1),(.int .i64 4)] w (Pk R) fun t34 w=>
 Cl P 30 #[(.int .i64 1),(.int .i64 20)] w (Pk R) fun t35 w=>
 Cl P 30 #[(.int .i64 2),(.int .i64 1)] w (Pk R) fun t36 w=>
 Bd P 30 [(0,(.int .i64 1)),(1,(.int .i64 2)),(2,(.int .i64 100)),(3,t34),(4,t35),(5,t36),(6,(.int .i64 (-1)))] w fun t37 w=>
 Al P 30 w fun t3 w=>
 cL P 30 t3 t37 w fun w=>
 Ld P 28 t1 w fun t39 w=>
 Ld P 30 t3 w fun t40 w=>
 Cl P 22 #[t39,t40] w (Pk R) fun t41 w=>
 Ex t41 0 w fun t42 w=>
 Ex t41 1 w fun t43 w=>
 Al P 28 w fun t4 w=>
 cL P 28 t4 t42 w fun w=>
 Ld P 28 t4 w fun t45 w=>
 Cl P 19 #[t45] w (Pk R) fun t46 w=>
 Ex t46 0 w fun t47 w=>
 Ex t46 1 w fun t48 w=>
 Al P 25 w fun t6 w=>
 cL P 25 t6 t47 w fun w=>
 K7 (fun k1=>
 Dv P false (Instr.loadAt 28 t4) w.drew fun t50=>
 (Cl P 33 #[(.int .i64 0),(.int .i64 101),(.int .i64 101)] w.drew (Pk R) fun t51 w=>
 Ke P (Instr.loadAt 28 t4) t50 w <|
 (Cl P 33 #[(.int .i64 1),(.int .i64 90),(.int .i64 110)] w (Pk R) fun t52 w=>
 Ke P (Instr.loadAt 28 t4) t50 w <|
 (Bs P 31 2 [(0,t51),(1,t52)] w fun t53 w=>
 Ke P (Instr.loadAt 28 t4) t50 w <|
 (Cl P 24 #[t50,t53] w (Pk R) fun t54 w=>
 gR t54 0 fun t55=>
 gR t54 1 fun t56=>
 gR t54 2 fun t57=>
 Al P 28 w fun t8 w=>
 Ke P (Instr.loadAt 28 t4) t50 w <|
 cL P 28 t8 t55 w fun w=>
 k1 t8 t56 t57 w)/\
 (Al P 28 w fun t8x1 w=>
 Ke P (Instr.loadAt 28 t4) t50 w <|
 Cl P 24 #[t50,t53] w (Pk R) fun t54x1 w=>
 gR t54x1 0 fun t55x1=>
 gR t54x1 1 fun t56x1=>
 gR t54x1 2 fun t57x1=>
 cL P 28 t8x1 t55x1 w fun w=>
 k1 t8x1 t56x1 t57x1 w))/\
 (Al P 28 w fun t8x2 w=>
 Ke P (Instr.loadAt 28 t4) t50 w <|
 Bs P 31 2 [(0,t51),(1,t52)] w fun t53x1 w=>
 Ke P (Instr.loadAt 28 t4) t50 w <|
 Cl P 24 #[t50,t53x1] w (Pk R) fun t54x2 w=>
 gR t54x2 0 fun t55x2=>
 gR t54x2 1 fun t56x2=>
 gR t54x2 2 fun t57x2=>
 cL P 28 t8x2 t55x2 w fun w=>
 k1 t8x2 t56x2 t57x2 w))/\
 (Al P 28 w fun t8x3 w=>
 Ke P (Instr.loadAt 28 t4) t50 w <|
 Cl P 33 #[(.int .i64 1),(.int .i64 90),(.int .i64 110)] w (Pk R) fun t52x1 w=>
 Ke P (Instr.loadAt 28 t4) t50 w <|
 Bs P 31 2 [(0,t51),(1,t52x1)] w fun t53x2 w=>
 Ke P (Instr.loadAt 28 t4) t50 w <|
 Cl P 24 #[t50,t53x2] w (Pk R) fun t54x3 w=>
 gR t54x3 0 fun t55x3=>
 gR t54x3 1 fun t56x3=>
 gR t54x3 2 fun t57x3=>
 cL P 28 t8x3 t55x3 w fun w=>
 k1 t8x3 t56x3 t57x3 w))/\
 (Al P 28 w.drew fun t8x4 w=>
 Ke P (Instr.loadAt 28 t4) t50 w <|
 Cl P 33 #[(.int .i64 0),(.int .i64 101),(.int .i64 101)] w (Pk R) fun t51x1 w=>
 Ke P (Instr.loadAt 28 t4) t50 w <|
 Cl P 33 #[(.int .i64 1),(.int .i64 90),(.int .i64 110)] w (Pk R) fun t52x2 w=>
 Ke P (Instr.loadAt 28 t4) t50 w <|
 Bs P 31 2 [(0,t51x1),(1,t52x2)] w fun t53x3 w=>
 Ke P (Instr.loadAt 28 t4) t50 w <|
 Cl P 24 #[t50,t53x3] w (Pk R) fun t54x4 w=>
 gR t54x4 0 fun t55x4=>
 gR t54x4 1 fun t56x4=>
 gR t54x4 2 fun t57x4=>
 cL P 28 t8x4 t55x4 w fun w=>
 k1 t8x4 t56x4 t57x4 w))
 (fun t8x5 t9 t10 w=>
 nv P t8x5 t3 t33 t43 t48 t10 t9 t6 w R)
theorem Cn{w:World}{R:Ending->World->Prop}(h:rH prog w R):Calls prog 9 #[] w R:=
 dW (.sq .z (.sq .z (.sq .z (.sq .z (.sq .z (.jn [8,9,10] [49,50,51,52,53,54,55,56,57] (.dr (.pur false 0 (.alt (.eff 1 [0] (.alt (.eff 2 [0] (.alt (.eff 3 [0] (.alt (.eff 4 [] (.pur true 5 (.pur true 6 (.pur true 7 (.pur true 8 (.eff 9 [0] (.eff 10 [] (.pur true 11 (.pur true 12 .done))))))))) (.eff 9 [0] (.eff 4 [] (.pur true 5 (.pur true 6 (.pur true 7 (.pur true 8 (.eff 10 [] (.pur true 11 (.pur true 12 .done))))))))))) (.eff 9 [0] (.eff 3 [0] (.eff 4 [] (.pur true 5 (.pur true 6 (.pur true 7 (.pur true 8 (.eff 10 [] (.pur true 11 (.pur true 12 .done)))))))))))) (.eff 9 [0] (.eff 2 [0] (.eff 3 [0] (.eff 4 [] (.pur true 5 (.pur true 6 (.pur true 7 (.pur true 8 (.eff 10 [] (.pur true 11 (.pur true 12 .done))))))))))))) (.eff 9 [0] (.eff 1 [0] (.eff 2 [0] (.eff 3 [0] (.eff 4 [] (.pur true 5 (.pur true 6 (.pur true 7 (.pur true 8 (.eff 10 [] (.pur true 11 (.pur true 12 .done))))))))))))))) (.jn [11,12,13] [58,59,60,61,62,63,64,65,66,67] (.dr (.pur false 0 (.alt (.eff 1 [0] (.alt (.eff 2 [0] (.alt (.eff 3 [0] (.alt (.eff 4 [0] (.alt (.eff 5 [] (.pur true 6 (.pur true 7 (.pur true 8 (.pur true 9 (.eff 10 [0] (.eff 11 [] (.pur true 12 (.pur true 13 .done))))))))) (.eff 10 [0] (.eff 5 [] (.pur true 6 (.pur true 7 (.pur true 8 (.pur true 9 (.eff 11 [] (.pur true 12 (.pur true 13 .done))))))))))) (.eff 10 [0] (.eff 4 [0] (.eff 5 [] (.pur true 6 (.pur true 7 (.pur true 8 (.pur true 9 (.eff 11 [] (.pur true 12 (.pur true 13 .done)))))))))))) (.eff 10 [0] (.eff 3 [0] (.eff 4 [0] (.eff 5 [] (.pur true 6 (.pur true 7 (.pur true 8 (.pur true 9 (.eff 11 [] (.pur true 12 (.pur true 13 .done))))))))))))) (.eff 10 [0] (.eff 2 [0] (.eff 3 [0] (.eff 4 [0] (.eff 5 [] (.pur true 6 (.pur true 7 (.pur true 8 (.pur true 9 (.eff 11 [] (.pur true 12 (.pur true 13 .done)))))))))))))) (.eff 10 [0] (.eff 1 [0] (.eff 2 [0] (.eff 3 [0] (.eff 4 [0] (.eff 5 [] (.pur true 6 (.pur true 7 (.pur true 8 (.pur true 9 (.eff 11 [] (.pur true 12 (.pur true 13 .done)))))))))))))))) (.jn [14,15,16] [68,69,70,71,72,73,74,75,76] (.dr (.pur false 0 (.alt (.eff 1 [0] (.alt (.eff 2 [0] (.alt (.eff 3 [0] (.alt (.eff 4 [] (.pur true 5 (.pur true 6 (.pur true 7 (.pur true 8 (.eff 9 [0] (.eff 10 [] (.pur true 11 (.pur true 12 .done))))))))) (.eff 9 [0] (.eff 4 [] (.pur true 5 (.pur true 6 (.pur true 7 (.pur true 8 (.eff 10 [] (.pur true 11 (.pur true 12 .done))))))))))) (.eff 9 [0] (.eff 3 [0] (.eff 4 [] (.pur true 5 (.pur true 6 (.pur true 7 (.pur true 8 (.eff 10 [] (.pur true 11 (.pur true 12 .done)))))))))))) (.eff 9 [0] (.eff 2 [0] (.eff 3 [0] (.eff 4 [] (.pur true 5 (.pur true 6 (.pur true 7 (.pur true 8 (.eff 10 [] (.pur true 11 (.pur true 12 .done))))))))))))) (.eff 9 [0] (.eff 1 [0] (.eff 2 [0] (.eff 3 [0] (.eff 4 [] (.pur true 5 (.pur true 6 (.pur true 7 (.pur true 8 (.eff 10 [] (.pur true 11 (.pur true 12 .done))))))))))))))) (.sq .z (.sq .z (.sq .z (.sq (.sq .z (.cd (.sq .z .z) .z)) (.sq (.sq .z (.cd (.sq .z .z) .z)) (.sq (.dr (.pur true 0 (.pur false 1 (.pur true 2 (.pur true 3 (.pur false 4 (.eff 5 [1,4] (.pur false 6 (.pur true 7 (.pur true 8 (.pur false 9 (.pur true 10 (.pur true 11 (.pur false 12 (.eff 13 [9,12] (.pur false 14 (.pur true 15 (.pur true 16 (.pur true 17 (.pur false 18 (.pur true 19 (.pur true 20 (.pur false 21 (.eff 22 [18,21] (.pur false 23 (.pur true 24 (.pur true 25 .done))))))))))))))))))))))))))) (.sq .z (.sq .z (.sq (.dr (.pur true 0 (.pur true 1 (.pur true 2 (.pur false 3 (.pur true 4 (.pur true 5 (.pur true 6 (.pur false 7 (.pur true 8 (.pur true 9 (.pur true 10 (.pur true 11 (.pur false 12 (.pur true 13 (.pur true 14 (.pur true 15 (.pur true 16 (.eff 17 [] (.eff 18 [] (.pur true 19 (.pur true 20 (.pur false 21 (.eff 22 [21] (.pur false 23 (.pur true 24 (.pur true 25 (.pur true 26 (.pur false 27 (.pur true 28 (.pur true 29 (.pur false 30 (.pur true 31 (.pur true 32 (.pur true 33 (.pur false 34 (.eff 35 [] (.pur true 36 (.pur true 37 (.pur true 38 (.eff 39 [] (.pur true 40 (.pur true 41 (.pur true 42 (.pur false 43 (.pur false 44 (.eff 45 [] (.pur true 46 (.pur true 47 (.pur false 48 (.pur false 49 (.eff 50 [] (.pur true 51 (.pur true 52 (.pur true 53 (.pur true 54 (.pur true 55 (.pur true 56 (.pur true 57 (.pur true 58 (.pur true 59 (.pur true 60 (.pur true 61 (.pur true 62 (.pur true 63 (.pur true 64 (.pur true 65 (.pur true 66 (.pur true 67 (.pur true 68 (.pur true 69 .done))))))))))))))))))))))))))))))))))))))))))))))))))))))))))))))))))))))) .z))))))))))))))))) [] func9 (by kernel_rfl) (by kernel_rfl) h
end Go.Proofs.YtnkmbjedcjcccaaGreatDoor
namespace Go.Proofs.YtnkmbjedcjcccaaGreatDoor
open Tryz
open Go Go.Eng Go.Proofs Go.Num Go.RowKit
open Go.Alm (Ft Wt Sm VW VA dn gO obs obs1 dD obsN fresh fL)
set_option maxRecDepth 100000
def qq(n d:Int):Rat:=(n:Rat) / (d:Rat)
def LM:Wt:=⟨1,2,100,qq 1 4,qq 1 20,qq 2 1,-1,0,0,0,false⟩
def Om:List Wt:=[⟨1,2,100,qq 1 4,qq 1 20,qq 2 1,-1,-1,0,qq 1 1,false⟩]
def GJ:List Wt:=[⟨1,2,100,qq 1 4,qq 1 20,qq 2 1,-1,1,2,qq 5 4,false⟩]
def GK:List Wt:=[⟨1,2,100,qq 1 4,qq 1 20,qq 2 1,-1,4,5,qq 625 32,false⟩]
def EX:List Wt:=[⟨1,2,100,qq 1 4,qq 1 20,qq 2 1,-1,6,6,qq 3125 64,true⟩]
def LN:List Wt:=[⟨1,2,100,qq 1 4,qq 1 20,qq 2 1,-1,6,6,qq 3125 64,true⟩,⟨1,2,100,qq 1 4,qq 1 20,qq 2 1,6,6,0,qq 1 1,false⟩]
def T5:List Ft:=[IC 0 101 101,IC 1 90 110]
def T6:List Ft:=[IC 2 200 200,IC 3 200 200,IC 4 200 200]
def T7:List Ft:=[IC 5 200 200,IC 6 200 200]
deriving instance DecidableEq for Alm.Wt
theorem QD:[]++[fresh [] LM]=Om:=by decide+kernel
theorem HE:obs Om T5=GJ:=by decide+kernel
theorem Fi:obs GJ T6=GK:=by decide+kernel
theorem HF:obs GK T7=EX:=by decide+kernel
theorem QE:EX++[fresh EX LM]=LN:=by decide+kernel
theorem DM:dD Om GJ 0=[]:=by decide+kernel
theorem BD:dD GJ GK 0=[]:=by decide+kernel
theorem DP:dD GK EX 0=[0]:=by decide+kernel
theorem zt{k n d:Int}(h:0<=n/\n<=k * d/\0 < d/\d<=1000):Sm k (qq n d):=Sm.divq h.1 h.2.1 h.2.2
theorem vi:Reg LM:=⟨by decide,by decide,by decide,by decide,zt (by decide),zt (by decide),zt (by decide),by decide+kernel,by decide+kernel,by decide+kernel,by decide+kernel⟩
theorem GL:II (qq 1 10) [] LM:=⟨by decide,by decide+kernel⟩
theorem GM:II (qq 1 10) EX LM:=⟨by decide,by decide+kernel⟩
theorem LO:¬II (qq 1 10) LN LM:=fun h=>absurd h.2 (by decide+kernel)
theorem Jq:VB 0 (qq 1 10) []:=⟨zt (by decide),by simp,by simp,(zt (by decide):Sm 1 (qq 1 10)).ge⟩
theorem zu:VB 0 (qq 1 10) Om:=by have:=Jq.reg vi (by decide) GL;rw[QD]at this;exact this
theorem rI:tC T5:=by
 refine⟨by decide,by decide,fun i a b ha hb=>?_⟩
 match i with
 | 0=>cases ha;cases hb;decide
 | 1=>cases hb
 | k+2=>cases ha
theorem po:tC T6:=by
 refine⟨by decide,by decide,fun i a b ha hb=>?_⟩
 match i with
 | 0=>cases ha;cases hb;decide
 | 1=>cases ha;cases hb;decide
 | 2=>cases hb
 | k+3=>cases ha
theorem rJ:tC T7:=by
 refine⟨by decide,by decide,fun i a b ha hb=>?_⟩
 match i with
 | 0=>cases ha;cases hb;decide
 | 1=>cases hb
 | k+2=>cases ha
theorem zx:VB 10 (qq 1 10) GJ:=by have:=(zu.obs rI).mono (m:=10) (by decide);rw[HE]at this;exact this
theorem zy:VB 20 (qq 1 10) GK:=by have:=(zx.obs po).mono (m:=20) (by decide);rw[Fi]at this;exact this
theorem GN:VB 30 (qq 1 10) EX:=by have:=(zy.obs rJ).mono (m:=30) (by decide);rw[HF]at this;exact this
theorem QF:VB 30 (qq 1 10) LN:=by have:=GN.reg vi (by decide) GM;rw[QE]at this;exact this
theorem LP:qq 1 10 - fL Alm.al Om=qq 1 20:=by decide+kernel
theorem iK{fl:List Ft}(h:tC fl):∀ f∈fl,FI f:=fun f hf=>(h.2.1 f hf).fi
def SN:List Ft:=[IC 0 101 101,IC 1 90 110,IC 2 5 6]
theorem Ng:tC SN:=by
 refine⟨by decide,by decide,fun i a b ha hb=>?_⟩
 match i with
 | 0=>cases ha;cases hb;decide
 | 1=>cases ha;cases hb;decide
 | 2=>cases hb
 | k+3=>cases ha
theorem LQ:kU SN 1 2 100=.tuple #[.int .i64 1,.int .i64 2,.int .i64 3,.int .i64 0]:=by
 unfold kU
 rw[rS Ng]
 rfl
theorem Nh{n:Int}{B:Rat}{ws:List Wt}(h:VB n B ws)(hn:n<=1000000){w:World}{v:Value}(hv:dJ w 15 v ws.length ((ws.map wr).flatMap fW)):Ak w (tx B) v (ws.map wr):=h.ak (by omega) hv
section
variable{w0:World}{R:Ending->World->Prop}(hE:En w0)(hR:∀ W,bK w0 W->R (.returned (.bool true)) W)
include hE hR
set_option maxHeartbeats 16000000 in
theorem On{gk gt gd gl:Nat}{ka ta da ra:Option Addr}{kb kc tb tc db dc rb rc:Nat}(bk:cM w0 gk jA [bh (tx (qq 1 10)).1,bh (tx (qq 1 10)).2,.slice ka kb kc])(sk:dJ w0 15 (.slice ka kb kc) 1 ((EX.map wr).flatMap fW))(sr:dJ w0 1 (.slice ra rb rc) 1 (([0]:List Nat).flatMap fN))
 (bt:cM w0 gt jA [bh (tx (qq 1 10)).1,bh (tx (qq 1 10)).2,.slice ta tb tc]) (st:dJ w0 15 (.slice ta tb tc) 2 ((LN.map wr).flatMap fW)) (bd:cM w0 gd jA [bh (tx (qq 1 10)).1,bh (tx (qq 1 10)).2,.slice da db dc]) (sd:dJ w0 15 (.slice da db dc) 1 ((GK.map wr).flatMap fW)) (bl:cM w0 gl tR (fR (tx (qq 1 20)))):
 nk prog (vC 1 2 100 (tx (qq 1 4)) (tx (qq 1 20)) (tx (qq 2 1)) (-1) 6 6 (tx (qq 3125 64)) true) (.bool true) (.slice ra rb rc) (pr gl 0) (pr gt 0) (pr gk 0) (pr gd 0) w0 R:=by
 have ccq3:∀ {W:World},bK w0 W->Calls prog 30 #[.int .i64 1,.int .i64 20] W (bQ fun r w'=>bK W w'/\r=vR (tx (qq 1 20))):=fun {W} e=>AQ (w:=W) (hE.hT.ext e) (by decide) (by decide) (by decide)
 have ccf0:=fun {W:World} (_:bK w0 W)=>oG (w0:=W) (t:=0) (lo:=101) (hi:=101) (by decide)
 have ccf1:=fun {W:World} (_:bK w0 W)=>oG (w0:=W) (t:=1) (lo:=90) (hi:=110) (by decide)
 have ccf2:=fun {W:World} (_:bK w0 W)=>oG (w0:=W) (t:=2) (lo:=5) (hi:=6) (by decide)
 have ccv:=fun {W:World} (e:bK w0 W)=>NU (w0:=W) (ws:=EX) GN (by decide) (sk.ext e) (hE.ext e)
 have hK:=fun {W:World} (e:bK w0 W)=>Nh GN (by decide) (sk.ext e)
 have hD:=fun {W:World} (e:bK w0 W)=>Nh zy (by decide) (sd.ext e)
 have ccs:∀ {W:World},bK w0 W->Calls prog 15 #[vA (tx (qq 1 10)) (.slice ka kb kc),vA (tx (qq 1 10)) (.slice ka kb kc)] W (bQ fun r w'=>bK W w'/\r=.bool true):=fun {W} e=>by
  have:=Cy (hK e) (hK e)
  rw[BP]at this
  exact this
 have ccd:∀ {W:World},bK w0 W->Calls prog 15 #[vA (tx (qq 1 10)) (.slice ka kb kc),vA (tx (qq 1 10)) (.slice da db dc)] W (bQ fun r w'=>bK W w'/\r=.bool false):=fun {W} e=>by
  have:=Cy (hK e) (hD e)
  rw[BQ fun h=>absurd (tj h.2) (by decide+kernel)]at this
  exact this
 have cce:∀ {W:World},bK w0 W->Calls prog 13 #[.agg #[bh [],bh [],.slice none 0 0]] W (bQ fun r w'=>bK W w'/\r=.bool false):=fun {W} e=>by
  have:=kF (w0:=W) (p:=([],[])) (v:=.slice none 0 0) (l:=[]) (hE.ext e) (FD ⟨Nat.zero_le _,Nat.zero_le _⟩)
  rw[kE fun⟨B,ws,e1,_⟩=>DC (B.den:Int) (congrArg Prod.snd e1).symm]at this
  exact this
 clear hK hD
 unfold nk
 have h:=Hp.init [] w0
 refine du h fun g1 w h=>?_
 refine de h 0 rfl rfl rfl rfl fun w h=>?_
 refine ce h dd (ccf0 h.ext) fun w h=>?_
 refine ce h dd (ccf1 h.ext) fun w h=>?_
 refine ce h dd (ccf2 h.ext) fun w h=>?_
 refine AH (vs:=[_,_,_]) h (.cons (by rfl) (by rfl) (.cons (by rfl) (by rfl) (.cons (by rfl) (by rfl) .nil))) (by rfl) (by rfl) (by decide) (by decide) (by decide) fun v1 w h=>?_
 dsimp only[List.set]at h
 have ccr:=IA (w0:=w) (l:=SN) (v:=v1) (op:=1) (ve:=2) (lim:=100) ⟨h.sl (i:=0) rfl,iK Ng,by decide⟩ (by decide) (by decide) (by decide)
 rw[LQ]at ccr
 refine cu vT ccr ?_
 rintro _ W1 ⟨x1,rfl⟩
 have h:=h.x x1
 clear ccr x1 ccf0 ccf1 ccf2
 refine SQ ?_
 refine bP ?_
 replace h:=h.dr
 refine di (bP (iX h 1 rfl rfl (cG (bP (di (bP (iX h 1 rfl rfl (bP (jh (by omega) (cG (bP (di (bP (iX h 1 rfl rfl (bP (jh (by omega) (cG (bP (aP (lA h (by rfl) (by decide) (by rfl) (by decide) fun v2 w h=>?_))))))))))))))))))))
 refine aP ?_
 have cci:=IB (xs:=[0]) (ys:=[0]) (sr.hp h) (qZ 0 h rfl) (by decide) (by decide) (by decide) (by decide)
 rw[decide_eq_true (show([0]:List Nat)=[0] from rfl)]at cci
 refine cu vQ cci ?_
 rintro _ W1 ⟨x1,rfl⟩
 have h:=h.x x1
 clear x1 cci
 have s2:iY ((LN.map wr).flatMap fW) (1 * 15) (cW 1 2 100 (tx (qq 1 4)) (tx (qq 1 20)) (tx (qq 2 1)) 6 6 0 (tx (qq 1 1)) false):=cZ (f:=fW) (fun _=>rfl) (l:=LN.map wr) (a:=wr ⟨1,2,100,qq 1 4,qq 1 20,qq 2 1,6,6,0,qq 1 1,false⟩) rfl
 refine cG (bP (uK h ‹_› (by rfl) ?_))
 refine aP (ce h hZ (ccq3 h.ext) fun w h=>?_)
 refine FX ?_
 refine eT h ‹_› (by rfl) ?_
 refine bP (GC ?_)
 refine cG (bP (di (bP (LW h ‹_› (by rfl) ?_))))
 refine bP (rM h ‹_› (by omega) (by omega) fun zb zo zk zv zc=>?_)
 refine bP (di (bP (pT h ‹_› ‹_› (by rfl) ?_)))
 refine bP (jh (by omega) (cG (bP (uK h ‹_› (by rfl) ?_))))
 refine aP (ce h dZ (ccv h.ext) fun w h=>?_)
 refine cG (bP (nS PC.nil (by rfl) ?_))
 refine aP (ce h dZ (cce h.ext) fun w h=>?_)
 refine bP (xz (cG (bP (uK h ‹_› (by rfl) ?_))))
 refine bP (uK h ‹_› (by rfl) ?_)
 refine aP (ce h qn (ccs h.ext) fun w h=>?_)
 refine cG (bP (uK h ‹_› (by rfl) ?_))
 refine bP (uK h ‹_› (by rfl) ?_)
 refine aP (ce h qn (ccd h.ext) fun w h=>?_)
 refine bP (xz (cG (bP (bP (jh (by omega) (cG (bP (bP (jh (by omega) (cG (bP (bP (jh (by omega) (cG (bP (bP (jh (by omega) (cG ?_))))))))))))))))))
 exact hR _ h.ext
set_option maxHeartbeats 16000000 in
theorem Oo{gc gk gt gd gl:Nat}{ca ka ta da ra:Option Addr}{cb cc kb kc tb tc db dc rb rc:Nat}(bc:cM w0 gc jA [bh (tx (qq 1 10)).1,bh (tx (qq 1 10)).2,.slice ca cb cc])(sc:dJ w0 15 (.slice ca cb cc) 1 ((GJ.map wr).flatMap fW))(bk:cM w0 gk jA [bh (tx (qq 1 10)).1,bh (tx (qq 1 10)).2,.slice ka kb kc])(sk:dJ w0 15 (.slice ka kb kc) 1 ((EX.map wr).flatMap fW))(sr:dJ w0 1 (.slice ra rb rc) 1 (([0]:List Nat).flatMap fN))
 (bt:cM w0 gt jA [bh (tx (qq 1 10)).1,bh (tx (qq 1 10)).2,.slice ta tb tc]) (st:dJ w0 15 (.slice ta tb tc) 2 ((LN.map wr).flatMap fW)) (bd:cM w0 gd jA [bh (tx (qq 1 10)).1,bh (tx (qq 1 10)).2,.slice da db dc]) (sd:dJ w0 15 (.slice da db dc) 1 ((GK.map wr).flatMap fW)) (bl:cM w0 gl tR (fR (tx (qq 1 20)))):
 np prog (.bool false) (pr gc 0) (pr gd 0) (pr gk 0) (.slice ra rb rc) (pr gl 0) (pr gt 0) w0 R:=by
 have ccq1:∀ {W:World},bK w0 W->Calls prog 30 #[.int .i64 5,.int .i64 4] W (bQ fun r w'=>bK W w'/\r=vR (tx (qq 5 4))):=fun {W} e=>AQ (w:=W) (hE.hT.ext e) (by decide) (by decide) (by decide)
 have ccq2:∀ {W:World},bK w0 W->Calls prog 30 #[.int .i64 625,.int .i64 32] W (bQ fun r w'=>bK W w'/\r=vR (tx (qq 625 32))):=fun {W} e=>AQ (w:=W) (hE.hT.ext e) (by decide) (by decide) (by decide)
 have ccq3:∀ {W:World},bK w0 W->Calls prog 30 #[.int .i64 3125,.int .i64 64] W (bQ fun r w'=>bK W w'/\r=vR (tx (qq 3125 64))):=fun {W} e=>AQ (w:=W) (hE.hT.ext e) (by decide) (by decide) (by decide)
 have s1:iY ((GJ.map wr).flatMap fW) (0 * 15) (cW 1 2 100 (tx (qq 1 4)) (tx (qq 1 20)) (tx (qq 2 1)) (-1) 1 2 (tx (qq 5 4)) false):=cZ (f:=fW) (fun _=>rfl) (l:=GJ.map wr) (a:=wr ⟨1,2,100,qq 1 4,qq 1 20,qq 2 1,-1,1,2,qq 5 4,false⟩) rfl
 have s2:iY ((GK.map wr).flatMap fW) (0 * 15) (cW 1 2 100 (tx (qq 1 4)) (tx (qq 1 20)) (tx (qq 2 1)) (-1) 4 5 (tx (qq 625 32)) false):=cZ (f:=fW) (fun _=>rfl) (l:=GK.map wr) (a:=wr ⟨1,2,100,qq 1 4,qq 1 20,qq 2 1,-1,4,5,qq 625 32,false⟩) rfl
 have s3:iY ((EX.map wr).flatMap fW) (0 * 15) (cW 1 2 100 (tx (qq 1 4)) (tx (qq 1 20)) (tx (qq 2 1)) (-1) 6 6 (tx (qq 3125 64)) true):=cZ (f:=fW) (fun _=>rfl) (l:=EX.map wr) (a:=wr ⟨1,2,100,qq 1 4,qq 1 20,qq 2 1,-1,6,6,qq 3125 64,true⟩) rfl
 unfold np
 have h:=Hp.init [] w0
 refine cf ?_
 replace h:=h.dr
 refine di (LW h ‹_› (by rfl) ?_)
 refine rM h ‹_› (by omega) (by omega) fun zb zo zk zv zc=>?_
 refine di (Sd h ‹_› ‹_› (by rfl) ?_)
 refine ce h hZ (ccq1 h.ext) fun w h=>?_
 refine QI h ‹_› (by rfl) ?_
 refine ST h ‹_› ‹_› (by rfl) ?_
 refine GC ?_
 refine bP (di (bP (LW h ‹_› (by rfl) ?_)))
 refine bP (rM h ‹_› (by omega) (by omega) fun zb zo zk zv zc=>?_)
 refine bP (di (bP (Sd h ‹_› ‹_› (by rfl) ?_)))
 refine aP (ce h hZ (ccq2 h.ext) fun w h=>?_)
 refine FX ?_
 refine QI h ‹_› (by rfl) ?_
 refine FX ?_
 refine ST h ‹_› ‹_› (by rfl) ?_
 refine bP (GC ?_)
 refine cG (bP (di (bP (LW h ‹_› (by rfl) ?_))))
 refine bP (rM h ‹_› (by omega) (by omega) fun zb zo zk zv zc=>?_)
 refine bP (di (bP (Sd h ‹_› ‹_› (by rfl) ?_)))
 refine aP (ce h hZ (ccq3 h.ext) fun w h=>?_)
 refine FX ?_
 refine QI h ‹_› (by rfl) ?_
 refine FX ?_
 refine ST h ‹_› ‹_› (by rfl) ?_
 refine bP (GC ?_)
 refine cG (ck (P5 h ‹_› (by rfl) ?_))
 refine SW h ‹_› (by omega) (by omega) fun zb zo zk zv zc=>?_
 refine wD h ‹_› ‹_› (by rfl) ?_
 exact On (hE.ext h.ext) (fun W e=>hR W (h.ext.tr e)) (bk.ext h.ext) (sk.ext h.ext) (sr.ext h.ext) (bt.ext h.ext) (st.ext h.ext) (bd.ext h.ext) (sd.ext h.ext) (bl.ext h.ext)
set_option maxHeartbeats 16000000 in
theorem Oq{gc gk gt gd gl:Nat}{ca ka ta da ra xa ya:Option Addr}{cb cc kb kc tb tc db dc rb rc xb xc yb yc:Nat}(bc:cM w0 gc jA [bh (tx (qq 1 10)).1,bh (tx (qq 1 10)).2,.slice ca cb cc])(sc:dJ w0 15 (.slice ca cb cc) 1 ((GJ.map wr).flatMap fW))(bk:cM w0 gk jA [bh (tx (qq 1 10)).1,bh (tx (qq 1 10)).2,.slice ka kb kc])(sk:dJ w0 15 (.slice ka kb kc) 1 ((EX.map wr).flatMap fW))(sr:dJ w0 1 (.slice ra rb rc) 1 (([0]:List Nat).flatMap fN))
 (bt:cM w0 gt jA [bh (tx (qq 1 10)).1,bh (tx (qq 1 10)).2,.slice ta tb tc]) (st:dJ w0 15 (.slice ta tb tc) 2 ((LN.map wr).flatMap fW)) (bd:cM w0 gd jA [bh (tx (qq 1 10)).1,bh (tx (qq 1 10)).2,.slice da db dc]) (sd:dJ w0 15 (.slice da db dc) 1 ((GK.map wr).flatMap fW)) (bl:cM w0 gl tR (fR (tx (qq 1 20)))) (sx:dJ w0 1 (.slice xa xb xc) 0 []) (sy:dJ w0 1 (.slice ya yb yc) 0 []):
 ns prog (.bool false) (pr gc 0) (pr gd 0) (pr gk 0) (pr gt 0) (.slice xa xb xc) (.slice ya yb yc) (.slice ra rb rc) (pr gl 0) w0 R:=by
 unfold ns
 have h:=Hp.init [] w0
 refine cf (ck (P5 h ‹_› (by rfl) ?_))
 refine gS (sc.hp h) ?_
 refine cE (by omega) (ah (ck (ah (P5 h ‹_› (by rfl) ?_))))
 refine ah (gS (sd.hp h) ?_)
 refine ah (cE (by omega) (aw (ah (ck (ah (P5 h ‹_› (by rfl) ?_))))))
 refine ah (gS (sk.hp h) ?_)
 refine ah (cE (by omega) (aw (ah (ck (ah (P5 h ‹_› (by rfl) ?_))))))
 refine ah (gS (st.hp h) ?_)
 refine ah (cE (by omega) (aw (ah (ah (gS (sx.hp h) ?_)))))
 refine ah (d9 (by omega) (aw (ah (ah (gS (sy.hp h) ?_)))))
 refine ah (d9 (by omega) (aw ?_))
 exact Oo (hE.ext h.ext) (fun W e=>hR W (h.ext.tr e)) (bc.ext h.ext) (sc.ext h.ext) (bk.ext h.ext) (sk.ext h.ext) (sr.ext h.ext) (bt.ext h.ext) (st.ext h.ext) (bd.ext h.ext) (sd.ext h.ext) (bl.ext h.ext)
set_option maxHeartbeats 16000000 in
theorem Ot{gw:Nat}{gc gk gd gl:Nat}{ca ka da ra xa ya:Option Addr}{cb cc kb kc db dc rb rc xb xc yb yc:Nat}(bc:cM w0 gc jA [bh (tx (qq 1 10)).1,bh (tx (qq 1 10)).2,.slice ca cb cc])(sc:dJ w0 15 (.slice ca cb cc) 1 ((GJ.map wr).flatMap fW))(bk:cM w0 gk jA [bh (tx (qq 1 10)).1,bh (tx (qq 1 10)).2,.slice ka kb kc])(sk:dJ w0 15 (.slice ka kb kc) 1 ((EX.map wr).flatMap fW))(sr:dJ w0 1 (.slice ra rb rc) 1 (([0]:List Nat).flatMap fN))
 (bd:cM w0 gd jA [bh (tx (qq 1 10)).1,bh (tx (qq 1 10)).2,.slice da db dc]) (sd:dJ w0 15 (.slice da db dc) 1 ((GK.map wr).flatMap fW)) (bl:cM w0 gl tR (fR (tx (qq 1 20)))) (sx:dJ w0 1 (.slice xa xb xc) 0 []) (sy:dJ w0 1 (.slice ya yb yc) 0 []) (bw:cM w0 gw gM [.int .i64 1,.int .i64 2,.int .i64 100,bh (tx (qq 1 4)).1,bh (tx (qq 1 4)).2,bh (tx (qq 1 20)).1,bh (tx (qq 1 20)).2,bh (tx (qq 2 1)).1,bh (tx (qq 2 1)).2,.int .i64 (-1),.int .i64 0,.int .i64 0,bh [],bh [],.bool false]):
 nt prog (pr gk 0) (pr gw 0) (.int .i64 0) (.int .i64 0) (.int .i64 0) (.int .i64 0) (.int .i64 0) (.int .i64 0) (pr gc 0) (pr gd 0) (.slice xa xb xc) (.slice ya yb yc) (.slice ra rb rc) (pr gl 0) w0 R:=by
 have ccq1:∀ {W:World},bK w0 W->Calls prog 30 #[.int .i64 3,.int .i64 2] W (bQ fun r w'=>bK W w'/\r=vR (tx (qq 3 2))):=fun {W} e=>AQ (w:=W) (hE.hT.ext e) (by decide) (by decide) (by decide)
 have hk32:yG (tx (qq 3 2)):=by
  have h:=Sm.rb (zt (by decide):Sm 1000 (qq 3 2)) (.inr rfl)
  exact⟨cv h.n,cv h.d⟩
 have cco:∀ {W:World},bK w0 W->Calls prog 17 #[vR (tx (qq 3 2))] W (bQ fun r w'=>bK W w'/\r=.tuple #[vA ([],[]) (.slice none 0 0),.int .i64 280]):=fun {W} e=>by
  have:=zJ (w0:=W) (hE.ext e) hk32
  rw[kE fun⟨B,ws,e1,_,h⟩=>absurd (eZ e1 ▸ h.b.le:qq 3 2<=((1:Int):Rat)) (by decide+kernel)]at this
  exact this
 unfold nt
 have h:=Hp.init [] w0
 refine uJ h ‹_› (by rfl) ?_
 refine uJ h ‹_› (by rfl) ?_
 refine cu dT (yW (w:=LM) (ws:=EX) GN (by decide) (sk.ext h.ext) vi (hE.ext h.ext) GM) ?_
 rintro _ W1 ⟨a,b,c,rfl,h1⟩
 rw[QE]at h1
 have h:=h.cat1 h1 dM
 clear h1
 refine gN (du h fun g1 w h=>?_)
 refine de h 0 rfl rfl rfl rfl fun w h=>?_
 refine dy h 0 rfl rfl ?_
 refine uJ h ‹_› (by rfl) ?_
 dsimp only[List.set]at h
 have ccr:=IK (w0:=w) (w:=LM) (ws:=LN) QF (by decide) (qZ 1 h rfl) vi (hE.ext h.ext) LO
 refine cu dT ccr ?_
 rintro _ W1 ⟨x1,rfl⟩
 have h:=h.x x1
 clear ccr x1
 refine gN (du h fun g2 w h=>?_)
 refine de h 0 rfl rfl rfl rfl fun w h=>?_
 refine ce h hZ (ccq1 h.ext) fun w h=>?_
 refine ce h mU (cco h.ext) fun w h=>?_
 refine gN (du h fun g3 w h=>?_)
 refine de h 0 rfl rfl rfl rfl fun w h=>?_
 refine cE (by omega) (ah (ah (cE (by omega) (aw (ah (ah (cE (by omega) (aw (ah (ah (cE (by omega) (aw (ah (ah (cE (by omega) (aw (ah (ah (cE (by omega) (aw (ah (ah (cE (by omega) (aw (ah (ah (cE (by omega) (aw (ah (ah (cE (by omega) (aw ?_))))))))))))))))))))))))))))))))
 dsimp only[List.set]at h
 exact Oq (hE.ext h.ext) (fun W e=>hR W (h.ext.tr e)) (bc.ext h.ext) (sc.ext h.ext) (bk.ext h.ext) (sk.ext h.ext) (sr.ext h.ext) (h.get (i:=2) rfl) (qZ 3 h rfl) (bd.ext h.ext) (sd.ext h.ext) (bl.ext h.ext) (sx.ext h.ext) (sy.ext h.ext)
set_option maxHeartbeats 16000000 in
theorem Ou{gl gw gc gd:Nat}{ca da xa ya:Option Addr}{cb cc db dc xb xc yb yc:Nat}(bc:cM w0 gc jA [bh (tx (qq 1 10)).1,bh (tx (qq 1 10)).2,.slice ca cb cc])(sc:dJ w0 15 (.slice ca cb cc) 1 ((GJ.map wr).flatMap fW))(bd:cM w0 gd jA [bh (tx (qq 1 10)).1,bh (tx (qq 1 10)).2,.slice da db dc])(sd:dJ w0 15 (.slice da db dc) 1 ((GK.map wr).flatMap fW))(sx:dJ w0 1 (.slice xa xb xc) 0 [])(sy:dJ w0 1 (.slice ya yb yc) 0 [])(bl:cM w0 gl tR (fR (tx (qq 1 20))))(bw:cM w0 gw gM [.int .i64 1,.int .i64 2,.int .i64 100,bh (tx (qq 1 4)).1,bh (tx (qq 1 4)).2,bh (tx (qq 1 20)).1,bh (tx (qq 1 20)).2,bh (tx (qq 2 1)).1,bh (tx (qq 2 1)).2,.int .i64 (-1),.int .i64 0,.int .i64 0,bh [],bh [],.bool false]):
 nu prog (pr gd 0) (pr gw 0) (.int .i64 0) (.int .i64 0) (.int .i64 0) (.int .i64 0) (.int .i64 0) (pr gc 0) (.slice xa xb xc) (.slice ya yb yc) (pr gl 0) w0 R:=by
 have ccf0:=fun {W:World} (_:bK w0 W)=>oG (w0:=W) (t:=5) (lo:=200) (hi:=200) (by decide)
 have ccf1:=fun {W:World} (_:bK w0 W)=>oG (w0:=W) (t:=6) (lo:=200) (hi:=200) (by decide)
 unfold nu
 have h:=Hp.init [] w0
 refine K7.mk fun K lf=>?_
 have lf1:∀ {W:World} {g:Nat} {a a':Option Addr} {b c b' c':Nat},Hp [] w0 W [bx g jA [bh (tx (qq 1 10)).1,bh (tx (qq 1 10)).2,.slice a b c],ro gM 15 (.slice a b c) EX.length ((EX.map wr).flatMap fW),ro 3 1 (.slice a' b' c') ([0]:List Nat).length (([0]:List Nat).flatMap fN)]->K (pr g 0) (.slice a' b' c') (.int .i64 0) W:=fun {W} {g} {a} {a'} {b} {c} {b'} {c'} h=>lf _ _ _ W (by
  exact Ot (hE.ext h.ext) (fun W e=>hR W (h.ext.tr e)) (bc.ext h.ext) (sc.ext h.ext) (h.get (i:=0) rfl) (qZ 1 h rfl) (qZ 2 h rfl) (bd.ext h.ext) (sd.ext h.ext) (bl.ext h.ext) (sx.ext h.ext) (sy.ext h.ext) (bw.ext h.ext))
 clear lf
 replace h:=h.dr
 refine uK h ‹_› (by rfl) ?_
 refine⟨?_,?_⟩
 refine ce h dd (ccf0 h.ext) fun w h=>?_
 refine eT h ‹_› (by rfl) ?_
 refine⟨?_,?_⟩
 refine ce h dd (ccf1 h.ext) fun w h=>?_
 refine eT h ‹_› (by rfl) ?_
 refine⟨?_,?_⟩
 refine AH (vs:=[_,_]) h (.cons (by rfl) (by rfl) (.cons (by rfl) (by rfl) .nil)) (by rfl) (by rfl) (by decide) (by decide) (by decide) fun v1 w h=>?_
 refine eT h ‹_› (by rfl) ?_
 refine⟨?_,?_⟩
 ·refine cu cS (ja zy (by decide) (sd.ext h.ext) (hE.ext h.ext) ⟨by first | exact h.sl (i:=0) rfl | exact h.sl (i:=1) rfl | exact h.sl (i:=2) rfl,iK rJ,by decide⟩ rJ (by decide)) ?_
  rintro _ W1 ⟨a,b,c,a',b',c',rfl,h1⟩
  rw[HF,DP]at h1
  have h:=h.cat2 h1 dM dM
  clear h1
  refine kW (du h fun g1 w h=>?_)
  refine eT h ‹_› (by rfl) ?_
  refine de h 0 rfl rfl rfl rfl fun w h=>?_
  exact lf1 (h.pick [0,1,2] (by decide) rfl)
 ·refine du h fun g1 w h=>?_
  refine eT h ‹_› (by rfl) ?_
  refine cu cS (ja zy (by decide) (sd.ext h.ext) (hE.ext h.ext) ⟨by first | exact h.sl (i:=0) rfl | exact h.sl (i:=1) rfl | exact h.sl (i:=2) rfl,iK rJ,by decide⟩ rJ (by decide)) ?_
  rintro _ W1 ⟨a,b,c,a',b',c',rfl,h1⟩
  rw[HF,DP]at h1
  have h:=h.cat2 h1 dM dM
  clear h1
  refine kW (de h 2 rfl rfl rfl rfl fun w h=>?_)
  exact lf1 (h.pick [2,0,1] (by decide) rfl)
 ·refine du h fun g1 w h=>?_
  refine eT h ‹_› (by rfl) ?_
  refine AH (vs:=[_,_]) h (.cons (by rfl) (by rfl) (.cons (by rfl) (by rfl) .nil)) (by rfl) (by rfl) (by decide) (by decide) (by decide) fun v1 w h=>?_
  refine eT h ‹_› (by rfl) ?_
  refine cu cS (ja zy (by decide) (sd.ext h.ext) (hE.ext h.ext) ⟨by first | exact h.sl (i:=0) rfl | exact h.sl (i:=1) rfl | exact h.sl (i:=2) rfl,iK rJ,by decide⟩ rJ (by decide)) ?_
  rintro _ W1 ⟨a,b,c,a',b',c',rfl,h1⟩
  rw[HF,DP]at h1
  have h:=h.cat2 h1 dM dM
  clear h1
  refine kW (de h 3 rfl rfl rfl rfl fun w h=>?_)
  exact lf1 (h.pick [3,0,1] (by decide) rfl)
 ·refine du h fun g1 w h=>?_
  refine eT h ‹_› (by rfl) ?_
  refine ce h dd (ccf1 h.ext) fun w h=>?_
  refine eT h ‹_› (by rfl) ?_
  refine AH (vs:=[_,_]) h (.cons (by rfl) (by rfl) (.cons (by rfl) (by rfl) .nil)) (by rfl) (by rfl) (by decide) (by decide) (by decide) fun v1 w h=>?_
  refine eT h ‹_› (by rfl) ?_
  refine cu cS (ja zy (by decide) (sd.ext h.ext) (hE.ext h.ext) ⟨by first | exact h.sl (i:=0) rfl | exact h.sl (i:=1) rfl | exact h.sl (i:=2) rfl,iK rJ,by decide⟩ rJ (by decide)) ?_
  rintro _ W1 ⟨a,b,c,a',b',c',rfl,h1⟩
  rw[HF,DP]at h1
  have h:=h.cat2 h1 dM dM
  clear h1
  refine kW (de h 3 rfl rfl rfl rfl fun w h=>?_)
  exact lf1 (h.pick [3,0,1] (by decide) rfl)
 ·refine du h fun g1 w h=>?_
  refine eT h ‹_› (by rfl) ?_
  refine ce h dd (ccf0 h.ext) fun w h=>?_
  refine eT h ‹_› (by rfl) ?_
  refine ce h dd (ccf1 h.ext) fun w h=>?_
  refine eT h ‹_› (by rfl) ?_
  refine AH (vs:=[_,_]) h (.cons (by rfl) (by rfl) (.cons (by rfl) (by rfl) .nil)) (by rfl) (by rfl) (by decide) (by decide) (by decide) fun v1 w h=>?_
  refine eT h ‹_› (by rfl) ?_
  refine cu cS (ja zy (by decide) (sd.ext h.ext) (hE.ext h.ext) ⟨by first | exact h.sl (i:=0) rfl | exact h.sl (i:=1) rfl | exact h.sl (i:=2) rfl,iK rJ,by decide⟩ rJ (by decide)) ?_
  rintro _ W1 ⟨a,b,c,a',b',c',rfl,h1⟩
  rw[HF,DP]at h1
  have h:=h.cat2 h1 dM dM
  clear h1
  refine kW (de h 3 rfl rfl rfl rfl fun w h=>?_)
  exact lf1 (h.pick [3,0,1] (by decide) rfl)
set_option maxHeartbeats 16000000 in
theorem Ov{gl gw gc:Nat}{ca xa:Option Addr}{cb cc xb xc:Nat}(bc:cM w0 gc jA [bh (tx (qq 1 10)).1,bh (tx (qq 1 10)).2,.slice ca cb cc])(sc:dJ w0 15 (.slice ca cb cc) 1 ((GJ.map wr).flatMap fW))(sx:dJ w0 1 (.slice xa xb xc) 0 [])(bl:cM w0 gl tR (fR (tx (qq 1 20))))(bw:cM w0 gw gM [.int .i64 1,.int .i64 2,.int .i64 100,bh (tx (qq 1 4)).1,bh (tx (qq 1 4)).2,bh (tx (qq 1 20)).1,bh (tx (qq 1 20)).2,bh (tx (qq 2 1)).1,bh (tx (qq 2 1)).2,.int .i64 (-1),.int .i64 0,.int .i64 0,bh [],bh [],.bool false]):
 nv prog (pr gc 0) (pr gw 0) (.int .i64 0) (.int .i64 0) (.int .i64 0) (.int .i64 0) (.slice xa xb xc) (pr gl 0) w0 R:=by
 have ccf0:=fun {W:World} (_:bK w0 W)=>oG (w0:=W) (t:=2) (lo:=200) (hi:=200) (by decide)
 have ccf1:=fun {W:World} (_:bK w0 W)=>oG (w0:=W) (t:=3) (lo:=200) (hi:=200) (by decide)
 have ccf2:=fun {W:World} (_:bK w0 W)=>oG (w0:=W) (t:=4) (lo:=200) (hi:=200) (by decide)
 unfold nv
 have h:=Hp.init [] w0
 refine K7.mk fun K lf=>?_
 have lf1:∀ {W:World} {g:Nat} {a a':Option Addr} {b c b' c':Nat},Hp [] w0 W [bx g jA [bh (tx (qq 1 10)).1,bh (tx (qq 1 10)).2,.slice a b c],ro gM 15 (.slice a b c) GK.length ((GK.map wr).flatMap fW),ro 3 1 (.slice a' b' c') ([]:List Nat).length (([]:List Nat).flatMap fN)]->K (pr g 0) (.slice a' b' c') (.int .i64 0) W:=fun {W} {g} {a} {a'} {b} {c} {b'} {c'} h=>lf _ _ _ W (by
  exact Ou (hE.ext h.ext) (fun W e=>hR W (h.ext.tr e)) (bc.ext h.ext) (sc.ext h.ext) (h.get (i:=0) rfl) (qZ 1 h rfl) (sx.ext h.ext) (qZ 2 h rfl) (bl.ext h.ext) (bw.ext h.ext))
 clear lf
 replace h:=h.dr
 refine uK h ‹_› (by rfl) ?_
 refine⟨?_,?_⟩
 refine ce h dd (ccf0 h.ext) fun w h=>?_
 refine eT h ‹_› (by rfl) ?_
 refine⟨?_,?_⟩
 refine ce h dd (ccf1 h.ext) fun w h=>?_
 refine eT h ‹_› (by rfl) ?_
 refine⟨?_,?_⟩
 refine ce h dd (ccf2 h.ext) fun w h=>?_
 refine eT h ‹_› (by rfl) ?_
 refine⟨?_,?_⟩
 refine AH (vs:=[_,_,_]) h (.cons (by rfl) (by rfl) (.cons (by rfl) (by rfl) (.cons (by rfl) (by rfl) .nil))) (by rfl) (by rfl) (by decide) (by decide) (by decide) fun v1 w h=>?_
 refine eT h ‹_› (by rfl) ?_
 refine⟨?_,?_⟩
 ·refine cu cS (ja zx (by decide) (sc.ext h.ext) (hE.ext h.ext) ⟨by first | exact h.sl (i:=0) rfl | exact h.sl (i:=1) rfl | exact h.sl (i:=2) rfl,iK po,by decide⟩ po (by decide)) ?_
  rintro _ W1 ⟨a,b,c,a',b',c',rfl,h1⟩
  rw[Fi,BD]at h1
  have h:=h.cat2 h1 dM dM
  clear h1
  refine kW (du h fun g1 w h=>?_)
  refine eT h ‹_› (by rfl) ?_
  refine de h 0 rfl rfl rfl rfl fun w h=>?_
  exact lf1 (h.pick [0,1,2] (by decide) rfl)
 ·refine du h fun g1 w h=>?_
  refine eT h ‹_› (by rfl) ?_
  refine cu cS (ja zx (by decide) (sc.ext h.ext) (hE.ext h.ext) ⟨by first | exact h.sl (i:=0) rfl | exact h.sl (i:=1) rfl | exact h.sl (i:=2) rfl,iK po,by decide⟩ po (by decide)) ?_
  rintro _ W1 ⟨a,b,c,a',b',c',rfl,h1⟩
  rw[Fi,BD]at h1
  have h:=h.cat2 h1 dM dM
  clear h1
  refine kW (de h 2 rfl rfl rfl rfl fun w h=>?_)
  exact lf1 (h.pick [2,0,1] (by decide) rfl)
 ·refine du h fun g1 w h=>?_
  refine eT h ‹_› (by rfl) ?_
  refine AH (vs:=[_,_,_]) h (.cons (by rfl) (by rfl) (.cons (by rfl) (by rfl) (.cons (by rfl) (by rfl) .nil))) (by rfl) (by rfl) (by decide) (by decide) (by decide) fun v1 w h=>?_
  refine eT h ‹_› (by rfl) ?_
  refine cu cS (ja zx (by decide) (sc.ext h.ext) (hE.ext h.ext) ⟨by first | exact h.sl (i:=0) rfl | exact h.sl (i:=1) rfl | exact h.sl (i:=2) rfl,iK po,by decide⟩ po (by decide)) ?_
  rintro _ W1 ⟨a,b,c,a',b',c',rfl,h1⟩
  rw[Fi,BD]at h1
  have h:=h.cat2 h1 dM dM
  clear h1
  refine kW (de h 3 rfl rfl rfl rfl fun w h=>?_)
  exact lf1 (h.pick [3,0,1] (by decide) rfl)
 ·refine du h fun g1 w h=>?_
  refine eT h ‹_› (by rfl) ?_
  refine ce h dd (ccf2 h.ext) fun w h=>?_
  refine eT h ‹_› (by rfl) ?_
  refine AH (vs:=[_,_,_]) h (.cons (by rfl) (by rfl) (.cons (by rfl) (by rfl) (.cons (by rfl) (by rfl) .nil))) (by rfl) (by rfl) (by decide) (by decide) (by decide) fun v1 w h=>?_
  refine eT h ‹_› (by rfl) ?_
  refine cu cS (ja zx (by decide) (sc.ext h.ext) (hE.ext h.ext) ⟨by first | exact h.sl (i:=0) rfl | exact h.sl (i:=1) rfl | exact h.sl (i:=2) rfl,iK po,by decide⟩ po (by decide)) ?_
  rintro _ W1 ⟨a,b,c,a',b',c',rfl,h1⟩
  rw[Fi,BD]at h1
  have h:=h.cat2 h1 dM dM
  clear h1
  refine kW (de h 3 rfl rfl rfl rfl fun w h=>?_)
  exact lf1 (h.pick [3,0,1] (by decide) rfl)
 ·refine du h fun g1 w h=>?_
  refine eT h ‹_› (by rfl) ?_
  refine ce h dd (ccf1 h.ext) fun w h=>?_
  refine eT h ‹_› (by rfl) ?_
  refine ce h dd (ccf2 h.ext) fun w h=>?_
  refine eT h ‹_› (by rfl) ?_
  refine AH (vs:=[_,_,_]) h (.cons (by rfl) (by rfl) (.cons (by rfl) (by rfl) (.cons (by rfl) (by rfl) .nil))) (by rfl) (by rfl) (by decide) (by decide) (by decide) fun v1 w h=>?_
  refine eT h ‹_› (by rfl) ?_
  refine cu cS (ja zx (by decide) (sc.ext h.ext) (hE.ext h.ext) ⟨by first | exact h.sl (i:=0) rfl | exact h.sl (i:=1) rfl | exact h.sl (i:=2) rfl,iK po,by decide⟩ po (by decide)) ?_
  rintro _ W1 ⟨a,b,c,a',b',c',rfl,h1⟩
  rw[Fi,BD]at h1
  have h:=h.cat2 h1 dM dM
  clear h1
  refine kW (de h 3 rfl rfl rfl rfl fun w h=>?_)
  exact lf1 (h.pick [3,0,1] (by decide) rfl)
 ·refine du h fun g1 w h=>?_
  refine eT h ‹_› (by rfl) ?_
  refine ce h dd (ccf0 h.ext) fun w h=>?_
  refine eT h ‹_› (by rfl) ?_
  refine ce h dd (ccf1 h.ext) fun w h=>?_
  refine eT h ‹_› (by rfl) ?_
  refine ce h dd (ccf2 h.ext) fun w h=>?_
  refine eT h ‹_› (by rfl) ?_
  refine AH (vs:=[_,_,_]) h (.cons (by rfl) (by rfl) (.cons (by rfl) (by rfl) (.cons (by rfl) (by rfl) .nil))) (by rfl) (by rfl) (by decide) (by decide) (by decide) fun v1 w h=>?_
  refine eT h ‹_› (by rfl) ?_
  refine cu cS (ja zx (by decide) (sc.ext h.ext) (hE.ext h.ext) ⟨by first | exact h.sl (i:=0) rfl | exact h.sl (i:=1) rfl | exact h.sl (i:=2) rfl,iK po,by decide⟩ po (by decide)) ?_
  rintro _ W1 ⟨a,b,c,a',b',c',rfl,h1⟩
  rw[Fi,BD]at h1
  have h:=h.cat2 h1 dM dM
  clear h1
  refine kW (de h 3 rfl rfl rfl rfl fun w h=>?_)
  exact lf1 (h.pick [3,0,1] (by decide) rfl)
end
set_option maxHeartbeats 16000000 in
theorem Ow{w0:World}(hE:En w0):Calls prog 9 #[] w0 (bQ fun r w'=>bK w0 w'/\r=.bool true):=by
 have ccq1:∀ {W:World},bK w0 W->Calls prog 30 #[.int .i64 1,.int .i64 10] W (bQ fun r w'=>bK W w'/\r=vR (tx (qq 1 10))):=fun {W} e=>AQ (w:=W) (hE.hT.ext e) (by decide) (by decide) (by decide)
 have ccq2:∀ {W:World},bK w0 W->Calls prog 30 #[.int .i64 1,.int .i64 4] W (bQ fun r w'=>bK W w'/\r=vR (tx (qq 1 4))):=fun {W} e=>AQ (w:=W) (hE.hT.ext e) (by decide) (by decide) (by decide)
 have ccq3:∀ {W:World},bK w0 W->Calls prog 30 #[.int .i64 1,.int .i64 20] W (bQ fun r w'=>bK W w'/\r=vR (tx (qq 1 20))):=fun {W} e=>AQ (w:=W) (hE.hT.ext e) (by decide) (by decide) (by decide)
 have ccq4:∀ {W:World},bK w0 W->Calls prog 30 #[.int .i64 2,.int .i64 1] W (bQ fun r w'=>bK W w'/\r=vR (tx (qq 2 1))):=fun {W} e=>AQ (w:=W) (hE.hT.ext e) (by decide) (by decide) (by decide)
 have hk10:yG (tx (qq 1 10)):=by
  have h:=Sm.rb (zt (by decide):Sm 1 (qq 1 10)) (.inl rfl)
  exact⟨cv h.n,cv h.d⟩
 have cco:∀ {W:World},bK w0 W->Calls prog 17 #[vR (tx (qq 1 10))] W (bQ fun r w'=>bK W w'/\r=.tuple #[vA (tx (qq 1 10)) (.slice none 0 0),.int .i64 0]):=fun {W} e=>by
  have:=zJ (w0:=W) (hE.ext e) hk10
  rw[show wu (tx (qq 1 10)) []=true from mC ⟨_,[],rfl,rfl,Jq.va (by decide)⟩]at this
  exact this
 apply Cn
 unfold rH
 have h:=Hp.init [] w0
 refine ce h hZ (ccq1 h.ext) fun w h=>?_
 refine ce h mU (cco h.ext) fun w h=>?_
 refine gN (du h fun g1 w h=>?_)
 refine de h 0 rfl rfl rfl rfl fun w h=>?_
 refine ce h hZ (ccq2 h.ext) fun w h=>?_
 refine ce h hZ (ccq3 h.ext) fun w h=>?_
 refine ce h hZ (ccq4 h.ext) fun w h=>?_
 refine u7 (PC.cons (by rfl) (PC.cons (by rfl) (PC.cons (by rfl) (PC.cons (by rfl) (PC.cons (by rfl) (PC.cons (by rfl) (PC.cons (by rfl) PC.nil))))))) (by rfl) ?_
 refine du h fun g2 w h=>?_
 refine de h 0 rfl rfl rfl rfl fun w h=>?_
 refine dy h 1 rfl rfl ?_
 refine dy h 0 rfl rfl ?_
 dsimp only[List.set]at h
 have h:=h.nil gM 15
 refine cu dT (yW (w:=LM) (ws:=[]) Jq (by decide) (qZ 0 h rfl) vi (hE.ext h.ext) GL) ?_
 rintro _ W1 ⟨a,b,c,rfl,h1⟩
 rw[QD]at h1
 have h:=(h.cat1 h1 dM).pick [0,2,3] (by decide) rfl
 clear h1 ccq1 ccq2 ccq3 ccq4 cco
 refine gN (du h fun g3 w h=>?_)
 refine de h 0 rfl rfl rfl rfl fun w h=>?_
 refine dy h 0 rfl rfl ?_
 dsimp only[List.set]at h
 have ccl:=Ln (w0:=w) (ws:=Om) zu (by decide) (qZ 1 h rfl) (hE.ext h.ext)
 rw[LP]at ccl
 refine cu vN ccl ?_
 rintro _ W2 ⟨x2,rfl⟩
 have h:=h.x x2
 clear ccl x2
 refine gN (du h fun g4 w h=>?_)
 refine de h 0 rfl rfl rfl rfl fun w h=>?_
 dsimp only[List.set]at h
 have e0:=h.ext
 have bb:cM w g3 jA [bh (tx (qq 1 10)).1,bh (tx (qq 1 10)).2,.slice a b c]:=h.get (i:=1) rfl
 have sb:dJ w 15 (.slice a b c) 1 ((Om.map wr).flatMap fW):=h.sl (i:=2) rfl
 have bl:cM w g4 tR (fR (tx (qq 1 20))):=h.get (i:=0) rfl
 have bw:cM w g2 gM [.int .i64 1,.int .i64 2,.int .i64 100,bh (tx (qq 1 4)).1,bh (tx (qq 1 4)).2,bh (tx (qq 1 20)).1,bh (tx (qq 1 20)).2,bh (tx (qq 2 1)).1,bh (tx (qq 2 1)).2,.int .i64 (-1),.int .i64 0,.int .i64 0,bh [],bh [],.bool false]:=h.get (i:=3) rfl
 clear h
 have h:=Hp.init [] w
 have ccf0:=fun {W:World} (_:bK w W)=>oG (w0:=W) (t:=0) (lo:=101) (hi:=101) (by decide)
 have ccf1:=fun {W:World} (_:bK w W)=>oG (w0:=W) (t:=1) (lo:=90) (hi:=110) (by decide)
 refine K7.mk fun K lf=>?_
 have lf1:∀ {W:World} {g:Nat} {a a':Option Addr} {b c b' c':Nat},Hp [] w W [bx g jA [bh (tx (qq 1 10)).1,bh (tx (qq 1 10)).2,.slice a b c],ro gM 15 (.slice a b c) GJ.length ((GJ.map wr).flatMap fW),ro 3 1 (.slice a' b' c') ([]:List Nat).length (([]:List Nat).flatMap fN)]->K (pr g 0) (.slice a' b' c') (.int .i64 0) W:=fun {W} {g} {a} {a'} {b} {c} {b'} {c'} h=>lf _ _ _ W (by
  exact Ov (hE.ext (e0.tr h.ext)) (fun W e=>bQ.mk ⟨e0.tr (h.ext.tr e),rfl⟩) (h.get (i:=0) rfl) (qZ 1 h rfl) (qZ 2 h rfl) (bl.ext h.ext) (bw.ext h.ext))
 clear lf
 replace h:=h.dr
 refine uK h ‹_› (by rfl) ?_
 refine⟨?_,?_⟩
 refine ce h dd (ccf0 h.ext) fun w h=>?_
 refine eT h ‹_› (by rfl) ?_
 refine⟨?_,?_⟩
 refine ce h dd (ccf1 h.ext) fun w h=>?_
 refine eT h ‹_› (by rfl) ?_
 refine⟨?_,?_⟩
 refine AH (vs:=[_,_]) h (.cons (by rfl) (by rfl) (.cons (by rfl) (by rfl) .nil)) (by rfl) (by rfl) (by decide) (by decide) (by decide) fun v1 w h=>?_
 refine eT h ‹_› (by rfl) ?_
 refine⟨?_,?_⟩
 ·refine cu cS (ja zu (by decide) (sb.ext h.ext) (hE.ext (e0.tr h.ext)) ⟨by first | exact h.sl (i:=0) rfl | exact h.sl (i:=1) rfl | exact h.sl (i:=2) rfl,iK rI,by decide⟩ rI (by decide)) ?_
  rintro _ W1 ⟨a,b,c,a',b',c',rfl,h1⟩
  rw[HE,DM]at h1
  have h:=h.cat2 h1 dM dM
  clear h1
  refine kW (du h fun g5 w h=>?_)
  refine eT h ‹_› (by rfl) ?_
  refine de h 0 rfl rfl rfl rfl fun w h=>?_
  exact lf1 (h.pick [0,1,2] (by decide) rfl)
 ·refine du h fun g5 w h=>?_
  refine eT h ‹_› (by rfl) ?_
  refine cu cS (ja zu (by decide) (sb.ext h.ext) (hE.ext (e0.tr h.ext)) ⟨by first | exact h.sl (i:=0) rfl | exact h.sl (i:=1) rfl | exact h.sl (i:=2) rfl,iK rI,by decide⟩ rI (by decide)) ?_
  rintro _ W1 ⟨a,b,c,a',b',c',rfl,h1⟩
  rw[HE,DM]at h1
  have h:=h.cat2 h1 dM dM
  clear h1
  refine kW (de h 2 rfl rfl rfl rfl fun w h=>?_)
  exact lf1 (h.pick [2,0,1] (by decide) rfl)
 ·refine du h fun g5 w h=>?_
  refine eT h ‹_› (by rfl) ?_
  refine AH (vs:=[_,_]) h (.cons (by rfl) (by rfl) (.cons (by rfl) (by rfl) .nil)) (by rfl) (by rfl) (by decide) (by decide) (by decide) fun v1 w h=>?_
  refine eT h ‹_› (by rfl) ?_
  refine cu cS (ja zu (by decide) (sb.ext h.ext) (hE.ext (e0.tr h.ext)) ⟨by first | exact h.sl (i:=0) rfl | exact h.sl (i:=1) rfl | exact h.sl (i:=2) rfl,iK rI,by decide⟩ rI (by decide)) ?_
  rintro _ W1 ⟨a,b,c,a',b',c',rfl,h1⟩
  rw[HE,DM]at h1
  have h:=h.cat2 h1 dM dM
  clear h1
  refine kW (de h 3 rfl rfl rfl rfl fun w h=>?_)
  exact lf1 (h.pick [3,0,1] (by decide) rfl)
 ·refine du h fun g5 w h=>?_
  refine eT h ‹_› (by rfl) ?_
  refine ce h dd (ccf1 h.ext) fun w h=>?_
  refine eT h ‹_› (by rfl) ?_
  refine AH (vs:=[_,_]) h (.cons (by rfl) (by rfl) (.cons (by rfl) (by rfl) .nil)) (by rfl) (by rfl) (by decide) (by decide) (by decide) fun v1 w h=>?_
  refine eT h ‹_› (by rfl) ?_
  refine cu cS (ja zu (by decide) (sb.ext h.ext) (hE.ext (e0.tr h.ext)) ⟨by first | exact h.sl (i:=0) rfl | exact h.sl (i:=1) rfl | exact h.sl (i:=2) rfl,iK rI,by decide⟩ rI (by decide)) ?_
  rintro _ W1 ⟨a,b,c,a',b',c',rfl,h1⟩
  rw[HE,DM]at h1
  have h:=h.cat2 h1 dM dM
  clear h1
  refine kW (de h 3 rfl rfl rfl rfl fun w h=>?_)
  exact lf1 (h.pick [3,0,1] (by decide) rfl)
 ·refine du h fun g5 w h=>?_
  refine eT h ‹_› (by rfl) ?_
  refine ce h dd (ccf0 h.ext) fun w h=>?_
  refine eT h ‹_› (by rfl) ?_
  refine ce h dd (ccf1 h.ext) fun w h=>?_
  refine eT h ‹_› (by rfl) ?_
  refine AH (vs:=[_,_]) h (.cons (by rfl) (by rfl) (.cons (by rfl) (by rfl) .nil)) (by rfl) (by rfl) (by decide) (by decide) (by decide) fun v1 w h=>?_
  refine eT h ‹_› (by rfl) ?_
  refine cu cS (ja zu (by decide) (sb.ext h.ext) (hE.ext (e0.tr h.ext)) ⟨by first | exact h.sl (i:=0) rfl | exact h.sl (i:=1) rfl | exact h.sl (i:=2) rfl,iK rI,by decide⟩ rI (by decide)) ?_
  rintro _ W1 ⟨a,b,c,a',b',c',rfl,h1⟩
  rw[HE,DM]at h1
  have h:=h.cat2 h1 dM dM
  clear h1
  refine kW (de h 3 rfl rfl rfl rfl fun w h=>?_)
  exact lf1 (h.pick [3,0,1] (by decide) rfl)
end Go.Proofs.YtnkmbjedcjcccaaGreatDoor
