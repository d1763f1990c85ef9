/-
  Contracts and plain lemmas. By an AI agent.
-/
import Derived.Test.YtnkmbjedcjcccaaGreatDoorTyp
import Derived.Test.YtnkmbjedcjcccaaGreatDoorDwA
import Derived.Test.YtnkmbjedcjcccaaGreatDoorEsA
import Derived.Test.YtnkmbjedcjcccaaGreatDoorEngW
import Derived.Test.YtnkmbjedcjcccaaGreatDoorPlain
set_option linter.all false
namespace Go.Proofs.YtnkmbjedcjcccaaGreatDoor
open Tryz
open Go Go.Eng
set_option maxRecDepth 100000
def eL(P:Program)(t96:Value)(t1:Value)(w:World)(R:Ending->World->Prop):Prop:=
 If t96
 (R (.returned (.bool false)) w)
 (Cl P 78 #[(.int .i64 1000000)] w (Pk R) fun t97 w=>
 Bd P 25 [(0,t97),(1,(bh [49]))] w fun t98 w=>
 Al P 25 w fun t7 w=>
 cL P 25 t7 t98 w fun w=>
 Dv P true (Instr.fieldAt 30 t1 9) w.drew fun t99=>
 Dv P false (Instr.loadAt 25 t99) w.drew fun t100=>
 Dv P false (Instr.loadAt 25 (.pointer (some ⟨1,0,none⟩))) w.drew fun t101=>
 Cl P 34 #[t100,t101] w.drew (Pk R) fun t102 w=>
 Dv P true (bn .lss 3 true t102 (.int .i64 0)) w fun t103=>
 dx t103 false (fun k=>Dv P true (Instr.fieldAt 30 t1 9) w k) fun t105=>
 dx t103 false (fun k=>Dv P false (Instr.loadAt 25 t105) w k) fun t106=>
 dx t103 false (fun k=>Dv P false (Instr.loadAt 25 t7) w k) fun t107=>
 Gd t103 false (fun k=>Cl P 34 #[t106,t107] w (Pk R) k) w fun t108 w=>
 dx t103 false (fun k=>Dv P true (bn .gtr 3 true t108 (.int .i64 0)) w k) fun t109=>
 eH t103 (.bool true) t109 fun t110=>
 dx t110 false (fun k=>Dv P true (Instr.fieldAt 30 t1 5) w k) fun t112=>
 dx t110 false (fun k=>Dv P false (Instr.loadAt 25 t112) w k) fun t113=>
 dx t110 false (fun k=>Dv P true (Instr.fieldAt 30 t1 3) w k) fun t114=>
 dx t110 false (fun k=>Dv P false (Instr.loadAt 25 t114) w k) fun t115=>
 dx t110 false (fun k=>Dv P false (Instr.loadAt 25 (.pointer (some ⟨0,0,none⟩))) w k) fun t120=>
 Gd t110 false (fun k=>Cl P 32 #[t113,t115] w (Pk R) k) w fun t116 w=>
 Kg t110 false P (Instr.loadAt 25 (.pointer (some ⟨0,0,none⟩))) t120 w <|
 dx t110 false (fun k=>gR t116 0 k) fun t117=>
 dx t110 false (fun k=>gR t116 1 k) fun t118=>
 Gd t110 false (fun k=>Cl P 52 #[t117,t118] w (Pk R) k) w fun t119 w=>
 Kg t110 false P (Instr.loadAt 25 (.pointer (some ⟨0,0,none⟩))) t120 w <|
 Gd t110 false (fun k=>Cl P 34 #[t119,t120] w (Pk R) k) w fun t121 w=>
 dx t110 false (fun k=>Dv P true (bn .gtr 3 true t121 (.int .i64 0)) w k) fun t122=>
 eH t110 (.bool true) t122 fun t123=>
 If t123
 (R (.returned (.bool false)) w)
 (Dv P true (Instr.fieldAt 30 t1 10) w.drew fun t124=>
 Dv P false (Instr.loadAt 4 t124) w.drew fun t125=>
 Dv P false (Instr.loadAt 30 t1) w.drew fun t126=>
 Cl P 61 #[t126] w.drew (Pk R) fun t127 w=>
 Ke P (Instr.loadAt 4 t124) t125 w <|
 Dv P true (bn .eql 4 false t125 t127) w fun t128=>
 R (.returned t128) w))
def fE(P:Program)(t1:Value)(t37:Value)(t68:Value)(w:World)(R:Ending->World->Prop):Prop:=
 Fa P 30 t1 9 w fun t70 w=>
 Fa P 25 t70 1 w fun t71 w=>
 Ld P 9 t71 w fun t72 w=>
 Cl P 76 #[t72] w (Pk R) fun t73 w=>
 Ex t73 0 w fun t74 w=>
 Ex t73 1 w fun t75 w=>
 Un P .not t37 w fun t77 w=>
 Gd t77 false (fun k=>k t68 w) w fun t79 w=>
 Gd t77 false (fun k=>Un P .not t79 w k) w fun t80 w=>
 cH t77 (.bool true) t80 w fun t81 w=>
 Gd t81 false (fun k=>k t75 w) w fun t83 w=>
 Gd t81 false (fun k=>Bn P .neq 123 true t83 .nilIface w k) w fun t84 w=>
 cH t81 (.bool true) t84 w fun t85 w=>
 Gd t85 false (fun k=>Fa P 30 t1 9 w k) w fun t87 w=>
 Gd t85 false (fun k=>Ld P 25 t87 w k) w fun t88 w=>
 Gd t85 false (fun k=>Cl P 72 #[t88] w (Pk R) k) w fun t89 w=>
 Gd t85 false (fun k=>Un P .not t89 w k) w fun t90 w=>
 cH t85 (.bool true) t90 w fun t91 w=>
 Gd t91 false (fun k=>k t74 w) w fun t93 w=>
 Gd t91 false (fun k=>Bn P .rem 3 true (.int .i64 1000000000000) t93 w k) w fun t94 w=>
 Gd t91 false (fun k=>Bn P .neq 3 true t94 (.int .i64 0) w k) w fun t95 w=>
 cH t91 (.bool true) t95 w fun t96 w=>
 eL P t96 t1 w R
def ek(P:Program)(t1:Value)(t37:Value)(w:World)(R:Ending->World->Prop):Prop:=
 Fa P 30 t1 3 w fun t38 w=>
 Ld P 25 t38 w fun t39 w=>
 Cl P 41 #[t39,(bh [49])] w (Pk R) fun t40 w=>
 Gd t40 true (fun k=>Fa P 30 t1 4 w k) w fun t42 w=>
 Gd t40 true (fun k=>Ld P 25 t42 w k) w fun t43 w=>
 Gd t40 true (fun k=>Cl P 41 #[t43,(bh [49])] w (Pk R) k) w fun t44 w=>
 cH t40 t44 (.bool false) w fun t45 w=>
 Gd t45 true (fun k=>Fa P 30 t1 5 w k) w fun t47 w=>
 Gd t45 true (fun k=>Ld P 25 t47 w k) w fun t48 w=>
 Gd t45 true (fun k=>Cl P 41 #[t48,(bh [49,48,48,48])] w (Pk R) k) w fun t49 w=>
 cH t45 t49 (.bool false) w fun t50 w=>
 Gd t50 true (fun k=>Fa P 30 t1 3 w k) w fun t52 w=>
 Gd t50 true (fun k=>Ld P 25 t52 w k) w fun t53 w=>
 Gd t50 true (fun k=>Ld P 25 (.pointer (some ⟨1,0,none⟩)) w k) w fun t54 w=>
 Gd t50 true (fun k=>Bn P .neq 25 false t53 t54 w k) w fun t55 w=>
 cH t50 t55 (.bool false) w fun t56 w=>
 Gd t56 true (fun k=>Fa P 30 t1 3 w k) w fun t58 w=>
 Gd t56 true (fun k=>Ld P 25 t58 w k) w fun t59 w=>
 Gd t56 true (fun k=>Ld P 25 (.pointer (some ⟨0,0,none⟩)) w k) w fun t60 w=>
 Gd t56 true (fun k=>Bn P .neq 25 false t59 t60 w k) w fun t61 w=>
 cH t56 t61 (.bool false) w fun t62 w=>
 Gd t62 true (fun k=>Fa P 30 t1 4 w k) w fun t64 w=>
 Gd t62 true (fun k=>Ld P 25 t64 w k) w fun t65 w=>
 Gd t62 true (fun k=>Ld P 25 (.pointer (some ⟨1,0,none⟩)) w k) w fun t66 w=>
 Gd t62 true (fun k=>Bn P .neq 25 false t65 t66 w k) w fun t67 w=>
 cH t62 t67 (.bool false) w fun t68 w=>
 fE P t1 t37 t68 w R
def fG(P:Program)(t0:Value)(w:World)(R:Ending->World->Prop):Prop:=
 Bx P 30 t0 w fun t1 w=>
 Fa P 30 t1 0 w fun t8 w=>
 Ld P 3 t8 w fun t9 w=>
 Cl P 64 #[t9,(.int .i64 0),(.int .i64 11)] w (Pk R) fun t10 w=>
 Gd t10 true (fun k=>Fa P 30 t1 1 w k) w fun t12 w=>
 Gd t10 true (fun k=>Ld P 3 t12 w k) w fun t13 w=>
 Gd t10 true (fun k=>Cl P 64 #[t13,(.int .i64 0),(.int .i64 9)] w (Pk R) k) w fun t14 w=>
 cH t10 t14 (.bool false) w fun t15 w=>
 Gd t15 true (fun k=>Fa P 30 t1 2 w k) w fun t17 w=>
 Gd t15 true (fun k=>Ld P 3 t17 w k) w fun t18 w=>
 Gd t15 true (fun k=>Cl P 64 #[t18,(.int .i64 0),(.int .i64 4398046511104)] w (Pk R) k) w fun t19 w=>
 cH t15 t19 (.bool false) w fun t20 w=>
 Gd t20 true (fun k=>Fa P 30 t1 6 w k) w fun t22 w=>
 Gd t20 true (fun k=>Ld P 3 t22 w k) w fun t23 w=>
 Gd t20 true (fun k=>Cl P 64 #[t23,(.int .i64 (-1)),(.int .i64 999)] w (Pk R) k) w fun t24 w=>
 cH t20 t24 (.bool false) w fun t25 w=>
 Gd t25 true (fun k=>Fa P 30 t1 7 w k) w fun t27 w=>
 Gd t25 true (fun k=>Ld P 3 t27 w k) w fun t28 w=>
 Gd t25 true (fun k=>Fa P 30 t1 6 w k) w fun t29 w=>
 Gd t25 true (fun k=>Ld P 3 t29 w k) w fun t30 w=>
 Gd t25 true (fun k=>Cl P 64 #[t28,t30,(.int .i64 999)] w (Pk R) k) w fun t31 w=>
 cH t25 t31 (.bool false) w fun t32 w=>
 Gd t32 true (fun k=>Fa P 30 t1 8 w k) w fun t34 w=>
 Gd t32 true (fun k=>Ld P 3 t34 w k) w fun t35 w=>
 Gd t32 true (fun k=>Cl P 64 #[t35,(.int .i64 0),(.int .i64 1000000)] w (Pk R) k) w fun t36 w=>
 cH t32 t36 (.bool false) w fun t37 w=>
 ek P t1 t37 w R
theorem Ch{t0:Value}{w:World}{R:Ending->World->Prop}(h:fG prog t0 w R):Calls prog 44 #[t0] w R:=
 dW (.sq .z (.sq .z (.sq .z (.sq .z (.sq (.sq .z (.cd (.sq .z .z) .z)) (.sq .z (.sq (.sq (.dr (.pur true 0 (.pur false 1 (.pur false 2 (.eff 3 [] (.pur true 4 (.pur true 5 (.pur true 6 (.pur false 7 (.pur false 8 (.eff 9 [] (.pur true 10 (.pur true 11 (.pur true 12 (.pur true 13 (.pur false 14 (.pur true 15 (.pur false 16 (.pur false 21 (.eff 17 [21] (.pur true 18 (.pur true 19 (.eff 20 [21] (.eff 22 [] (.pur true 23 (.pur true 24 .done)))))))))))))))))))))))))) (.cd (.sq .z .z) .z)) (.sq (.dr (.pur true 0 (.pur false 1 (.pur false 2 (.eff 3 [1] (.pur true 4 (.pur true 5 .done))))))) .z)))))))) [t0] func44 (by kernel_rfl) (by kernel_rfl) h
def gP(P:Program)(t109:Value)(t1:Value)(w:World)(R:Ending->World->Prop):Prop:=
 dx t109 true (fun k=>Dv P true (Instr.fieldAt 30 t1 10) w k) fun t111=>
 dx t109 true (fun k=>Dv P false (Instr.loadAt 4 t111) w k) fun t112=>
 dx t109 true (fun k=>Dv P true (Instr.fieldAt 30 t1 9) w k) fun t113=>
 dx t109 true (fun k=>Dv P false (Instr.loadAt 25 t113) w k) fun t114=>
 dx t109 true (fun k=>Dv P true (Instr.fieldAt 30 t1 4) w k) fun t115=>
 dx t109 true (fun k=>Dv P false (Instr.loadAt 25 t115) w k) fun t116=>
 Gd t109 true (fun k=>Cl P 83 #[t114,t116] w (Pk R) k) w fun t117 w=>
 Kg t109 true P (Instr.loadAt 4 t111) t112 w <|
 dx t109 true (fun k=>Dv P true (bn .eql 4 false t112 t117) w k) fun t118=>
 eH t109 t118 (.bool false) fun t119=>
 R (.returned t119) w
def gQ(P:Program)(t104:Value)(t1:Value)(w:World)(R:Ending->World->Prop):Prop:=
 dx t104 true (fun k=>Dv P true (Instr.fieldAt 30 t1 9) w.drew k) fun t106=>
 dx t104 true (fun k=>Dv P false (Instr.loadAt 25 t106) w.drew k) fun t107=>
 Gd t104 true (fun k=>Cl P 82 #[t107] w.drew (Pk R) k) w.drew fun t108 w=>
 eH t104 t108 (.bool false) fun t109=>
 gP P t109 t1 w R
def el(P:Program)(t79:Value)(t1:Value)(w:World)(R:Ending->World->Prop):Prop:=
 If t79
 (R (.returned (.bool false)) w)
 (Fa P 30 t1 5 w fun t80 w=>
 Ld P 25 t80 w fun t81 w=>
 Fa P 30 t1 3 w fun t82 w=>
 Ld P 25 t82 w fun t83 w=>
 Cl P 81 #[t81,t83] w (Pk R) fun t84 w=>
 Cl P 55 #[(.int .i64 1),(.int .i64 1)] w (Pk R) fun t85 w=>
 Cl P 48 #[t84,t85] w (Pk R) fun t86 w=>
 Dv P true (Instr.fieldAt 30 t1 9) w.drew fun t87=>
 Dv P false (Instr.loadAt 25 t87) w.drew fun t88=>
 Cl P 55 #[(.int .i64 0),(.int .i64 1)] w.drew (Pk R) fun t89 w=>
 Ke P (Instr.loadAt 25 t87) t88 w <|
 Cl P 48 #[t88,t89] w (Pk R) fun t90 w=>
 Dv P true (Instr.fieldAt 30 t1 9) w.drew fun t91=>
 Dv P false (Instr.loadAt 25 t91) w.drew fun t92=>
 Cl P 55 #[(.int .i64 1000000),(.int .i64 1)] w.drew (Pk R) fun t93 w=>
 Ke P (Instr.loadAt 25 t91) t92 w <|
 Cl P 48 #[t92,t93] w (Pk R) fun t94 w=>
 Dv P true (bn .leq 3 true t86 (.int .i64 0)) w.drew fun t96=>
 dx t96 true (fun k=>k t90) fun t98=>
 dx t96 true (fun k=>Dv P true (bn .geq 3 true t98 (.int .i64 0)) w.drew k) fun t99=>
 eH t96 t99 (.bool false) fun t100=>
 dx t100 true (fun k=>k t94) fun t102=>
 dx t100 true (fun k=>Dv P true (bn .leq 3 true t102 (.int .i64 0)) w.drew k) fun t103=>
 eH t100 t103 (.bool false) fun t104=>
 gQ P t104 t1 w R)
def eV(P:Program)(t63:Value)(t1:Value)(w:World)(R:Ending->World->Prop):Prop:=
 If t63
 (R (.returned (.bool false)) w)
 (Dv P true (Instr.fieldAt 30 t1 3) w.drew fun t64=>
 Dv P false (Instr.loadAt 25 t64) w.drew fun t65=>
 Cl P 55 #[(.int .i64 0),(.int .i64 1)] w.drew (Pk R) fun t66 w=>
 Ke P (Instr.loadAt 25 t64) t65 w <|
 Dv P false (bn .eql 25 false t65 t66) w fun t67=>
 dx t67 false (fun k=>Dv P true (Instr.fieldAt 30 t1 3) w k) fun t69=>
 dx t67 false (fun k=>Dv P false (Instr.loadAt 25 t69) w k) fun t70=>
 Gd t67 false (fun k=>Cl P 55 #[(.int .i64 1),(.int .i64 1)] w (Pk R) k) w fun t71 w=>
 Kg t67 false P (Instr.loadAt 25 t69) t70 w <|
 dx t67 false (fun k=>Dv P false (bn .eql 25 false t70 t71) w k) fun t72=>
 eH t67 (.bool true) t72 fun t73=>
 dx t73 false (fun k=>Dv P true (Instr.fieldAt 30 t1 4) w k) fun t75=>
 dx t73 false (fun k=>Dv P false (Instr.loadAt 25 t75) w k) fun t76=>
 Gd t73 false (fun k=>Cl P 55 #[(.int .i64 0),(.int .i64 1)] w (Pk R) k) w fun t77 w=>
 Kg t73 false P (Instr.loadAt 25 t75) t76 w <|
 dx t73 false (fun k=>Dv P false (bn .eql 25 false t76 t77) w k) fun t78=>
 eH t73 (.bool true) t78 fun t79=>
 el P t79 t1 w R)
def eo(P:Program)(t41:Value)(t1:Value)(w:World)(R:Ending->World->Prop):Prop:=
 If t41
 (R (.returned (.bool false)) w)
 (Fa P 30 t1 3 w fun t42 w=>
 Ld P 25 t42 w fun t43 w=>
 Cl P 46 #[t43,(.int .i64 1)] w (Pk R) fun t44 w=>
 Un P .not t44 w fun t45 w=>
 Gd t45 false (fun k=>Fa P 30 t1 4 w k) w fun t47 w=>
 Gd t45 false (fun k=>Ld P 25 t47 w k) w fun t48 w=>
 Gd t45 false (fun k=>Cl P 46 #[t48,(.int .i64 1)] w (Pk R) k) w fun t49 w=>
 Gd t45 false (fun k=>Un P .not t49 w k) w fun t50 w=>
 cH t45 (.bool true) t50 w fun t51 w=>
 Gd t51 false (fun k=>Fa P 30 t1 5 w k) w fun t53 w=>
 Gd t51 false (fun k=>Ld P 25 t53 w k) w fun t54 w=>
 Gd t51 false (fun k=>Cl P 46 #[t54,(.int .i64 1000)] w (Pk R) k) w fun t55 w=>
 Gd t51 false (fun k=>Un P .not t55 w k) w fun t56 w=>
 cH t51 (.bool true) t56 w fun t57 w=>
 Gd t57 false (fun k=>Fa P 30 t1 9 w k) w fun t59 w=>
 Gd t57 false (fun k=>Ld P 25 t59 w k) w fun t60 w=>
 Gd t57 false (fun k=>Cl P 79 #[t60] w (Pk R) k) w fun t61 w=>
 Gd t57 false (fun k=>Un P .not t61 w k) w fun t62 w=>
 cH t57 (.bool true) t62 w fun t63 w=>
 eV P t63 t1 w R)
def eW(P:Program)(t0:Value)(w:World)(R:Ending->World->Prop):Prop:=
 Bx P 30 t0 w fun t1 w=>
 Fa P 30 t1 0 w fun t6 w=>
 Ld P 3 t6 w fun t7 w=>
 Cl P 65 #[t7,(.int .i64 0),(.int .i64 11)] w (Pk R) fun t8 w=>
 Un P .not t8 w fun t9 w=>
 Gd t9 false (fun k=>Fa P 30 t1 1 w k) w fun t11 w=>
 Gd t9 false (fun k=>Ld P 3 t11 w k) w fun t12 w=>
 Gd t9 false (fun k=>Cl P 65 #[t12,(.int .i64 0),(.int .i64 9)] w (Pk R) k) w fun t13 w=>
 Gd t9 false (fun k=>Un P .not t13 w k) w fun t14 w=>
 cH t9 (.bool true) t14 w fun t15 w=>
 Gd t15 false (fun k=>Fa P 30 t1 2 w k) w fun t17 w=>
 Gd t15 false (fun k=>Ld P 3 t17 w k) w fun t18 w=>
 Gd t15 false (fun k=>Cl P 65 #[t18,(.int .i64 0),(.int .i64 4398046511104)] w (Pk R) k) w fun t19 w=>
 Gd t15 false (fun k=>Un P .not t19 w k) w fun t20 w=>
 cH t15 (.bool true) t20 w fun t21 w=>
 Gd t21 false (fun k=>Fa P 30 t1 6 w k) w fun t23 w=>
 Gd t21 false (fun k=>Ld P 3 t23 w k) w fun t24 w=>
 Gd t21 false (fun k=>Cl P 65 #[t24,(.int .i64 (-1)),(.int .i64 999)] w (Pk R) k) w fun t25 w=>
 Gd t21 false (fun k=>Un P .not t25 w k) w fun t26 w=>
 cH t21 (.bool true) t26 w fun t27 w=>
 Gd t27 false (fun k=>Fa P 30 t1 7 w k) w fun t29 w=>
 Gd t27 false (fun k=>Ld P 3 t29 w k) w fun t30 w=>
 Gd t27 false (fun k=>Fa P 30 t1 6 w k) w fun t31 w=>
 Gd t27 false (fun k=>Ld P 3 t31 w k) w fun t32 w=>
 Gd t27 false (fun k=>Cl P 65 #[t30,t32,(.int .i64 999)] w (Pk R) k) w fun t33 w=>
 Gd t27 false (fun k=>Un P .not t33 w k) w fun t34 w=>
 cH t27 (.bool true) t34 w fun t35 w=>
 Gd t35 false (fun k=>Fa P 30 t1 8 w k) w fun t37 w=>
 Gd t35 false (fun k=>Ld P 3 t37 w k) w fun t38 w=>
 Gd t35 false (fun k=>Cl P 65 #[t38,(.int .i64 0),(.int .i64 1000000)] w (Pk R) k) w fun t39 w=>
 Gd t35 false (fun k=>Un P .not t39 w k) w fun t40 w=>
 cH t35 (.bool true) t40 w fun t41 w=>
 eo P t41 t1 w R
theorem AP{t0:Value}{w:World}{R:Ending->World->Prop}(h:eW prog t0 w R):Calls prog 47 #[t0] w R:=
 dW (.sq .z (.sq (.sq .z (.cd (.sq .z .z) .z)) (.sq (.sq .z (.cd (.sq .z .z) .z)) (.sq (.sq (.dr (.pur true 0 (.pur false 1 (.eff 2 [1] (.pur false 3 (.pur true 4 (.pur true 5 (.pur false 6 (.eff 7 [6] (.pur false 8 (.pur true 9 (.pur true 10 (.pur true 11 (.pur false 12 (.eff 13 [12] (.pur false 14 (.pur true 15 .done))))))))))))))))) (.cd (.sq .z .z) .z)) (.sq .z (.sq (.dr (.pur true 0 (.pur false 1 (.eff 2 [1] (.eff 3 [] (.pur true 4 .done)))))) (.sq (.dr (.pur true 0 (.pur false 1 (.eff 2 [1] (.eff 3 [] (.pur true 4 .done)))))) (.sq (.dr (.pur true 0 (.pur true 1 (.pur true 2 (.pur true 3 (.pur true 4 (.pur true 5 (.pur true 6 (.pur true 7 (.pur true 8 (.pur true 9 (.pur true 10 (.pur true 11 (.pur false 12 (.eff 13 [] (.pur true 14 (.pur true 15 (.pur true 16 (.pur false 17 (.pur true 18 (.pur false 19 (.pur true 20 (.pur false 21 (.eff 22 [17] (.pur true 23 (.pur true 24 (.pur true 25 .done))))))))))))))))))))))))))) .z)))))))) [t0] func47 (by kernel_rfl) (by kernel_rfl) h
end Go.Proofs.YtnkmbjedcjcccaaGreatDoor
namespace Go.Proofs.YtnkmbjedcjcccaaGreatDoor
open Tryz
open Go Go.Eng Go.Proofs Go.Num Go.RowKit
open Go.Alm (Ft Wt Sm VW VA)
set_option maxRecDepth 100000
abbrev RS:=List UInt8×List UInt8
abbrev tx(x:Rat):RS:=(Lib.itoa x.num,Lib.itoa (x.den:Int))
abbrev fR(p:RS):List Value:=[bh p.1,bh p.2]
abbrev fO(o:Option Rat):List Value:=[bh (eN o),bh (eD o)]
theorem eZ{x y:Rat}(h:tx x=tx y):x=y:=by
 unfold tx at h
 simp only[Prod.mk.injEq]at h
 have h1:=js h.1
 have h2:=js h.2
 exact Rat.ext h1 (by omega)
theorem GD{p:RS}(h:kB p.1 p.2):∃ x,p=tx x/\RB x:=by
 obtain⟨x,h1,h2,h3⟩:=h
 exact⟨x,Prod.ext h1 h2,h3⟩
theorem Ji{x:Rat}(h:RB x):kB (tx x).1 (tx x).2:=⟨x,rfl,rfl,h⟩
theorem iA{α:Type}{l:List α}{j:Nat}{a:α}(h:l[j]?=some a):l.take (j+1)=l.take j++[a]:=by
 rw[List.take_add_one,h];rfl
theorem DD{α:Type}{l:List α}{j:Nat}(h:j<=l.length):(l.take j).length=j:=by rw[List.length_take];omega
abbrev yG(p:RS):Prop:=p.1.length<=1000000/\p.2.length<=1000000
theorem Iq.one:Iq (1:Rat):=⟨by unfold Sz;decide,by unfold Sz;decide⟩
theorem Iq.zero:Iq (0:Rat):=⟨by unfold Sz;decide,by unfold Sz;decide⟩
theorem UH:RB (0:Rat):=Iq.rb Iq.zero
theorem UI:RB (1:Rat):=Iq.rb Iq.one
abbrev eS(z:Int):Prop:= -9223372036854775808<=z/\z<=9223372036854775807
abbrev qI(n:Int):Rat:=(n:Rat)
theorem uD{n:Int}(h:eS n):RB (qI n):=⟨by rw[Rat.num_intCast];exact EM h.1 h.2,by rw[Rat.den_intCast];exact EM (n:=((1:Nat):Int)) (by decide) (by decide)⟩
structure En(w:World):Prop where
 hT:kA w
 hE:HN w
 z0:cM w 1 25 [bh [48],bh [49]]
 z1:cM w 0 25 [bh [49],bh [49]]
theorem En.ext{w w':World}(h:En w)(x:bK w w'):En w':=⟨h.hT.ext x,h.hE.ext x,h.z0.ext x,h.z1.ext x⟩
abbrev gM:TypeId:=30
theorem Qz{x y:Rat}{w:World}(hx:RB x)(hy:RB y)(hT:kA w):Calls prog 34 #[ov (some x),ov (some y)] w (bQ fun r w'=>bK w w'/\r=.int .i64 (ig x y)):=by
 have:=OS (w:=w) (cv hx.n) (cv hx.d) (cv hy.n) (cv hy.d) hT
 rw[mJ hx hy]at this;exact this
theorem Oc{x y:Rat}{w:World}(hx:RB x)(hy:RB y):Calls prog 48 #[ov (some x),ov (some y)] w (bQ fun r w'=>bK w w'/\r=.int .i64 (ig x y)):=Lc hx hy
theorem jz(x y:Rat):ig x y<=0↔x<=y:=by
 rcases yZ x y with ⟨h,e⟩ | ⟨h,e⟩ | ⟨h,e⟩ <;> rw[e]
 ·exact⟨fun _=>Rat.le_of_lt h,fun _=>by decide⟩
 ·exact⟨fun _=>by rw[h];exact Rat.le_refl,fun _=>by decide⟩
 ·exact⟨fun h1=>absurd h1 (by decide),fun h1=>absurd h (Rat.not_lt.2 h1)⟩
theorem Od(x y:Rat):ig x y < 0↔x < y:=by
 rcases yZ x y with ⟨h,e⟩ | ⟨h,e⟩ | ⟨h,e⟩ <;> rw[e]
 ·exact⟨fun _=>h,fun _=>by decide⟩
 ·exact⟨fun h1=>absurd h1 (by decide),fun h1=>absurd h1 (by rw[h];exact Rat.lt_irrefl)⟩
 ·exact⟨fun h1=>absurd h1 (by decide),fun h1=>absurd h1 (Rat.not_lt.2 (Rat.le_of_lt h))⟩
theorem mg(x y:Rat):0<=ig x y↔y<=x:=by
 rw[<-Rat.not_lt,<-Od];omega
theorem GF:Lib.itoa ((1:Nat):Int)=[49]:=by
 unfold Lib.itoa;rw[if_neg (by decide)];exact jD (u:=1) (by decide)
theorem Jj(n:Int):ov (some (qI n))=.agg #[bh (Lib.itoa n),bh [49]]:=by
 show Value.agg #[bh (Lib.itoa (n:Rat).num),bh (Lib.itoa (((n:Rat).den:Nat):Int))]=_
 rw[Rat.num_intCast,Rat.den_intCast,GF]
theorem SL:ov (some 0)=.agg #[bh [48],bh [49]]:=by
 have:=Jj 0
 rw[wp]at this;exact this
theorem SM:ov (some 1)=.agg #[bh [49],bh [49]]:=by
 have:=Jj 1
 rw[show Lib.itoa 1=[49] from GF]at this;exact this
theorem UJ:fO (some 0)=[bh [48],bh [49]]:=by
 have:=SL
 simp only[ov,Value.agg.injEq]at this
 simpa using congrArg Array.toList this
theorem UL:fO (some 1)=[bh [49],bh [49]]:=by
 have:=SM
 simp only[ov,Value.agg.injEq]at this
 simpa using congrArg Array.toList this
theorem DE{a b c d:Nat}{x y:Rat}(hx:SR a b x)(hy:SR c d y)(ha:a+c<=200)(hb:b+d<=200):N4 (some x) (some y)=some (x * y):=by
 show(if(rd x y).2.2=0 then some (x * y) else none)=_
 rw[LC hx hy ha hb];rfl
theorem DG{a b c d k:Nat}{x y:Rat}(hx:SR a b x)(hy:SR c d y)(h1:a+d<=k)(h2:c+b<=k)(hk:k<=199)(hb:b+d<=200):N2 (some x) (some y)=some (x+y):=by
 show(if(ph x y).2.2=0 then some (x+y) else none)=_
 rw[LA hx hy h1 h2 hk hb];rfl
theorem DH{a b c d k:Nat}{x y:Rat}(hx:SR a b x)(hy:SR c d y)(h1:a+d<=k)(h2:c+b<=k)(hk:k<=199)(hb:b+d<=200):N3 (some x) (some y)=some (x - y):=by
 show(if(pj x y).2.2=0 then some (x - y) else none)=_
 rw[LB hx hy h1 h2 hk hb];rfl
theorem Ci{x c:Rat}{m:Int}{D:Nat}(h0:0<=x)(h1:x<=(m:Rat))(hm:0<=m)(hd:x.den<=D):x.num.natAbs<=m.toNat * D:=by
 have h2:=(Rat.le_iff x (m:Rat)).1 h1
 rw[Rat.num_intCast,Rat.den_intCast]at h2
 have h3:=Rat.num_nonneg.2 h0
 have h4:m * (x.den:Int)<=m * (D:Int):=Int.mul_le_mul_of_nonneg_left (by omega) hm
 have h5:(m.toNat:Int) * (D:Int)=m * (D:Int):=by rw[Int.toNat_of_nonneg hm]
 have h6:((m.toNat * D:Nat):Int)=m * (D:Int):=by rw[<-h5];push_cast;rfl
 have h7:x.num * ((1:Nat):Int)=x.num:=by omega
 rw[h7]at h2
 omega
theorem Sm.sr1{x:Rat}(h:Sm 1 x):SR 4 4 x:=by
 have h1:=Ci (c:=0) h.ge h.le (by decide) h.dn
 have h2:=h.dn
 constructor
 ·unfold Sz;have:(1:Int).toNat * 1000=1000:=rfl;omega
 ·unfold Sz;omega
theorem Sm.sr3{x:Rat}(h:Sm 1000 x):SR 7 4 x:=by
 have h1:=Ci (c:=0) h.ge h.le (by decide) h.dn
 have h2:=h.dn
 constructor
 ·unfold Sz;have:(1000:Int).toNat * 1000=1000000:=rfl;omega
 ·unfold Sz;omega
theorem zi{x:Rat}(h0:0<=x)(h1:x<=((1000000:Int):Rat))(hd:x.den ∣ 1000000000000):SR 19 13 x:=by
 have h2:=Nat.le_of_dvd (by decide) hd
 have h3:=Ci (c:=0) h0 h1 (by decide) h2
 constructor
 ·unfold Sz;have:(1000000:Int).toNat * 1000000000000=1000000000000000000:=rfl;omega
 ·unfold Sz;omega
theorem Sm.rb{m:Int}{x:Rat}(h:Sm m x)(hm:m=1\/m=1000):RB x:=by
 rcases hm with rfl | rfl
 ·exact(Sm.sr1 h).rb (by decide) (by decide)
 ·exact(Sm.sr3 h).rb (by decide) (by decide)
abbrev vR(p:RS):Value:=.agg #[bh p.1,bh p.2]
theorem M6:tx 0=([48],[49]):=by
 have:=UJ
 simp only[fO,List.cons.injEq,and_true]at this
 have a:eN (some 0)=[48]:=by simpa using this.1
 have b:eD (some 0)=[49]:=by simpa using this.2
 exact Prod.ext a b
theorem Oe:tx 1=([49],[49]):=by
 have:=UL
 simp only[fO,List.cons.injEq,and_true]at this
 have a:eN (some 1)=[49]:=by simpa using this.1
 have b:eD (some 1)=[49]:=by simpa using this.2
 exact Prod.ext a b
theorem UM(n:Int):tx (qI n)=(Lib.itoa n,[49]):=by
 unfold tx
 rw[Rat.num_intCast,Rat.den_intCast,GF]
section
variable{w:World}{x y:Rat}
theorem GG(hx:RB x)(hy:RB y)(hT:kA w):Calls prog 34 #[vR (tx x),vR (tx y)] w (bQ fun r w'=>bK w w'/\r=.int .i64 (ig x y)):=Qz hx hy hT
theorem Fg(hx:RB x)(hT:kA w):Calls prog 34 #[vR (tx x),.agg #[bh [48],bh [49]]] w (bQ fun r w'=>bK w w'/\r=.int .i64 (ig x 0)):=by
 have:=GG hx UH hT
 rw[M6]at this;exact this
theorem Jk(hx:RB x)(hT:kA w):Calls prog 34 #[vR (tx x),.agg #[bh [49],bh [49]]] w (bQ fun r w'=>bK w w'/\r=.int .i64 (ig x 1)):=by
 have:=GG hx UI hT
 rw[Oe]at this;exact this
theorem Fh{n:Int}{ms:List UInt8}(hx:RB x)(hn:eS n)(hms:Lib.itoa n=ms)(hT:kA w):Calls prog 34 #[vR (tx x),.agg #[bh ms,bh [49]]] w (bQ fun r w'=>bK w w'/\r=.int .i64 (ig x (qI n))):=by
 have:=GG hx (uD hn) hT
 rw[UM,hms]at this;exact this
theorem zj(hx:RB x)(hy:RB y):Calls prog 48 #[vR (tx x),vR (tx y)] w (bQ fun r w'=>bK w w'/\r=.int .i64 (ig x y)):=Oc hx hy
section
variable{a b c d k:Nat}
theorem GH(hx:SR a b x)(hy:SR c d y)(h1:a+c<=200)(h2:b+d<=200)(hT:kA w):Calls prog 32 #[vR (tx x),vR (tx y)] w (bQ fun r w'=>bK w w'/\r=.tuple #[vR (tx (x * y)),.int .i64 0]):=by
 have:=Qx (w:=w) (o:=some x) (p:=some y) (.some (hx.rb (by omega) (by omega))) (.some (hy.rb (by omega) (by omega))) hT
 rw[DE hx hy h1 h2]at this
 exact this
theorem M7(hx:SR a b x)(hy:SR c d y)(h1:a+d<=k)(h2:c+b<=k)(hk:k<=199)(hb:b+d<=200)(hT:kA w):Calls prog 35 #[vR (tx x),vR (tx y)] w (bQ fun r w'=>bK w w'/\r=.tuple #[vR (tx (x+y)),.int .i64 0]):=by
 have:=Qv (w:=w) (o:=some x) (p:=some y) (.some (hx.rb (by omega) (by omega))) (.some (hy.rb (by omega) (by omega))) hT
 rw[DG hx hy h1 h2 hk hb]at this
 exact this
theorem M8(hx:SR a b x)(hy:SR c d y)(h1:a+d<=k)(h2:c+b<=k)(hk:k<=199)(hb:b+d<=200)(hT:kA w):Calls prog 31 #[vR (tx x),vR (tx y)] w (bQ fun r w'=>bK w w'/\r=.tuple #[vR (tx (x - y)),.int .i64 0]):=by
 have:=Qw (w:=w) (o:=some x) (p:=some y) (.some (hx.rb (by omega) (by omega))) (.some (hy.rb (by omega) (by omega))) hT
 rw[DH hx hy h1 h2 hk hb]at this
 exact this
theorem QA(hx:SR a b x)(hy:SR c d y)(h1:a+c<=200)(h2:b+d<=200):Calls prog 120 #[vR (tx x),vR (tx y)] w (bQ fun r w'=>bK w w'/\r=.tuple #[vR (tx (x * y)),.int .i64 0]):=by
 have:=N7 (w:=w) (o:=some x) (p:=some y) (.some (hx.rb (by omega) (by omega))) (.some (hy.rb (by omega) (by omega)))
 rw[DE hx hy h1 h2]at this
 exact this
theorem QB(hx:SR a b x)(hy:SR c d y)(h1:a+d<=k)(h2:c+b<=k)(hk:k<=199)(hb:b+d<=200):Calls prog 128 #[vR (tx x),vR (tx y)] w (bQ fun r w'=>bK w w'/\r=.tuple #[vR (tx (x+y)),.int .i64 0]):=by
 have:=N5 (w:=w) (o:=some x) (p:=some y) (.some (hx.rb (by omega) (by omega))) (.some (hy.rb (by omega) (by omega)))
 rw[DG hx hy h1 h2 hk hb]at this
 exact this
theorem QC(hx:SR a b x)(hy:SR c d y)(h1:a+d<=k)(h2:c+b<=k)(hk:k<=199)(hb:b+d<=200):Calls prog 88 #[vR (tx x),vR (tx y)] w (bQ fun r w'=>bK w w'/\r=.tuple #[vR (tx (x - y)),.int .i64 0]):=by
 have:=N6 (w:=w) (o:=some x) (p:=some y) (.some (hx.rb (by omega) (by omega))) (.some (hy.rb (by omega) (by omega)))
 rw[DH hx hy h1 h2 hk hb]at this
 exact this
end
end
section
variable{w:World}{c n:Int}(hc:eS c)(hn:0 < n)
include hc hn
def cQ(c n:Int):Int:=if c < 0 then(-(c+1)) % n else c % n
omit hc in
theorem dQ:0<=cQ c n/\cQ c n < n:=by
 unfold cQ
 split
 ·exact⟨Int.emod_nonneg _ (by omega),Int.emod_lt_of_pos _ hn⟩
 ·exact⟨Int.emod_nonneg _ (by omega),Int.emod_lt_of_pos _ hn⟩
theorem ju:Calls prog 54 #[.int .i64 c,.int .i64 n] w (bQ fun r w'=>bK w w'/\r=.int .i64 (cQ c n)):=by
 apply C7
 unfold vZ
 have h:=Hp.init [] w
 by_cases h0:c < 0
 ·have e:cQ c n=(-(c+1)) % n:=by unfold cQ;rw[if_pos h0]
  rw[e]
  refine cy (by omega) (co (cF (by omega) (by omega) (Eng.Un_ng (by omega) (by omega) (qJ (by omega) (by omega) ?_))))
  exact bQ.mk ⟨h.ext,rfl⟩
 ·have e:cQ c n=c % n:=by unfold cQ;rw[if_neg h0]
  rw[e]
  refine cD (by omega) (cf (qJ (by omega) (by omega) ?_))
  exact bQ.mk ⟨h.ext,rfl⟩
theorem nX:Calls prog 27 #[.int .i64 c,.int .i64 n] w (bQ fun r w'=>bK w w'/\r=.int .i64 (cQ c n)):=by
 apply C3
 unfold vS
 have h:=Hp.init [] w
 by_cases h0:c < 0
 ·have e:cQ c n=(-(c+1)) % n:=by unfold cQ;rw[if_pos h0]
  rw[e]
  refine cy (by omega) (co (cF (by omega) (by omega) (Eng.Un_ng (by omega) (by omega) (qJ (by omega) (by omega) ?_))))
  exact bQ.mk ⟨h.ext,rfl⟩
 ·have e:cQ c n=c % n:=by unfold cQ;rw[if_neg h0]
  rw[e]
  refine cD (by omega) (cf (qJ (by omega) (by omega) ?_))
  exact bQ.mk ⟨h.ext,rfl⟩
end
section
variable{w:World}{n lo hi:Int}
theorem zm(h:lo<=n/\n<=hi):Calls prog 64 #[.int .i64 n,.int .i64 lo,.int .i64 hi] w (bQ fun r w'=>bK w w'/\r=.bool true):=by
 have h1:=h.1
 have h2:=h.2
 apply Am
 unfold uT
 have h:=Hp.init [] w
 refine ft (by omega) (aP (aP (aP (fp (by omega) (aQ ?_)))))
 exact bQ.mk ⟨h.ext,rfl⟩
theorem zq(h:¬(lo<=n/\n<=hi)):Calls prog 64 #[.int .i64 n,.int .i64 lo,.int .i64 hi] w (bQ fun r w'=>bK w w'/\r=.bool false):=by
 apply Am
 unfold uT
 by_cases h1:lo<=n
 ·have h2:hi < n:=by omega
  have h:=Hp.init [] w
  refine ft (by omega) (aP (aP (aP (jg (by omega) (aQ ?_)))))
  exact bQ.mk ⟨h.ext,rfl⟩
 ·have h:=Hp.init [] w
  refine jB (by omega) (aK (aK (aK (aw ?_))))
  exact bQ.mk ⟨h.ext,rfl⟩
theorem uE(h:lo<=n/\n<=hi):Calls prog 65 #[.int .i64 n,.int .i64 lo,.int .i64 hi] w (bQ fun r w'=>bK w w'/\r=.bool true):=by
 have h1:=h.1
 have h2:=h.2
 apply An
 unfold uU
 have h:=Hp.init [] w
 refine ft (by omega) (aP (aP (aP (fp (by omega) (aQ ?_)))))
 exact bQ.mk ⟨h.ext,rfl⟩
theorem uF(h:¬(lo<=n/\n<=hi)):Calls prog 65 #[.int .i64 n,.int .i64 lo,.int .i64 hi] w (bQ fun r w'=>bK w w'/\r=.bool false):=by
 apply An
 unfold uU
 by_cases h1:lo<=n
 ·have h2:hi < n:=by omega
  have h:=Hp.init [] w
  refine ft (by omega) (aP (aP (aP (jg (by omega) (aQ ?_)))))
  exact bQ.mk ⟨h.ext,rfl⟩
 ·have h:=Hp.init [] w
  refine jB (by omega) (aK (aK (aK (aw ?_))))
  exact bQ.mk ⟨h.ext,rfl⟩
theorem rD(h:lo<=n/\n<=hi):Calls prog 133 #[.int .i64 n,.int .i64 lo,.int .i64 hi] w (bQ fun r w'=>bK w w'/\r=.bool true):=by
 have h1:=h.1
 have h2:=h.2
 apply sK
 unfold nJ
 have h:=Hp.init [] w
 refine ft (by omega) (aP (aP (aP (fp (by omega) (aQ ?_)))))
 exact bQ.mk ⟨h.ext,rfl⟩
theorem rE(h:¬(lo<=n/\n<=hi)):Calls prog 133 #[.int .i64 n,.int .i64 lo,.int .i64 hi] w (bQ fun r w'=>bK w w'/\r=.bool false):=by
 apply sK
 unfold nJ
 by_cases h1:lo<=n
 ·have h2:hi < n:=by omega
  have h:=Hp.init [] w
  refine ft (by omega) (aP (aP (aP (jg (by omega) (aQ ?_)))))
  exact bQ.mk ⟨h.ext,rfl⟩
 ·have h:=Hp.init [] w
  refine jB (by omega) (aK (aK (aK (aw ?_))))
  exact bQ.mk ⟨h.ext,rfl⟩
theorem uG(h:lo<=n/\n<=hi):Calls prog 137 #[.int .i64 n,.int .i64 lo,.int .i64 hi] w (bQ fun r w'=>bK w w'/\r=.bool true):=by
 have h1:=h.1
 have h2:=h.2
 apply Ad
 unfold uR
 have h:=Hp.init [] w
 refine ft (by omega) (aP (aP (aP (fp (by omega) (aQ ?_)))))
 exact bQ.mk ⟨h.ext,rfl⟩
theorem uH(h:¬(lo<=n/\n<=hi)):Calls prog 137 #[.int .i64 n,.int .i64 lo,.int .i64 hi] w (bQ fun r w'=>bK w w'/\r=.bool false):=by
 apply Ad
 unfold uR
 by_cases h1:lo<=n
 ·have h2:hi < n:=by omega
  have h:=Hp.init [] w
  refine ft (by omega) (aP (aP (aP (jg (by omega) (aQ ?_)))))
  exact bQ.mk ⟨h.ext,rfl⟩
 ·have h:=Hp.init [] w
  refine jB (by omega) (aK (aK (aK (aw ?_))))
  exact bQ.mk ⟨h.ext,rfl⟩
end
theorem wB{w:World}{p:RS}:Calls prog 52 #[vR p,.int .i64 0] w (bQ fun r w'=>bK w w'/\r=vR p):=by
 apply C6
 unfold vY
 have h:=Hp.init [] w
 refine ep h fun g1 w h=>?_
 refine du h fun g2 w h=>?_
 refine cE (by omega) (cf (dy h 1 rfl rfl ?_))
 refine de h 0 rfl rfl rfl rfl fun w h=>?_
 refine mj h 0 rfl rfl ?_
 dsimp only[List.set]at h
 exact bQ.mk ⟨h.ext,rfl⟩
theorem T3{n d:Int}(hd:d≠0):rv (ie n d)=.tuple #[ov (some ((n:Rat) / d)),.int .i64 0]:=by
 unfold ie;rw[if_neg hd];rfl
theorem Og(n:Int):(n:Rat) / ((1:Int):Rat)=(n:Rat):=by grind
theorem AQ{w:World}{n d:Int}(hT:kA w)(hn:eS n)(hd:eS d)(h0:d≠0):Calls prog 30 #[.int .i64 n,.int .i64 d] w (bQ fun r w'=>bK w w'/\r=vR (tx ((n:Rat) / d))):=by
 have cc1:∀ {W:World},bK w W->Calls prog 66 #[.int .i64 n,.int .i64 d] W (bQ fun r w'=>bK W w'/\r=.tuple #[vR (tx ((n:Rat) / d)),.int .i64 0]):=fun {W} x=>by
  have:=SD (w:=W) (x:=n) (y:=d) (hT.ext x) hn.1 hn.2 hd.1 hd.2
  rw[T3 h0]at this
  exact this
 apply F6
 unfold Ag
 have h:=Hp.init [] w
 refine du h fun g1 w h=>?_
 refine ce h AZ (cc1 h.ext) fun w h=>?_
 refine gN (du h fun g2 w h=>?_)
 refine de h 0 rfl rfl rfl rfl fun w h=>?_
 refine cE (by omega) (cf (dy h 0 rfl rfl ?_))
 refine de h 1 rfl rfl rfl rfl fun w h=>?_
 refine mj h 1 rfl rfl ?_
 dsimp only[List.set]at h
 exact bQ.mk ⟨h.ext,rfl⟩
theorem Cj{w:World}{n d:Int}(hn:eS n)(hd:eS d)(h0:d≠0):Calls prog 55 #[.int .i64 n,.int .i64 d] w (bQ fun r w'=>bK w w'/\r=vR (tx ((n:Rat) / d))):=by
 have cc1:∀ {W:World},bK w W->Calls prog 89 #[.int .i64 n,.int .i64 d] W (bQ fun r w'=>bK W w'/\r=.tuple #[vR (tx ((n:Rat) / d)),.int .i64 0]):=fun {W} x=>by
  have:=Qe (w:=W) (x:=n) (y:=d) hn.1 hn.2 hd.1 hd.2
  rw[T3 h0]at this
  exact this
 apply F7
 unfold Ah
 have h:=Hp.init [] w
 refine du h fun g1 w h=>?_
 refine ce h F5 (cc1 h.ext) fun w h=>?_
 refine gN (du h fun g2 w h=>?_)
 refine de h 0 rfl rfl rfl rfl fun w h=>?_
 refine cE (by omega) (cf (dy h 0 rfl rfl ?_))
 refine de h 1 rfl rfl rfl rfl fun w h=>?_
 refine mj h 1 rfl rfl ?_
 dsimp only[List.set]at h
 exact bQ.mk ⟨h.ext,rfl⟩
theorem mh{w:World}{n:Int}(hn:eS n):Calls prog 55 #[.int .i64 n,.int .i64 1] w (bQ fun r w'=>bK w w'/\r=vR (tx (qI n))):=by
 have:=Cj (w:=w) (d:=1) hn (by decide) (by decide)
 rw[Og]at this
 exact this
theorem M9{t:TypeId}{a:Addr}{w:World}{K:Value->World->Prop}(hk:K (.bool false) w):Bn prog .eql 123 true (.iface t (.pointer (some a))) .nilIface w K:=by(repeat (first|simp -dsimp[go_sem]|simp -dsimp (disch:=omega)only[gL,gI]));exact hk
theorem DI{w:World}{K:Value->World->Prop}(hk:K (.bool true) w):Bn prog .eql 123 true .nilIface .nilIface w K:=by(repeat (first|simp -dsimp[go_sem]|simp -dsimp (disch:=omega)only[gL,gI]));exact hk
theorem Jl{w:World}{K:Value->World->Prop}(hk:K (.bool false) w):Bn prog .neq 123 true .nilIface .nilIface w K:=by(repeat (first|simp -dsimp[go_sem]|simp -dsimp (disch:=omega)only[gL,gI]));exact hk
theorem Na{t:TypeId}{a:Addr}{w:World}{K:Value->World->Prop}(hk:K (.bool true) w):Bn prog .neq 123 true (.iface t (.pointer (some a))) .nilIface w K:=by(repeat (first|simp -dsimp[go_sem]|simp -dsimp (disch:=omega)only[gL,gI]));exact hk
section
variable{w0:World}{p:RS}{m:Int}{ms:List UInt8}(hE:En w0)(hm:m=1\/m=1000)(hms:Lib.itoa m=ms)
include hE hm hms
theorem Jm{x:Rat}(h:Sm m x):Calls prog 41 #[vR (tx x),bh ms] w0 (bQ fun r w'=>bK w0 w'/\r=.bool true):=by
 have hB:=Sm.rb h hm
 have hI:eS m:=by omega
 have z1:=hE.z0
 have cc1:∀ {W:World},bK w0 W->Calls prog 76 #[bh (tx x).2] W (bQ fun r w'=>bK W w'/\r=.tuple #[.int .i64 (x.den:Int),.nilIface]):=fun {W} e=>by
  refine(wH (w:=W) (cv hB.d) (hE.hE.ext e)).mono ?_
  have hat:Lib.atoiAll (Lib.itoa (x.den:Int))=.ok (x.den:Int):=by
   have hd:=h.dn
   rw[kP,if_pos (by omega)]
  rintro _ w' ⟨_,rfl,x1,⟨v,h1,rfl⟩ | ⟨n,b,h1,rfl⟩⟩
  ·rw[hat]at h1
   cases h1
   exact bQ.mk ⟨x1,rfl⟩
  ·exact absurd hat (h1 _)
 have cc2:∀ {W:World},bK w0 W->Calls prog 72 #[vR (tx x)] W (bQ fun r w'=>bK W w'/\r=.bool true):=fun {W} e=>LK (w:=W) (o:=some x) (.some hB) (hE.hT.ext e)
 have cc3:=fun {W:World} (e:bK w0 W)=>Fg (w:=W) hB (hE.hT.ext e)
 have cc4:=fun {W:World} (e:bK w0 W)=>Fh (w:=W) hB hI hms (hE.hT.ext e)
 have q1:=(mg x 0).2 h.ge
 have q2:=(jz x (qI m)).2 h.le
 have q3:=h.dn
 apply jW
 unfold iH
 have h:=Hp.init [] w0
 refine ep h fun g1 w h=>?_
 refine ck (Eng.ld1 h 0 rfl rfl (ce h dX (cc1 h.ext) fun w h=>?_))
 refine gN (DI ?_)
 refine aP (dy h 0 rfl rfl ?_)
 refine aP (ce h dk (cc2 h.ext) fun w h=>?_)
 refine aQ (aP (aP (fp (by omega) (aQ (aP (dy h 0 rfl rfl ?_))))))
 refine aP (uJ h ‹_› (by rfl) ?_)
 refine aP (ce h cz (cc3 h.ext) fun w h=>?_)
 refine aP (ft (by omega) (aQ (aP (dy h 0 rfl rfl ?_))))
 refine aP (aP (u7 (PC.cons (by rfl) (PC.cons (by rfl) PC.nil)) (by rfl) ?_))
 refine aP (ce h cz (cc4 h.ext) fun w h=>?_)
 refine aP (fp (by omega) (aQ ?_))
 exact bQ.mk ⟨h.ext,rfl⟩
theorem vh(hk:yG p)(hno:¬∃ x,p=tx x/\Sm m x):Calls prog 41 #[vR p,bh ms] w0 (bQ fun r w'=>bK w0 w'/\r=.bool false):=by
 have hI:eS m:=by omega
 have z1:=hE.z0
 have hA:=fun {W:World} (e:bK w0 W)=>wH (w:=W) hk.2 (hE.hE.ext e)
 have hv:=fun {W:World} (e:bK w0 W)=>jG (w:=W) hk.1 hk.2 (hE.hT.ext e)
 by_cases ho:kB p.1 p.2
 rotate_left
 ·have cc2:∀ {W:World},bK w0 W->Calls prog 72 #[.agg #[bh p.1,bh p.2]] W (bQ fun r w'=>bK W w'/\r=.bool false):=fun {W} e=>by
   have:=hv e
   rw[jd ho]at this;exact this
  apply jW
  unfold iH
  have h:=Hp.init [] w0
  refine ep h fun g1 w h=>?_
  refine ck (Eng.ld1 h 0 rfl rfl (cu dX (hA h.ext) ?_))
  rintro _ w' ⟨x1,⟨v,h1,rfl⟩ | ⟨n,b,h1,rfl⟩⟩
  ·have h:=h.x x1
   refine gN (DI ?_)
   refine aP (dy h 0 rfl rfl ?_)
   refine aP (ce h dk (cc2 h.ext) fun w h=>?_)
   refine aQ (aK (aK (aw (aK (aK (aK (aK (aw (aK (aK (aK (aK (aK (aw ?_))))))))))))))
   exact bQ.mk ⟨h.ext,rfl⟩
  ·have h:=h.x x1
   refine gN (M9 ?_)
   refine aK (aK (aw (aK (aK (aw (aK (aK (aK (aK (aw (aK (aK (aK (aK (aK (aw ?_))))))))))))))))
   exact bQ.mk ⟨h.ext,rfl⟩
 obtain⟨x,rfl,hB⟩:=GD ho
 have cc2:∀ {W:World},bK w0 W->Calls prog 72 #[.agg #[bh (tx x).1,bh (tx x).2]] W (bQ fun r w'=>bK W w'/\r=.bool true):=fun {W} e=>by
  have:=hv e
  rw[iu ho]at this;exact this
 have hat:=kP (x.den:Int)
 have cc3:=fun {W:World} (e:bK w0 W)=>Fg (w:=W) hB (hE.hT.ext e)
 have cc4:=fun {W:World} (e:bK w0 W)=>Fh (w:=W) hB hI hms (hE.hT.ext e)
 by_cases hd:x.den<=1000
 rotate_left
 ·apply jW
  unfold iH
  have h:=Hp.init [] w0
  refine ep h fun g1 w h=>?_
  refine ck (Eng.ld1 h 0 rfl rfl (cu dX (hA h.ext) ?_))
  rintro _ w' ⟨x1,⟨v,h1,rfl⟩ | ⟨n,b,h1,rfl⟩⟩
  ·have h:=h.x x1
   have hv:v=(x.den:Int):=by
    have h1:Lib.atoiAll (Lib.itoa (x.den:Int))=.ok v:=h1
    rw[hat]at h1
    split at h1
    ·cases h1;rfl
    ·cases h1
   subst hv
   refine gN (DI ?_)
   refine aP (dy h 0 rfl rfl ?_)
   refine aP (ce h dk (cc2 h.ext) fun w h=>?_)
   refine aQ (aP (aP (jg (by omega) (aQ (aK (aK (aK (aK (aw (aK (aK (aK (aK (aK (aw ?_)))))))))))))))
   exact bQ.mk ⟨h.ext,rfl⟩
  ·have h:=h.x x1
   refine gN (M9 ?_)
   refine aK (aK (aw (aK (aK (aw (aK (aK (aK (aK (aw (aK (aK (aK (aK (aK (aw ?_))))))))))))))))
   exact bQ.mk ⟨h.ext,rfl⟩
 rw[if_pos (by omega)]at hat
 have cc1:∀ {W:World},bK w0 W->Calls prog 76 #[bh (tx x).2] W (bQ fun r w'=>bK W w'/\r=.tuple #[.int .i64 (x.den:Int),.nilIface]):=fun {W} e=>by
  refine(hA e).mono ?_
  rintro _ w' ⟨_,rfl,x1,⟨v,h1,rfl⟩ | ⟨n,b,h1,rfl⟩⟩
  ·have h1:Lib.atoiAll (Lib.itoa (x.den:Int))=.ok v:=h1
   rw[hat]at h1
   cases h1
   exact bQ.mk ⟨x1,rfl⟩
  ·exact absurd hat (h1 _)
 by_cases q1:0<=ig x 0
 rotate_left
 ·apply jW
  unfold iH
  have h:=Hp.init [] w0
  refine ep h fun g1 w h=>?_
  refine ck (Eng.ld1 h 0 rfl rfl (ce h dX (cc1 h.ext) fun w h=>?_))
  refine gN (DI ?_)
  refine aP (dy h 0 rfl rfl ?_)
  refine aP (ce h dk (cc2 h.ext) fun w h=>?_)
  refine aQ (aP (aP (fp (by omega) (aQ (aP (dy h 0 rfl rfl ?_))))))
  refine aP (uJ h ‹_› (by rfl) ?_)
  refine aP (ce h cz (cc3 h.ext) fun w h=>?_)
  refine aP (jB (by omega) (aQ (aK (aK (aK (aK (aK (aw ?_))))))))
  exact bQ.mk ⟨h.ext,rfl⟩
 by_cases q2:ig x (qI m)<=0
 ·exact absurd ⟨x,rfl,⟨(mg x 0).1 q1,(jz x (qI m)).1 q2,hd⟩⟩ hno
 ·apply jW
  unfold iH
  have h:=Hp.init [] w0
  refine ep h fun g1 w h=>?_
  refine ck (Eng.ld1 h 0 rfl rfl (ce h dX (cc1 h.ext) fun w h=>?_))
  refine gN (DI ?_)
  refine aP (dy h 0 rfl rfl ?_)
  refine aP (ce h dk (cc2 h.ext) fun w h=>?_)
  refine aQ (aP (aP (fp (by omega) (aQ (aP (dy h 0 rfl rfl ?_))))))
  refine aP (uJ h ‹_› (by rfl) ?_)
  refine aP (ce h cz (cc3 h.ext) fun w h=>?_)
  refine aP (ft (by omega) (aQ (aP (dy h 0 rfl rfl ?_))))
  refine aP (aP (u7 (PC.cons (by rfl) (PC.cons (by rfl) PC.nil)) (by rfl) ?_))
  refine aP (ce h cz (cc4 h.ext) fun w h=>?_)
  refine aP (jg (by omega) (aQ ?_))
  exact bQ.mk ⟨h.ext,rfl⟩
end
structure WR where
 op:Int
 ve:Int
 lim:Int
 m:RS
 a:RS
 b:RS
 st:Int
 th:Int
 sn:Int
 we:RS
 ru:Bool
abbrev fW(r:WR):List Value:=[.int .i64 r.op,.int .i64 r.ve,.int .i64 r.lim,bh r.m.1,bh r.m.2,bh r.a.1,bh r.a.2,bh r.b.1,bh r.b.2,.int .i64 r.st,.int .i64 r.th,.int .i64 r.sn,bh r.we.1,bh r.we.2,.bool r.ru]
abbrev vW(r:WR):Value:=.agg #[.int .i64 r.op,.int .i64 r.ve,.int .i64 r.lim,bh r.m.1,bh r.m.2,bh r.a.1,bh r.a.2,bh r.b.1,bh r.b.2,.int .i64 r.st,.int .i64 r.th,.int .i64 r.sn,bh r.we.1,bh r.we.2,.bool r.ru]
structure WRk(r:WR):Prop where
 op:eS r.op
 ve:eS r.ve
 lim:eS r.lim
 m:yG r.m
 a:yG r.a
 b:yG r.b
 st:eS r.st
 th:eS r.th
 sn:eS r.sn
 we:yG r.we
abbrev wr(w:Wt):WR:=⟨w.op,w.ve,w.lim,tx w.mu,tx w.al,tx w.bet,w.st,w.th,w.sn,tx w.we,w.ru⟩
def re(r:WR):Prop:=∃ w,VW 1000000 w/\r=wr w
def DJ(r:WR):Prop:=(0<=r.op/\r.op<=11)/\(0<=r.ve/\r.ve<=9)/\(0<=r.lim/\r.lim<=4398046511104)/\(-1<=r.st/\r.st<=999)/\(r.st<=r.th/\r.th<=999)/\(0<=r.sn/\r.sn<=1000000)
def DK(r:WR):Prop:=∃ m a b,r.m=tx m/\r.a=tx a/\r.b=tx b/\Sm 1 m/\Sm 1 a/\Sm 1000 b/\m≠0/\m≠1/\a≠0
theorem re.nums{r:WR}(h:re r):DJ r:=by
 obtain⟨w,h,rfl⟩:=h
 exact⟨h.op,h.ve,h.lim,h.st,h.th,h.sn⟩
theorem re.parts{r:WR}(h:re r):DK r:=by
 obtain⟨w,h,rfl⟩:=h
 exact⟨_,_,_,rfl,rfl,rfl,h.mu,h.al,h.bet,h.mu0,h.mu1,h.al0⟩
theorem VW.wrb{n:Int}{w:Wt}(h:VW n w):RB w.we:=(zi h.we0 h.we1 h.wd).rb (by decide) (by decide)
theorem re.wealth{r:WR}(h:re r):∃ x,r.we=tx x/\RB x/\x.den ∣ 1000000000000:=by
 obtain⟨w,h,rfl⟩:=h
 exact⟨_,rfl,VW.wrb h,h.wd⟩
theorem GI{r:WR}{m a b x:Rat}(h1:r.m=tx m)(h2:r.a=tx a)(h3:r.b=tx b)(h4:r.we=tx x):re r↔VW 1000000 ⟨r.op,r.ve,r.lim,m,a,b,r.st,r.th,r.sn,x,r.ru⟩:=by
 constructor
 ·rintro⟨w,h,rfl⟩
  obtain rfl:=eZ h1
  obtain rfl:=eZ h2
  obtain rfl:=eZ h3
  obtain rfl:=eZ h4
  exact h
 ·intro h
  refine⟨_,h,?_⟩
  obtain⟨op,ve,lim,m',a',b',st,th,sn,we,ru⟩:=r
  simp only at h1 h2 h3 h4
  subst h1 h2 h3 h4
  rfl
theorem Sa(x:Rat):((tx x).1 == [48] && (tx x).2 == [49])=decide (x=0):=by
 by_cases h:x=0
 ·subst h
  rw[M6];rfl
 ·rw[decide_eq_false h]
  refine Bool.eq_false_iff.2 fun hc=>h (eZ ?_)
  rw[Bool.and_eq_true,beq_iff_eq,beq_iff_eq]at hc
  rw[M6]
  exact Prod.ext hc.1 hc.2
theorem T4(x:Rat):((tx x).1 == [49] && (tx x).2 == [49])=decide (x=1):=by
 by_cases h:x=1
 ·subst h
  rw[Oe];rfl
 ·rw[decide_eq_false h]
  refine Bool.eq_false_iff.2 fun hc=>h (eZ ?_)
  rw[Bool.and_eq_true,beq_iff_eq,beq_iff_eq]at hc
  rw[Oe]
  exact Prod.ext hc.1 hc.2
section
variable{w0:World}{x a:Rat}(hE:En w0)(sx:SR 19 13 x)(sa:SR 4 4 a)
include hE sx sa
theorem Nb{r:WR}(h1:r.we=tx x)(h2:r.a=tx a):Calls prog 61 #[vW r] w0 (bQ fun v w'=>bK w0 w'/\v=.bool (Alm.Dn x a)):=by
 obtain⟨op,ve,lim,m',a',b',st,th,sn,we,ru⟩:=r
 simp only at h1 h2
 subst h1 h2
 have z1:=hE.z1
 have cc1:=fun {W:World} (e:bK w0 W)=>GH (w:=W) sx sa (by decide) (by decide) (hE.hT.ext e)
 have cc2:=fun {W:World} (_:bK w0 W)=>wB (w:=W) (p:=tx (x * a))
 have hp:RB (x * a):=(SR.mul sx sa).rb (by decide) (by decide)
 have cc3:=fun {W:World} (e:bK w0 W)=>Jk (w:=W) hp (hE.hT.ext e)
 by_cases q:0<=ig (x * a) 1
 ·have e:Alm.Dn x a=true:=decide_eq_true ((mg _ _).1 q)
  rw[e]
  apply xM
  unfold sN
  have h:=Hp.init [] w0
  refine ep h fun g1 w h=>?_
  replace h:=h.dr
  refine di (fu h 0 rfl rfl ?_)
  refine di (fu h 0 rfl rfl ?_)
  refine uK h ‹_› (by rfl) ?_
  refine ce h gB (cc1 h.ext) fun w h=>?_
  refine eT h ‹_› (by rfl) ?_
  refine uP (ce h ew (cc2 h.ext) fun w h=>?_)
  refine eT h ‹_› (by rfl) ?_
  refine ce h cz (cc3 h.ext) fun w h=>?_
  refine zX (by omega) ?_
  exact bQ.mk ⟨h.ext,rfl⟩
 ·have e:Alm.Dn x a=false:=decide_eq_false fun h=>q ((mg _ _).2 h)
  rw[e]
  apply xM
  unfold sN
  have h:=Hp.init [] w0
  refine ep h fun g1 w h=>?_
  replace h:=h.dr
  refine di (fu h 0 rfl rfl ?_)
  refine di (fu h 0 rfl rfl ?_)
  refine uK h ‹_› (by rfl) ?_
  refine ce h gB (cc1 h.ext) fun w h=>?_
  refine eT h ‹_› (by rfl) ?_
  refine uP (ce h ew (cc2 h.ext) fun w h=>?_)
  refine eT h ‹_› (by rfl) ?_
  refine ce h cz (cc3 h.ext) fun w h=>?_
  refine F0 (by omega) ?_
  exact bQ.mk ⟨h.ext,rfl⟩
end
open Classical in
noncomputable def AR(r:WR):Bool:=decide (re r)
theorem Ck{r:WR}(h:re r):AR r=true:=by unfold AR;simp[h]
theorem mi{r:WR}(h:¬re r):AR r=false:=by unfold AR;simp[h]
theorem Nd:Lib.itoa 1000000=[49,48,48,48,48,48,48]:=qC _ (by decide) (by decide)
theorem Nf:Lib.itoa 1000=[49,48,48,48]:=qC _ (by decide) (by decide)
theorem P3:Lib.itoa 1=[49]:=GF
section
variable{w0 w:World}{r:WR}{g:Nat}(hE:En w0)
include hE
abbrev BC(w0:World)(r:WR):Ending->World->Prop:=bQ fun v w'=>bK w0 w'/\v=.bool (AR r)
omit hE in
theorem LL(h:Hp [] w0 w [bx g gM (fW r)])(hn:¬re r):eL prog (.bool true) (pr g 0) w (BC w0 r):=by
 unfold eL
 refine co ?_
 exact bQ.mk ⟨h.ext,by rw[mi hn]⟩
theorem Oh(h:Hp [] w0 w [bx g gM (fW r)])(hn:DJ r)(hp:DK r){x:Rat}(hx:r.we=tx x)(hB:RB x)(hd:x.den ∣ 1000000000000):eL prog (.bool false) (pr g 0) w (BC w0 r):=by
 obtain⟨m,a,b,e1,e2,e3,sm,sa,sb,m0,m1,a0⟩:=hp
 have hiff:=GI e1 e2 e3 hx
 obtain⟨op,ve,lim,m',a',b',st,th,sn,we,ru⟩:=r
 obtain⟨n1,n2,n3,n4,n5,n6⟩:=hn
 simp only at e1 e2 e3 hx n1 n2 n3 n4 n5 n6
 subst e1 e2 e3 hx
 have z0:=hE.z0
 have z1:=hE.z1
 have ccI:∀ {W:World},bK w0 W->Calls prog 78 #[.int .i64 1000000] W (bQ fun r w'=>bK W w'/\r=bh [49,48,48,48,48,48,48]):=fun {W} e=>by
  refine(Gk (w:=W) (n:=1000000) (by decide) (by decide) (hE.hT.ext e)).mono ?_
  rintro _ w' ⟨_,rfl,h1,h2⟩
  rw[Nd]at h1
  exact bQ.mk ⟨h2,h1⟩
 have cc1:=fun {W:World} (e:bK w0 W)=>Fg (w:=W) hB (hE.hT.ext e)
 have cc2:=fun {W:World} (e:bK w0 W)=>Fh (w:=W) (n:=1000000) hB (by decide) Nd (hE.hT.ext e)
 have cc3:=fun {W:World} (e:bK w0 W)=>GH (w:=W) (Sm.sr3 sb) (Sm.sr1 sm) (by decide) (by decide) (hE.hT.ext e)
 have cc4:=fun {W:World} (_:bK w0 W)=>wB (w:=W) (p:=tx (b * m))
 have hbm:RB (b * m):=(SR.mul (Sm.sr3 sb) (Sm.sr1 sm)).rb (by decide) (by decide)
 have cc5:=fun {W:World} (e:bK w0 W)=>Jk (w:=W) hbm (hE.hT.ext e)
 have no:∀ {c:Prop},(VW 1000000 ⟨op,ve,lim,m,a,b,st,th,sn,x,ru⟩->c)->¬c->¬re ⟨op,ve,lim,tx m,tx a,tx b,st,th,sn,tx x,ru⟩:=fun h1 h2 h3=>h2 (h1 (hiff.1 h3))
 have h:=h
 by_cases q1:ig x 0 < 0
 ·have hno:=no (fun h=>h.we0) (fun h=>absurd ((mg x 0).2 h) (by omega))
  unfold eL
  refine cf (ce h gH (ccI h.ext) fun w h=>?_)
  refine u7 (PC.cons (by rfl) (PC.cons (by rfl) PC.nil)) (by rfl) ?_
  refine du h fun g1 w h=>?_
  refine de h 0 rfl rfl rfl rfl fun w h=>?_
  replace h:=h.dr
  refine di (fu h 1 rfl rfl ?_)
  refine uK h ‹_› (by rfl) ?_
  refine ce h cz (cc1 h.ext) fun w h=>?_
  refine Ky (by omega) (cC (cC (cC (aR (cC (cG (cC (cC (cC (cC (cC (aR (zW ?_)))))))))))))
  refine cC (cC (aR (zW ?_)))
  refine aR (cC (cG (co ?_)))
  dsimp only[List.set]at h
  exact bQ.mk ⟨h.ext,by rw[mi hno]⟩
 by_cases q2:0 < ig x (qI 1000000)
 ·have hno:=no (fun h=>h.we1) (fun h=>absurd ((jz x (qI 1000000)).2 h) (by omega))
  unfold eL
  refine cf (ce h gH (ccI h.ext) fun w h=>?_)
  refine u7 (PC.cons (by rfl) (PC.cons (by rfl) PC.nil)) (by rfl) ?_
  refine du h fun g1 w h=>?_
  refine de h 0 rfl rfl rfl rfl fun w h=>?_
  replace h:=h.dr
  refine di (fu h 1 rfl rfl ?_)
  refine uK h ‹_› (by rfl) ?_
  refine ce h cz (cc1 h.ext) fun w h=>?_
  refine r8 (by omega) (cg (di (cg (fu h 1 rfl rfl ?_))))
  refine cg (fu h 0 rfl rfl ?_)
  refine ah (ce h cz (cc2 h.ext) fun w h=>?_)
  refine cg (nC (by omega) (dh (cC (cC (cC (cC (cC (aR (zW ?_)))))))))
  refine cC (cC (aR (zW ?_)))
  refine aR (cC (cG (co ?_)))
  dsimp only[List.set]at h
  exact bQ.mk ⟨h.ext,by rw[mi hno]⟩
 by_cases q3:0 < ig (b * m) 1
 ·have hno:=no (fun h=>h.bm) (fun h=>absurd ((jz (b * m) 1).2 h) (by omega))
  unfold eL
  refine cf (ce h gH (ccI h.ext) fun w h=>?_)
  refine u7 (PC.cons (by rfl) (PC.cons (by rfl) PC.nil)) (by rfl) ?_
  refine du h fun g1 w h=>?_
  refine de h 0 rfl rfl rfl rfl fun w h=>?_
  replace h:=h.dr
  refine di (fu h 1 rfl rfl ?_)
  refine uK h ‹_› (by rfl) ?_
  refine ce h cz (cc1 h.ext) fun w h=>?_
  refine r8 (by omega) (cg (di (cg (fu h 1 rfl rfl ?_))))
  refine cg (fu h 0 rfl rfl ?_)
  refine ah (ce h cz (cc2 h.ext) fun w h=>?_)
  refine cg (pZ (by omega) (dh (cg (di (cg (fu h 1 rfl rfl ?_))))))
  refine cg (di (cg (fu h 1 rfl rfl ?_)))
  refine cg (uK h ‹_› (by rfl) ?_)
  refine ah (ce h gB (cc3 h.ext) fun w h=>?_)
  refine wS ?_
  refine eT h ‹_› (by rfl) ?_
  refine cg (JC (cg (JD (ah (ce h ew (cc4 h.ext) fun w h=>?_)))))
  refine wS ?_
  refine eT h ‹_› (by rfl) ?_
  refine ah (ce h cz (cc5 h.ext) fun w h=>?_)
  refine cg (nC (by omega) (dh (co ?_)))
  dsimp only[List.set]at h
  exact bQ.mk ⟨h.ext,by rw[mi hno]⟩
 have p1:=(mg x 0).1 (by omega)
 have p2:=(jz x (qI 1000000)).1 (by omega)
 have p3:=(jz (b * m) 1).1 (by omega)
 have sx:=zi p1 p2 hd
 have cc6:=fun {W:World} (e:bK w0 W)=>Nb (w0:=W) (hE.ext e) sx (Sm.sr1 sa) (r:=⟨op,ve,lim,tx m,tx a,tx b,st,th,sn,tx x,ru⟩) rfl rfl
 have fin:∀ c:Bool,Alm.Dn x a=c->AR ⟨op,ve,lim,tx m,tx a,tx b,st,th,sn,tx x,ru⟩=(ru == c):=fun c hc=>by
  by_cases e:ru=c
  ·rw[Ck (hiff.2 ⟨n1,n2,n3,n4,n5,n6,sm,sa,sb,m0,m1,a0,p1,p2,hd,p3,e.trans hc.symm⟩),e,beq_self_eq_true]
  ·rw[mi (no (fun h=>h.ru) fun h=>e (h.trans hc))]
   exact(beq_eq_false_iff_ne.2 e).symm
 have hB:prog.underlying 4=some .bool:=underlying4
 rcases hw:Alm.Dn x a with _ | _
 ·rw[hw]at cc6
  have fin:=fin _ hw
  unfold eL
  refine cf (ce h gH (ccI h.ext) fun w h=>?_)
  refine u7 (PC.cons (by rfl) (PC.cons (by rfl) PC.nil)) (by rfl) ?_
  refine du h fun g1 w h=>?_
  refine de h 0 rfl rfl rfl rfl fun w h=>?_
  replace h:=h.dr
  refine di (fu h 1 rfl rfl ?_)
  refine uK h ‹_› (by rfl) ?_
  refine ce h cz (cc1 h.ext) fun w h=>?_
  refine r8 (by omega) (cg (di (cg (fu h 1 rfl rfl ?_))))
  refine cg (fu h 0 rfl rfl ?_)
  refine ah (ce h cz (cc2 h.ext) fun w h=>?_)
  refine cg (pZ (by omega) (dh (cg (di (cg (fu h 1 rfl rfl ?_))))))
  refine cg (di (cg (fu h 1 rfl rfl ?_)))
  refine cg (uK h ‹_› (by rfl) ?_)
  refine ah (ce h gB (cc3 h.ext) fun w h=>?_)
  refine wS ?_
  refine eT h ‹_› (by rfl) ?_
  refine cg (JC (cg (JD (ah (ce h ew (cc4 h.ext) fun w h=>?_)))))
  refine wS ?_
  refine eT h ‹_› (by rfl) ?_
  refine ah (ce h cz (cc5 h.ext) fun w h=>?_)
  refine cg (pZ (by omega) (dh (cf ?_)))
  replace h:=h.dr
  refine di (iX h 1 rfl rfl (fu h 1 rfl rfl ?_))
  refine ce h sO (cc6 h.ext) fun w h=>?_
  refine fU h 1 rfl rfl ?_
  dsimp only[List.set]at h
  refine CT hB (d:=ru == false) rfl ?_
  exact bQ.mk ⟨h.ext,by rw[fin]⟩
 ·rw[hw]at cc6
  have fin:=fin _ hw
  unfold eL
  refine cf (ce h gH (ccI h.ext) fun w h=>?_)
  refine u7 (PC.cons (by rfl) (PC.cons (by rfl) PC.nil)) (by rfl) ?_
  refine du h fun g1 w h=>?_
  refine de h 0 rfl rfl rfl rfl fun w h=>?_
  replace h:=h.dr
  refine di (fu h 1 rfl rfl ?_)
  refine uK h ‹_› (by rfl) ?_
  refine ce h cz (cc1 h.ext) fun w h=>?_
  refine r8 (by omega) (cg (di (cg (fu h 1 rfl rfl ?_))))
  refine cg (fu h 0 rfl rfl ?_)
  refine ah (ce h cz (cc2 h.ext) fun w h=>?_)
  refine cg (pZ (by omega) (dh (cg (di (cg (fu h 1 rfl rfl ?_))))))
  refine cg (di (cg (fu h 1 rfl rfl ?_)))
  refine cg (uK h ‹_› (by rfl) ?_)
  refine ah (ce h gB (cc3 h.ext) fun w h=>?_)
  refine wS ?_
  refine eT h ‹_› (by rfl) ?_
  refine cg (JC (cg (JD (ah (ce h ew (cc4 h.ext) fun w h=>?_)))))
  refine wS ?_
  refine eT h ‹_› (by rfl) ?_
  refine ah (ce h cz (cc5 h.ext) fun w h=>?_)
  refine cg (pZ (by omega) (dh (cf ?_)))
  replace h:=h.dr
  refine di (iX h 1 rfl rfl (fu h 1 rfl rfl ?_))
  refine ce h sO (cc6 h.ext) fun w h=>?_
  refine fU h 1 rfl rfl ?_
  dsimp only[List.set]at h
  refine CT hB (d:=ru == true) rfl ?_
  exact bQ.mk ⟨h.ext,by rw[fin]⟩
theorem Oi(hk:WRk r){b1 b2:Bool}(h1:b1=true↔DJ r)(h2:b2=true↔DK r)(h:Hp [] w0 w [bx g gM (fW r)]):fE prog (pr g 0) (.bool b1) (.bool b2) w (BC w0 r):=by
 have lfF:=fun {w:World} (h:Hp [] w0 w [bx g gM (fW r)]) (hn:¬re r)=>LL (r:=r) h hn
 have hA:=fun {W:World} (e:bK w0 W)=>wH (w:=W) hk.we.2 (hE.hE.ext e)
 have hv:=fun {W:World} (e:bK w0 W)=>jG (w:=W) hk.we.1 hk.we.2 (hE.hT.ext e)
 cases b1 with
 | false=>
  have hno:¬re r:=fun h=>absurd (h1.2 h.nums) (by decide)
  unfold fE
  refine ck (ck (Eng.ld1 h 0 rfl rfl (cu dX (hA h.ext) ?_)))
  rintro _ w' ⟨x1,⟨v,h3,rfl⟩ | ⟨n,b,h3,rfl⟩⟩
  ·have h:=h.x x1
   refine gN (d7 (aR (aR (aQ (aR (aR (aQ (aR (aR (aR (aR (aQ (aR (aR (aR (aQ ?_))))))))))))))))
   exact lfF h hno
  ·have h:=h.x x1
   refine gN (d7 (aR (aR (aQ (aR (aR (aQ (aR (aR (aR (aR (aQ (aR (aR (aR (aQ ?_))))))))))))))))
   exact lfF h hno
 | true=>
 cases b2 with
 | false=>
  have hno:¬re r:=fun h=>absurd (h2.2 h.parts) (by decide)
  unfold fE
  refine ck (ck (Eng.ld1 h 0 rfl rfl (cu dX (hA h.ext) ?_)))
  rintro _ w' ⟨x1,⟨v,h3,rfl⟩ | ⟨n,b,h3,rfl⟩⟩
  ·have h:=h.x x1
   refine gN (ct (ah (ah (d7 (aw (aR (aR (aQ (aR (aR (aR (aR (aQ (aR (aR (aR (aQ ?_)))))))))))))))))
   exact lfF h hno
  ·have h:=h.x x1
   refine gN (ct (ah (ah (d7 (aw (aR (aR (aQ (aR (aR (aR (aR (aQ (aR (aR (aR (aQ ?_)))))))))))))))))
   exact lfF h hno
 | true=>
 have hN:=h1.1 rfl
 have hP:=h2.1 rfl
 by_cases ho:kB r.we.1 r.we.2
 rotate_left
 ·have hno:¬re r:=fun h=>by
   obtain⟨x,hx,hB,_⟩:=h.wealth
   exact ho (by rw[hx];exact Ji hB)
  have cc2:∀ {W:World},bK w0 W->Calls prog 72 #[vR r.we] W (bQ fun r w'=>bK W w'/\r=.bool false):=fun {W} e=>by
   have:=hv e
   rw[jd ho]at this;exact this
  unfold fE
  refine ck (ck (Eng.ld1 h 0 rfl rfl (cu dX (hA h.ext) ?_)))
  rintro _ w' ⟨x1,⟨v,h3,rfl⟩ | ⟨n,b,h3,rfl⟩⟩
  ·have h:=h.x x1
   refine gN (ct (ah (ah (ct (aw (ah (ah (Jl ?_))))))))
   refine aw (ah (ck (ah (dy h 0 rfl rfl ?_))))
   refine ah (ce h dk (cc2 h.ext) fun w h=>?_)
   refine ah (d7 (aw (aR (aR (aR (aQ ?_))))))
   exact lfF h hno
  ·have h:=h.x x1
   refine gN (ct (ah (ah (ct (aw (ah (ah (Na ?_))))))))
   refine aw (aR (aR (aR (aR (aQ (aR (aR (aR (aQ ?_)))))))))
   exact lfF h hno
 have cc2:∀ {W:World},bK w0 W->Calls prog 72 #[vR r.we] W (bQ fun r w'=>bK W w'/\r=.bool true):=fun {W} e=>by
  have:=hv e
  rw[iu ho]at this;exact this
 refine Exists.elim (GD ho) fun x ⟨hx,hB⟩=>?_
 have hdp:=x.den_pos
 by_cases hd:x.den ∣ 1000000000000
 ·have hd1:=Nat.le_of_dvd (by decide) hd
  have hat:=kP (x.den:Int)
  rw[if_pos (by omega)]at hat
  have hrem:(1000000000000:Int) % (x.den:Int)=0:=by
   have:((x.den:Nat):Int) ∣ ((1000000000000:Nat):Int):=Int.natCast_dvd_natCast.2 hd
   exact Int.emod_eq_zero_of_dvd this
  unfold fE
  refine ck (ck (Eng.ld1 h 0 rfl rfl (cu dX (hA h.ext) ?_)))
  rintro _ w' ⟨x1,⟨v,h3,rfl⟩ | ⟨n,b,h3,rfl⟩⟩
  ·have h:=h.x x1
   have hv:v=(x.den:Int):=by
    rw[hx]at h3
    have h3:Lib.atoiAll (Lib.itoa (x.den:Int))=.ok v:=h3
    rw[hat]at h3
    cases h3;rfl
   subst hv
   refine gN (ct (ah (ah (ct (aw (ah (ah (Jl ?_))))))))
   refine aw (ah (ck (ah (dy h 0 rfl rfl ?_))))
   refine ah (ce h dk (cc2 h.ext) fun w h=>?_)
   refine ah (ct (aw (ah (ah (qJ (by omega) (by omega) (ah (cE (by omega) (aw ?_))))))))
   exact Oh hE h hN hP hx hB hd
  ·rw[hx]at h3
   exact absurd hat (h3 _)
 ·have hno:¬re r:=fun h=>by
   obtain⟨y,hy,_,hyd⟩:=h.wealth
   obtain rfl:=eZ (hx.symm.trans hy)
   exact hd hyd
  have hat:=kP (x.den:Int)
  unfold fE
  refine ck (ck (Eng.ld1 h 0 rfl rfl (cu dX (hA h.ext) ?_)))
  rintro _ w' ⟨x1,⟨v,h3,rfl⟩ | ⟨n,b,h3,rfl⟩⟩
  ·have h:=h.x x1
   have hv:v=(x.den:Int)/\(x.den:Int)<=9223372036854775807:=by
    rw[hx]at h3
    have h3:Lib.atoiAll (Lib.itoa (x.den:Int))=.ok v:=h3
    rw[hat]at h3
    split at h3
    ·next hh=>cases h3;exact⟨rfl,hh.2⟩
    ·cases h3
   have hv2:=hv.2
   have hv:=hv.1
   subst hv
   have hrem:¬(1000000000000:Int) % (x.den:Int)=0:=fun hc=>hd (by
    have:((x.den:Nat):Int) ∣ ((1000000000000:Nat):Int):=Int.dvd_of_emod_eq_zero hc
    exact Int.natCast_dvd_natCast.1 this)
   refine gN (ct (ah (ah (ct (aw (ah (ah (Jl ?_))))))))
   refine aw (ah (ck (ah (dy h 0 rfl rfl ?_))))
   refine ah (ce h dk (cc2 h.ext) fun w h=>?_)
   refine ah (ct (aw (ah (ah (qJ (by omega) (by omega) (ah (gi (by omega) (aw ?_))))))))
   exact lfF h hno
  ·have h:=h.x x1
   refine gN (ct (ah (ah (ct (aw (ah (ah (Na ?_))))))))
   refine aw (aR (aR (aR (aR (aQ (aR (aR (aR (aQ ?_)))))))))
   exact lfF h hno
end
end Go.Proofs.YtnkmbjedcjcccaaGreatDoor
namespace Go.Proofs.YtnkmbjedcjcccaaGreatDoor
open Tryz
open Go Go.Eng Go.Proofs Go.Num Go.RowKit
open Go.Alm (Ft Wt Sm VW VA)
set_option maxRecDepth 100000
theorem Sb{p:RS}{m:Int}(h:∃ x,p=tx x/\Sm m x){w0:World}{ms:List UInt8}(hE:En w0)(hm:m=1\/m=1000)(hms:Lib.itoa m=ms):Calls prog 41 #[vR p,bh ms] w0 (bQ fun r w'=>bK w0 w'/\r=.bool true):=by
 obtain⟨x,rfl,h⟩:=h
 exact Jm hE hm hms h
section
variable{w0 w:World}{r:WR}{g:Nat}(hE:En w0)(hk:WRk r)
include hE hk
set_option maxHeartbeats 4000000 in
theorem Oj{b1:Bool}(h1:b1=true↔DJ r)(h:Hp [] w0 w [bx g gM (fW r)]):ek prog (pr g 0) (.bool b1) w (BC w0 r):=by
 have z0:=hE.z0
 have z1:=hE.z1
 have go:∀ {b2:Bool},(b2=true↔DK r)->∀ {w:World},Hp [] w0 w [bx g gM (fW r)]->fE prog (pr g 0) (.bool b1) (.bool b2) w (BC w0 r):=fun {b2} h2 {w} h=>Oi hE hk h1 h2 h
 by_cases p1:∃ x,r.m=tx x/\Sm 1 x
 rotate_left
 ·have lfF:=fun {w:World} h=>go (b2:=false) ⟨fun h=>(by cases h),fun⟨m,a,b,e1,e2,e3,s1,_⟩=>absurd ⟨m,e1,s1⟩ p1⟩ (w:=w) h
  have cc1:=fun {W:World} (e:bK w0 W)=>vh (w0:=W) (hE.ext e) (.inl rfl) P3 hk.m p1
  unfold ek
  refine ck (dy h 0 rfl rfl ?_)
  refine ce h cR (cc1 h.ext) fun w h=>?_
  refine aK (aK (aK (aw (aK (aK (aK (aw (aK (aK (aK (aK (aw (aK (aK (aK (aK (aw (aK (aK (aK (aK (aw ?_))))))))))))))))))))))
  exact lfF h
 have cc1:=fun {W:World} (e:bK w0 W)=>Sb (w0:=W) p1 (hE.ext e) (.inl rfl) P3
 by_cases p2:∃ x,r.a=tx x/\Sm 1 x
 rotate_left
 ·have lfF:=fun {w:World} h=>go (b2:=false) ⟨fun h=>(by cases h),fun⟨m,a,b,e1,e2,e3,s1,s2,_⟩=>absurd ⟨a,e2,s2⟩ p2⟩ (w:=w) h
  have cc2:=fun {W:World} (e:bK w0 W)=>vh (w0:=W) (hE.ext e) (.inl rfl) P3 hk.a p2
  unfold ek
  refine ck (dy h 0 rfl rfl ?_)
  refine ce h cR (cc1 h.ext) fun w h=>?_
  refine aP (ck (aP (dy h 0 rfl rfl ?_)))
  refine aP (ce h cR (cc2 h.ext) fun w h=>?_)
  refine aQ (aK (aK (aK (aw (aK (aK (aK (aK (aw (aK (aK (aK (aK (aw (aK (aK (aK (aK (aw ?_)))))))))))))))))))
  exact lfF h
 have cc2:=fun {W:World} (e:bK w0 W)=>Sb (w0:=W) p2 (hE.ext e) (.inl rfl) P3
 by_cases p3:∃ x,r.b=tx x/\Sm 1000 x
 rotate_left
 ·have lfF:=fun {w:World} h=>go (b2:=false) ⟨fun h=>(by cases h),fun⟨m,a,b,e1,e2,e3,s1,s2,s3,_⟩=>absurd ⟨b,e3,s3⟩ p3⟩ (w:=w) h
  have cc3:=fun {W:World} (e:bK w0 W)=>vh (w0:=W) (hE.ext e) (.inr rfl) Nf hk.b p3
  unfold ek
  refine ck (dy h 0 rfl rfl ?_)
  refine ce h cR (cc1 h.ext) fun w h=>?_
  refine aP (ck (aP (dy h 0 rfl rfl ?_)))
  refine aP (ce h cR (cc2 h.ext) fun w h=>?_)
  refine aQ (aP (ck (aP (dy h 0 rfl rfl ?_))))
  refine aP (ce h cR (cc3 h.ext) fun w h=>?_)
  refine aQ (aK (aK (aK (aK (aw (aK (aK (aK (aK (aw (aK (aK (aK (aK (aw ?_)))))))))))))))
  exact lfF h
 have cc3:=fun {W:World} (e:bK w0 W)=>Sb (w0:=W) p3 (hE.ext e) (.inr rfl) Nf
 obtain⟨m,hm,sm⟩:=p1
 obtain⟨a,ha,sa⟩:=p2
 obtain⟨b,hb,sb⟩:=p3
 have k0:=Sa m
 have k1:=T4 m
 have k2:=Sa a
 rw[<-hm]at k0 k1
 rw[<-ha]at k2
 by_cases m0:m=0
 ·have lfF:=fun {w:World} h=>go (b2:=false) ⟨fun h=>(by cases h),fun⟨m',a',b',e1,e2,e3,s1,s2,s3,q1,q2,q3⟩=>absurd m0 (by rw[eZ (hm.symm.trans e1)];exact q1)⟩ (w:=w) h
  rw[decide_eq_true m0]at k0
  unfold ek
  refine ck (dy h 0 rfl rfl ?_)
  refine ce h cR (cc1 h.ext) fun w h=>?_
  refine aP (ck (aP (dy h 0 rfl rfl ?_)))
  refine aP (ce h cR (cc2 h.ext) fun w h=>?_)
  refine aQ (aP (ck (aP (dy h 0 rfl rfl ?_))))
  refine aP (ce h cR (cc3 h.ext) fun w h=>?_)
  refine aQ (aP (ck (aP (dy h 0 rfl rfl ?_))))
  refine aP (uJ h ‹_› (by rfl) ?_)
  refine aP (HQ ‹_› ?_)
  refine aQ (aK (aK (aK (aK (aw (aK (aK (aK (aK (aw ?_))))))))))
  exact lfF h
 rw[decide_eq_false m0]at k0
 by_cases m1:m=1
 ·have lfF:=fun {w:World} h=>go (b2:=false) ⟨fun h=>(by cases h),fun⟨m',a',b',e1,e2,e3,s1,s2,s3,q1,q2,q3⟩=>absurd m1 (by rw[eZ (hm.symm.trans e1)];exact q2)⟩ (w:=w) h
  rw[decide_eq_true m1]at k1
  unfold ek
  refine ck (dy h 0 rfl rfl ?_)
  refine ce h cR (cc1 h.ext) fun w h=>?_
  refine aP (ck (aP (dy h 0 rfl rfl ?_)))
  refine aP (ce h cR (cc2 h.ext) fun w h=>?_)
  refine aQ (aP (ck (aP (dy h 0 rfl rfl ?_))))
  refine aP (ce h cR (cc3 h.ext) fun w h=>?_)
  refine aQ (aP (ck (aP (dy h 0 rfl rfl ?_))))
  refine aP (uJ h ‹_› (by rfl) ?_)
  refine aP (FE ‹_› ?_)
  refine aQ (aP (ck (aP (dy h 0 rfl rfl ?_))))
  refine aP (uJ h ‹_› (by rfl) ?_)
  refine aP (HQ ‹_› ?_)
  refine aQ (aK (aK (aK (aK (aw ?_)))))
  exact lfF h
 rw[decide_eq_false m1]at k1
 by_cases a0:a=0
 ·have lfF:=fun {w:World} h=>go (b2:=false) ⟨fun h=>(by cases h),fun⟨m',a',b',e1,e2,e3,s1,s2,s3,q1,q2,q3⟩=>absurd a0 (by rw[eZ (ha.symm.trans e2)];exact q3)⟩ (w:=w) h
  rw[decide_eq_true a0]at k2
  unfold ek
  refine ck (dy h 0 rfl rfl ?_)
  refine ce h cR (cc1 h.ext) fun w h=>?_
  refine aP (ck (aP (dy h 0 rfl rfl ?_)))
  refine aP (ce h cR (cc2 h.ext) fun w h=>?_)
  refine aQ (aP (ck (aP (dy h 0 rfl rfl ?_))))
  refine aP (ce h cR (cc3 h.ext) fun w h=>?_)
  refine aQ (aP (ck (aP (dy h 0 rfl rfl ?_))))
  refine aP (uJ h ‹_› (by rfl) ?_)
  refine aP (FE ‹_› ?_)
  refine aQ (aP (ck (aP (dy h 0 rfl rfl ?_))))
  refine aP (uJ h ‹_› (by rfl) ?_)
  refine aP (FE ‹_› ?_)
  refine aQ (aP (ck (aP (dy h 0 rfl rfl ?_))))
  refine aP (uJ h ‹_› (by rfl) ?_)
  refine aP (HQ ‹_› ?_)
  refine aQ ?_
  exact lfF h
 rw[decide_eq_false a0]at k2
 have lfT:=fun {w:World} h=>go (b2:=true) ⟨fun _=>⟨m,a,b,hm,ha,hb,sm,sa,sb,m0,m1,a0⟩,fun _=>rfl⟩ (w:=w) h
 unfold ek
 refine ck (dy h 0 rfl rfl ?_)
 refine ce h cR (cc1 h.ext) fun w h=>?_
 refine aP (ck (aP (dy h 0 rfl rfl ?_)))
 refine aP (ce h cR (cc2 h.ext) fun w h=>?_)
 refine aQ (aP (ck (aP (dy h 0 rfl rfl ?_))))
 refine aP (ce h cR (cc3 h.ext) fun w h=>?_)
 refine aQ (aP (ck (aP (dy h 0 rfl rfl ?_))))
 refine aP (uJ h ‹_› (by rfl) ?_)
 refine aP (FE ‹_› ?_)
 refine aQ (aP (ck (aP (dy h 0 rfl rfl ?_))))
 refine aP (uJ h ‹_› (by rfl) ?_)
 refine aP (FE ‹_› ?_)
 refine aQ (aP (ck (aP (dy h 0 rfl rfl ?_))))
 refine aP (uJ h ‹_› (by rfl) ?_)
 refine aP (FE ‹_› ?_)
 refine aQ ?_
 exact lfT h
omit hk in
set_option maxHeartbeats 4000000 in
theorem Ol(hk:WRk r):Calls prog 44 #[vW r] w0 (BC w0 r):=by
 apply Ch
 have go:∀ {b1:Bool},(b1=true↔DJ r)->∀ {g:Nat} {w:World},Hp [] w0 w [bx g gM (fW r)]->ek prog (pr g 0) (.bool b1) w (BC w0 r):=fun {b1} h1 {g} {w} h=>Oj hE hk h1 h
 obtain⟨op,ve,lim,m',a',b',st,th,sn,we,ru⟩:=r
 by_cases n1:0<=op/\op<=11
 rotate_left
 ·have cc1:=fun {W:World} (_:bK w0 W)=>zq (w:=W) n1
  have lfF:=fun {g:Nat} {w:World} h=>go (b1:=false) ⟨fun h=>(by cases h),fun h=>absurd h.1 n1⟩ (g:=g) (w:=w) h
  unfold fG
  have h:=Hp.init [] w0
  refine ep h fun g1 w h=>?_
  refine ck (Eng.ld1 h 0 rfl rfl (ce h cX (cc1 h.ext) fun w h=>?_))
  refine aK (aK (aK (aw (aK (aK (aK (aw (aK (aK (aK (aw (aK (aK (aK (aK (aK (aw (aK (aK (aK (aw ?_)))))))))))))))))))))
  exact lfF h
 have cc1:=fun {W:World} (_:bK w0 W)=>zm (w:=W) n1
 by_cases n2:0<=ve/\ve<=9
 rotate_left
 ·have cc2:=fun {W:World} (_:bK w0 W)=>zq (w:=W) n2
  have lfF:=fun {g:Nat} {w:World} h=>go (b1:=false) ⟨fun h=>(by cases h),fun h=>absurd h.2.1 n2⟩ (g:=g) (w:=w) h
  unfold fG
  have h:=Hp.init [] w0
  refine ep h fun g1 w h=>?_
  refine ck (Eng.ld1 h 0 rfl rfl (ce h cX (cc1 h.ext) fun w h=>?_))
  refine aP (ck (aP (Eng.ld1 h 0 rfl rfl (aP (ce h cX (cc2 h.ext) fun w h=>?_)))))
  refine aQ (aK (aK (aK (aw (aK (aK (aK (aw (aK (aK (aK (aK (aK (aw (aK (aK (aK (aw ?_))))))))))))))))))
  exact lfF h
 have cc2:=fun {W:World} (_:bK w0 W)=>zm (w:=W) n2
 by_cases n3:0<=lim/\lim<=4398046511104
 rotate_left
 ·have cc3:=fun {W:World} (_:bK w0 W)=>zq (w:=W) n3
  have lfF:=fun {g:Nat} {w:World} h=>go (b1:=false) ⟨fun h=>(by cases h),fun h=>absurd h.2.2.1 n3⟩ (g:=g) (w:=w) h
  unfold fG
  have h:=Hp.init [] w0
  refine ep h fun g1 w h=>?_
  refine ck (Eng.ld1 h 0 rfl rfl (ce h cX (cc1 h.ext) fun w h=>?_))
  refine aP (ck (aP (Eng.ld1 h 0 rfl rfl (aP (ce h cX (cc2 h.ext) fun w h=>?_)))))
  refine aQ (aP (ck (aP (Eng.ld1 h 0 rfl rfl (aP (ce h cX (cc3 h.ext) fun w h=>?_))))))
  refine aQ (aK (aK (aK (aw (aK (aK (aK (aK (aK (aw (aK (aK (aK (aw ?_))))))))))))))
  exact lfF h
 have cc3:=fun {W:World} (_:bK w0 W)=>zm (w:=W) n3
 by_cases n4: -1<=st/\st<=999
 rotate_left
 ·have cc4:=fun {W:World} (_:bK w0 W)=>zq (w:=W) n4
  have lfF:=fun {g:Nat} {w:World} h=>go (b1:=false) ⟨fun h=>(by cases h),fun h=>absurd h.2.2.2.1 n4⟩ (g:=g) (w:=w) h
  unfold fG
  have h:=Hp.init [] w0
  refine ep h fun g1 w h=>?_
  refine ck (Eng.ld1 h 0 rfl rfl (ce h cX (cc1 h.ext) fun w h=>?_))
  refine aP (ck (aP (Eng.ld1 h 0 rfl rfl (aP (ce h cX (cc2 h.ext) fun w h=>?_)))))
  refine aQ (aP (ck (aP (Eng.ld1 h 0 rfl rfl (aP (ce h cX (cc3 h.ext) fun w h=>?_))))))
  refine aQ (aP (ck (aP (Eng.ld1 h 0 rfl rfl (aP (ce h cX (cc4 h.ext) fun w h=>?_))))))
  refine aQ (aK (aK (aK (aK (aK (aw (aK (aK (aK (aw ?_))))))))))
  exact lfF h
 have cc4:=fun {W:World} (_:bK w0 W)=>zm (w:=W) n4
 by_cases n5:st<=th/\th<=999
 rotate_left
 ·have cc5:=fun {W:World} (_:bK w0 W)=>zq (w:=W) n5
  have lfF:=fun {g:Nat} {w:World} h=>go (b1:=false) ⟨fun h=>(by cases h),fun h=>absurd h.2.2.2.2.1 n5⟩ (g:=g) (w:=w) h
  unfold fG
  have h:=Hp.init [] w0
  refine ep h fun g1 w h=>?_
  refine ck (Eng.ld1 h 0 rfl rfl (ce h cX (cc1 h.ext) fun w h=>?_))
  refine aP (ck (aP (Eng.ld1 h 0 rfl rfl (aP (ce h cX (cc2 h.ext) fun w h=>?_)))))
  refine aQ (aP (ck (aP (Eng.ld1 h 0 rfl rfl (aP (ce h cX (cc3 h.ext) fun w h=>?_))))))
  refine aQ (aP (ck (aP (Eng.ld1 h 0 rfl rfl (aP (ce h cX (cc4 h.ext) fun w h=>?_))))))
  refine aQ (aP (ck (aP (Eng.ld1 h 0 rfl rfl (aP (ck (aP (Eng.ld1 h 0 rfl rfl (aP (ce h cX (cc5 h.ext) fun w h=>?_))))))))))
  refine aQ (aK (aK (aK (aw ?_))))
  exact lfF h
 have cc5:=fun {W:World} (_:bK w0 W)=>zm (w:=W) n5
 by_cases n6:0<=sn/\sn<=1000000
 rotate_left
 ·have cc6:=fun {W:World} (_:bK w0 W)=>zq (w:=W) n6
  have lfF:=fun {g:Nat} {w:World} h=>go (b1:=false) ⟨fun h=>(by cases h),fun h=>absurd h.2.2.2.2.2 n6⟩ (g:=g) (w:=w) h
  unfold fG
  have h:=Hp.init [] w0
  refine ep h fun g1 w h=>?_
  refine ck (Eng.ld1 h 0 rfl rfl (ce h cX (cc1 h.ext) fun w h=>?_))
  refine aP (ck (aP (Eng.ld1 h 0 rfl rfl (aP (ce h cX (cc2 h.ext) fun w h=>?_)))))
  refine aQ (aP (ck (aP (Eng.ld1 h 0 rfl rfl (aP (ce h cX (cc3 h.ext) fun w h=>?_))))))
  refine aQ (aP (ck (aP (Eng.ld1 h 0 rfl rfl (aP (ce h cX (cc4 h.ext) fun w h=>?_))))))
  refine aQ (aP (ck (aP (Eng.ld1 h 0 rfl rfl (aP (ck (aP (Eng.ld1 h 0 rfl rfl (aP (ce h cX (cc5 h.ext) fun w h=>?_))))))))))
  refine aQ (aP (ck (aP (Eng.ld1 h 0 rfl rfl (aP (ce h cX (cc6 h.ext) fun w h=>?_))))))
  refine aQ ?_
  exact lfF h
 have cc6:=fun {W:World} (_:bK w0 W)=>zm (w:=W) n6
 have lfF:=fun {g:Nat} {w:World} h=>go (b1:=true) ⟨fun _=>⟨n1,n2,n3,n4,n5,n6⟩,fun _=>rfl⟩ (g:=g) (w:=w) h
 unfold fG
 have h:=Hp.init [] w0
 refine ep h fun g1 w h=>?_
 refine ck (Eng.ld1 h 0 rfl rfl (ce h cX (cc1 h.ext) fun w h=>?_))
 refine aP (ck (aP (Eng.ld1 h 0 rfl rfl (aP (ce h cX (cc2 h.ext) fun w h=>?_)))))
 refine aQ (aP (ck (aP (Eng.ld1 h 0 rfl rfl (aP (ce h cX (cc3 h.ext) fun w h=>?_))))))
 refine aQ (aP (ck (aP (Eng.ld1 h 0 rfl rfl (aP (ce h cX (cc4 h.ext) fun w h=>?_))))))
 refine aQ (aP (ck (aP (Eng.ld1 h 0 rfl rfl (aP (ck (aP (Eng.ld1 h 0 rfl rfl (aP (ce h cX (cc5 h.ext) fun w h=>?_))))))))))
 refine aQ (aP (ck (aP (Eng.ld1 h 0 rfl rfl (aP (ce h cX (cc6 h.ext) fun w h=>?_))))))
 refine aQ ?_
 exact lfF h
end
theorem rF{x:Rat}(hB:RB x):u5 (tx x).2=if(x.den:Int)<=9223372036854775807 then .tuple #[.int .i64 (x.den:Int),.int .i64 0] else .tuple #[.int .i64 0,.int .i64 30]:=by
 have:=xV (z:=(x.den:Int)) hB.d
 show u5 (Lib.itoa (x.den:Int))=_
 rw[this]
 by_cases h:(x.den:Int)<=9223372036854775807
 ·rw[if_pos h,if_pos ⟨by omega,h⟩]
 ·rw[if_neg h,if_neg (fun hh=>h hh.2)]
section
variable{w0:World}{p:RS}{m:Int}(hm:m=1\/m=1000)
include hm
open Classical in
theorem DL(hk:yG p):Calls prog 46 #[vR p,.int .i64 m] w0 (bQ fun r w'=>bK w0 w'/\r=.bool (decide (∃ x,p=tx x/\Sm m x))):=by
 have hI:eS m:=by omega
 have hv:=fun {W:World} (e:bK w0 W)=>eK (w:=W) hk.1 hk.2
 by_cases ho:kB p.1 p.2
 rotate_left
 ·have hno:¬∃ x,p=tx x/\Sm m x:=fun⟨x,hx,h⟩=>ho (by rw[hx];exact Ji (Sm.rb h hm))
  rw[decide_eq_false hno]
  have cc2:∀ {W:World},bK w0 W->Calls prog 79 #[vR p] W (bQ fun r w'=>bK W w'/\r=.bool false):=fun {W} e=>by
   have:=hv e
   rw[jd ho]at this;exact this
  apply iI
  unfold ib
  have h:=Hp.init [] w0
  refine ep h fun g1 w h=>?_
  refine dy h 0 rfl rfl ?_
  refine ce h cN (cc2 h.ext) fun w h=>?_
  refine d7 (co ?_)
  exact bQ.mk ⟨h.ext,rfl⟩
 obtain⟨x,rfl,hB⟩:=GD ho
 have cc2:∀ {W:World},bK w0 W->Calls prog 79 #[vR (tx x)] W (bQ fun r w'=>bK W w'/\r=.bool true):=fun {W} e=>by
  have:=hv e
  rw[iu ho]at this;exact this
 have cc3:=fun {W:World} (_:bK w0 W)=>mh (w:=W) (n:=0) (by decide)
 have cc4:=fun {W:World} (_:bK w0 W)=>mh (w:=W) (n:=m) hI
 have cc5:=fun {W:World} (_:bK w0 W)=>zj (w:=W) hB (uD (n:=0) (by decide))
 have cc6:=fun {W:World} (_:bK w0 W)=>zj (w:=W) hB (uD hI)
 by_cases hd9:(x.den:Int)<=9223372036854775807
 rotate_left
 ·have hno:¬∃ y,tx x=tx y/\Sm m y:=fun⟨y,hx,h⟩=>by
   obtain rfl:=eZ hx
   have:=h.dn
   omega
  rw[decide_eq_false hno]
  have cc1:∀ {W:World},bK w0 W->Calls prog 80 #[bh (tx x).2] W (bQ fun r w'=>bK W w'/\r=.tuple #[.int .i64 0,.int .i64 30]):=fun {W} e=>by
   have:=rT (w:=W) hk.2
   rw[rF hB,if_neg hd9]at this
   exact this
  apply iI
  unfold ib
  have h:=Hp.init [] w0
  refine ep h fun g1 w h=>?_
  refine dy h 0 rfl rfl ?_
  refine ce h cN (cc2 h.ext) fun w h=>?_
  refine ct (cf (ck (Eng.ld1 h 0 rfl rfl (ce h gn (cc1 h.ext) fun w h=>?_))))
  refine gN ?_
  replace h:=h.dr
  refine fu h 0 rfl rfl ?_
  refine ce h cq (cc3 h.ext) fun w h=>?_
  refine cP h 0 rfl rfl ?_
  refine ce h cx (cc5 h.ext) fun w h=>?_
  replace h:=h.dr
  refine fu h 0 rfl rfl ?_
  refine ce h cq (cc4 h.ext) fun w h=>?_
  refine cP h 0 rfl rfl ?_
  refine ce h cx (cc6 h.ext) fun w h=>?_
  refine io (by omega) (aK (aK (aw (aK (aK (aw (aK (aK (aw ?_)))))))))
  exact bQ.mk ⟨h.ext,rfl⟩
 have cc1:∀ {W:World},bK w0 W->Calls prog 80 #[bh (tx x).2] W (bQ fun r w'=>bK W w'/\r=.tuple #[.int .i64 (x.den:Int),.int .i64 0]):=fun {W} e=>by
  have:=rT (w:=W) hk.2
  rw[rF hB,if_pos hd9]at this
  exact this
 by_cases hd:x.den<=1000
 rotate_left
 ·have hno:¬∃ y,tx x=tx y/\Sm m y:=fun⟨y,hx,h⟩=>by
   obtain rfl:=eZ hx
   exact hd h.dn
  rw[decide_eq_false hno]
  apply iI
  unfold ib
  have h:=Hp.init [] w0
  refine ep h fun g1 w h=>?_
  refine dy h 0 rfl rfl ?_
  refine ce h cN (cc2 h.ext) fun w h=>?_
  refine ct (cf (ck (Eng.ld1 h 0 rfl rfl (ce h gn (cc1 h.ext) fun w h=>?_))))
  refine gN ?_
  replace h:=h.dr
  refine fu h 0 rfl rfl ?_
  refine ce h cq (cc3 h.ext) fun w h=>?_
  refine cP h 0 rfl rfl ?_
  refine ce h cx (cc5 h.ext) fun w h=>?_
  replace h:=h.dr
  refine fu h 0 rfl rfl ?_
  refine ce h cq (cc4 h.ext) fun w h=>?_
  refine cP h 0 rfl rfl ?_
  refine ce h cx (cc6 h.ext) fun w h=>?_
  refine ea (by omega) (aP (aP (jg (by omega) (aQ (aK (aK (aw (aK (aK (aw ?_))))))))))
  exact bQ.mk ⟨h.ext,rfl⟩
 by_cases q1:0<=ig x (qI 0)
 rotate_left
 ·have hno:¬∃ y,tx x=tx y/\Sm m y:=fun⟨y,hx,h⟩=>by
   obtain rfl:=eZ hx
   exact q1 ((mg _ _).2 h.ge)
  rw[decide_eq_false hno]
  apply iI
  unfold ib
  have h:=Hp.init [] w0
  refine ep h fun g1 w h=>?_
  refine dy h 0 rfl rfl ?_
  refine ce h cN (cc2 h.ext) fun w h=>?_
  refine ct (cf (ck (Eng.ld1 h 0 rfl rfl (ce h gn (cc1 h.ext) fun w h=>?_))))
  refine gN ?_
  replace h:=h.dr
  refine fu h 0 rfl rfl ?_
  refine ce h cq (cc3 h.ext) fun w h=>?_
  refine cP h 0 rfl rfl ?_
  refine ce h cx (cc5 h.ext) fun w h=>?_
  replace h:=h.dr
  refine fu h 0 rfl rfl ?_
  refine ce h cq (cc4 h.ext) fun w h=>?_
  refine cP h 0 rfl rfl ?_
  refine ce h cx (cc6 h.ext) fun w h=>?_
  refine ea (by omega) (aP (aP (fp (by omega) (aQ (aP (aP (jB (by omega) (aQ (aK (aK (aw ?_)))))))))))
  exact bQ.mk ⟨h.ext,rfl⟩
 by_cases q2:ig x (qI m)<=0
 ·have hy:∃ y,tx x=tx y/\Sm m y:=⟨x,rfl,(mg _ _).1 q1,(jz _ _).1 q2,hd⟩
  rw[decide_eq_true hy]
  apply iI
  unfold ib
  have h:=Hp.init [] w0
  refine ep h fun g1 w h=>?_
  refine dy h 0 rfl rfl ?_
  refine ce h cN (cc2 h.ext) fun w h=>?_
  refine ct (cf (ck (Eng.ld1 h 0 rfl rfl (ce h gn (cc1 h.ext) fun w h=>?_))))
  refine gN ?_
  replace h:=h.dr
  refine fu h 0 rfl rfl ?_
  refine ce h cq (cc3 h.ext) fun w h=>?_
  refine cP h 0 rfl rfl ?_
  refine ce h cx (cc5 h.ext) fun w h=>?_
  replace h:=h.dr
  refine fu h 0 rfl rfl ?_
  refine ce h cq (cc4 h.ext) fun w h=>?_
  refine cP h 0 rfl rfl ?_
  refine ce h cx (cc6 h.ext) fun w h=>?_
  refine ea (by omega) (aP (aP (fp (by omega) (aQ (aP (aP (ft (by omega) (aQ (aP (aP (fp (by omega) (aQ ?_))))))))))))
  exact bQ.mk ⟨h.ext,rfl⟩
 ·have hno:¬∃ y,tx x=tx y/\Sm m y:=fun⟨y,hx,h⟩=>by
   obtain rfl:=eZ hx
   exact q2 ((jz _ _).2 h.le)
  rw[decide_eq_false hno]
  apply iI
  unfold ib
  have h:=Hp.init [] w0
  refine ep h fun g1 w h=>?_
  refine dy h 0 rfl rfl ?_
  refine ce h cN (cc2 h.ext) fun w h=>?_
  refine ct (cf (ck (Eng.ld1 h 0 rfl rfl (ce h gn (cc1 h.ext) fun w h=>?_))))
  refine gN ?_
  replace h:=h.dr
  refine fu h 0 rfl rfl ?_
  refine ce h cq (cc3 h.ext) fun w h=>?_
  refine cP h 0 rfl rfl ?_
  refine ce h cx (cc5 h.ext) fun w h=>?_
  replace h:=h.dr
  refine fu h 0 rfl rfl ?_
  refine ce h cq (cc4 h.ext) fun w h=>?_
  refine cP h 0 rfl rfl ?_
  refine ce h cx (cc6 h.ext) fun w h=>?_
  refine ea (by omega) (aP (aP (fp (by omega) (aQ (aP (aP (ft (by omega) (aQ (aP (aP (jg (by omega) (aQ ?_))))))))))))
  exact bQ.mk ⟨h.ext,rfl⟩
open Classical in
theorem tf(h:∃ x,p=tx x/\Sm m x):Calls prog 46 #[vR p,.int .i64 m] w0 (bQ fun r w'=>bK w0 w'/\r=.bool true):=by
 have hk:yG p:=by
  obtain⟨x,rfl,h⟩:=h
  exact⟨cv (Sm.rb h hm).n,cv (Sm.rb h hm).d⟩
 have:=DL (w0:=w0) hm hk
 rw[decide_eq_true h]at this;exact this
open Classical in
theorem tg(hk:yG p)(h:¬∃ x,p=tx x/\Sm m x):Calls prog 46 #[vR p,.int .i64 m] w0 (bQ fun r w'=>bK w0 w'/\r=.bool false):=by
 have:=DL (w0:=w0) hm hk
 rw[decide_eq_false h]at this;exact this
end
section
variable{w0:World}{x y:Rat}{a b c d k:Nat}
theorem Cm(hx:SR a b x)(hy:SR c d y)(h1:a+c<=200)(h2:b+d<=200):Calls prog 81 #[vR (tx x),vR (tx y)] w0 (bQ fun r w'=>bK w0 w'/\r=vR (tx (x * y))):=by
 have cc1:=fun {W:World} (_:bK w0 W)=>QA (w:=W) hx hy h1 h2
 apply EB
 unfold xN
 have h:=Hp.init [] w0
 refine ep h fun g1 w h=>?_
 refine ep h fun g2 w h=>?_
 refine du h fun g3 w h=>?_
 refine dy h 2 rfl rfl ?_
 refine dy h 1 rfl rfl ?_
 refine ce h Ep (cc1 h.ext) fun w h=>?_
 refine gN (du h fun g4 w h=>?_)
 refine de h 0 rfl rfl rfl rfl fun w h=>?_
 refine cE (by omega) (cf (dy h 0 rfl rfl ?_))
 refine de h 1 rfl rfl rfl rfl fun w h=>?_
 refine mj h 1 rfl rfl ?_
 dsimp only[List.set]at h
 exact bQ.mk ⟨h.ext,rfl⟩
theorem Jn(hx:SR a b x)(hy:SR c d y)(h1:a+d<=k)(h2:c+b<=k)(hk:k<=199)(hb:b+d<=200):Calls prog 87 #[vR (tx x),vR (tx y)] w0 (bQ fun r w'=>bK w0 w'/\r=vR (tx (x+y))):=by
 have cc1:=fun {W:World} (_:bK w0 W)=>QB (w:=W) hx hy h1 h2 hk hb
 apply EC
 unfold xP
 have h:=Hp.init [] w0
 refine ep h fun g1 w h=>?_
 refine ep h fun g2 w h=>?_
 refine du h fun g3 w h=>?_
 refine dy h 2 rfl rfl ?_
 refine dy h 1 rfl rfl ?_
 refine ce h Er (cc1 h.ext) fun w h=>?_
 refine gN (du h fun g4 w h=>?_)
 refine de h 0 rfl rfl rfl rfl fun w h=>?_
 refine cE (by omega) (cf (dy h 0 rfl rfl ?_))
 refine de h 1 rfl rfl rfl rfl fun w h=>?_
 refine mj h 1 rfl rfl ?_
 dsimp only[List.set]at h
 exact bQ.mk ⟨h.ext,rfl⟩
theorem Jo(hx:SR a b x)(hy:SR c d y)(h1:a+d<=k)(h2:c+b<=k)(hk:k<=199)(hb:b+d<=200):Calls prog 53 #[vR (tx x),vR (tx y)] w0 (bQ fun r w'=>bK w0 w'/\r=vR (tx (x - y))):=by
 have cc1:=fun {W:World} (_:bK w0 W)=>QC (w:=W) hx hy h1 h2 hk hb
 apply Ey
 unfold xK
 have h:=Hp.init [] w0
 refine ep h fun g1 w h=>?_
 refine ep h fun g2 w h=>?_
 refine du h fun g3 w h=>?_
 refine dy h 2 rfl rfl ?_
 refine dy h 1 rfl rfl ?_
 refine ce h Em (cc1 h.ext) fun w h=>?_
 refine gN (du h fun g4 w h=>?_)
 refine de h 0 rfl rfl rfl rfl fun w h=>?_
 refine cE (by omega) (cf (dy h 0 rfl rfl ?_))
 refine de h 1 rfl rfl rfl rfl fun w h=>?_
 refine mj h 1 rfl rfl ?_
 dsimp only[List.set]at h
 exact bQ.mk ⟨h.ext,rfl⟩
theorem Jp(sx:SR 19 13 x)(sa:SR 4 4 y):Calls prog 83 #[vR (tx x),vR (tx y)] w0 (bQ fun v w'=>bK w0 w'/\v=.bool (Alm.Dn x y)):=by
 have cc1:=fun {W:World} (_:bK w0 W)=>Cm (w0:=W) sx sa (by decide) (by decide)
 have cc2:=fun {W:World} (_:bK w0 W)=>mh (w:=W) (n:=1) (by decide)
 have hp:RB (x * y):=(SR.mul sx sa).rb (by decide) (by decide)
 have cc3:=fun {W:World} (_:bK w0 W)=>zj (w:=W) hp (uD (n:=1) (by decide))
 by_cases q:0<=ig (x * y) (qI 1)
 ·have e:Alm.Dn x y=true:=decide_eq_true ((mg _ _).1 q)
  rw[e]
  apply xO
  unfold sS
  have h:=Hp.init [] w0
  refine ep h fun g1 w h=>?_
  refine ep h fun g2 w h=>?_
  refine dy h 1 rfl rfl ?_
  refine dy h 0 rfl rfl ?_
  refine ce h dN (cc1 h.ext) fun w h=>?_
  refine ce h cq (cc2 h.ext) fun w h=>?_
  refine ce h cx (cc3 h.ext) fun w h=>?_
  refine ft (by omega) ?_
  exact bQ.mk ⟨h.ext,rfl⟩
 ·have e:Alm.Dn x y=false:=decide_eq_false fun h=>q ((mg _ _).2 h)
  rw[e]
  apply xO
  unfold sS
  have h:=Hp.init [] w0
  refine ep h fun g1 w h=>?_
  refine ep h fun g2 w h=>?_
  refine dy h 1 rfl rfl ?_
  refine dy h 0 rfl rfl ?_
  refine ce h dN (cc1 h.ext) fun w h=>?_
  refine ce h cq (cc2 h.ext) fun w h=>?_
  refine ce h cx (cc3 h.ext) fun w h=>?_
  refine jB (by omega) ?_
  exact bQ.mk ⟨h.ext,rfl⟩
theorem HD(hB:RB x):Calls prog 82 #[vR (tx x)] w0 (bQ fun v w'=>bK w0 w'/\v=.bool (decide (x.den ∣ 1000000000000))):=by
 have hdp:=x.den_pos
 by_cases hd:x.den ∣ 1000000000000
 ·rw[decide_eq_true hd]
  have hd1:=Nat.le_of_dvd (by decide) hd
  have cc1:∀ {W:World},bK w0 W->Calls prog 80 #[bh (tx x).2] W (bQ fun r w'=>bK W w'/\r=.tuple #[.int .i64 (x.den:Int),.int .i64 0]):=fun {W} e=>by
   have:=rT (w:=W) (s:=(tx x).2) (cv hB.d)
   rw[rF hB,if_pos (by omega)]at this
   exact this
  have hrem:(1000000000000:Int) % (x.den:Int)=0:=by
   have:((x.den:Nat):Int) ∣ ((1000000000000:Nat):Int):=Int.natCast_dvd_natCast.2 hd
   exact Int.emod_eq_zero_of_dvd this
  apply nN
  unfold kM
  have h:=Hp.init [] w0
  refine ep h fun g1 w h=>?_
  refine ck (Eng.ld1 h 0 rfl rfl (ce h gn (cc1 h.ext) fun w h=>?_))
  refine gN (ea (by omega) (aP (aP (ft (by omega) (aQ (aP (aP (qJ (by omega) (by omega) (aP (ea (by omega) (aQ ?_)))))))))))
  exact bQ.mk ⟨h.ext,rfl⟩
 rw[decide_eq_false hd]
 have hrem:¬(1000000000000:Int) % (x.den:Int)=0:=fun hc=>hd (by
  have:((x.den:Nat):Int) ∣ ((1000000000000:Nat):Int):=Int.dvd_of_emod_eq_zero hc
  exact Int.natCast_dvd_natCast.1 this)
 by_cases hd9:(x.den:Int)<=9223372036854775807
 ·have cc1:∀ {W:World},bK w0 W->Calls prog 80 #[bh (tx x).2] W (bQ fun r w'=>bK W w'/\r=.tuple #[.int .i64 (x.den:Int),.int .i64 0]):=fun {W} e=>by
   have:=rT (w:=W) (s:=(tx x).2) (cv hB.d)
   rw[rF hB,if_pos hd9]at this
   exact this
  apply nN
  unfold kM
  have h:=Hp.init [] w0
  refine ep h fun g1 w h=>?_
  refine ck (Eng.ld1 h 0 rfl rfl (ce h gn (cc1 h.ext) fun w h=>?_))
  refine gN (ea (by omega) (aP (aP (ft (by omega) (aQ (aP (aP (qJ (by omega) (by omega) (aP (io (by omega) (aQ ?_)))))))))))
  exact bQ.mk ⟨h.ext,rfl⟩
 ·have cc1:∀ {W:World},bK w0 W->Calls prog 80 #[bh (tx x).2] W (bQ fun r w'=>bK W w'/\r=.tuple #[.int .i64 0,.int .i64 30]):=fun {W} e=>by
   have:=rT (w:=W) (s:=(tx x).2) (cv hB.d)
   rw[rF hB,if_neg hd9]at this
   exact this
  apply nN
  unfold kM
  have h:=Hp.init [] w0
  refine ep h fun g1 w h=>?_
  refine ck (Eng.ld1 h 0 rfl rfl (ce h gn (cc1 h.ext) fun w h=>?_))
  refine gN (io (by omega) (aK (aK (aw (aK (aK (aK (aw ?_))))))))
  exact bQ.mk ⟨h.ext,rfl⟩
end
end Go.Proofs.YtnkmbjedcjcccaaGreatDoor
