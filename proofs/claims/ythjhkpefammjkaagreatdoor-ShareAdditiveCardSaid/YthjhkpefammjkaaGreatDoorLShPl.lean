/-
  Contracts and plain lemmas. By an AI agent.
-/
import Derived.Test.YthjhkpefammjkaaGreatDoorEng
import Derived.Test.YthjhkpefammjkaaGreatDoorProg
set_option linter.unusedSimpArgs false
set_option linter.unusedVariables false
set_option linter.unusedSectionVars false
namespace Go.Proofs.YthjhkpefammjkaaGreatDoor
open Go Go.Eng Go.Shelf
set_option maxRecDepth 100000
variable {t0 t1 t2 t3 t4 : Value} {w : World} {R : Ending → World → Prop}
def s_law25_ShareAdditive (P : Program) (t0 t1 t2 t3 t4 : Value) (w : World) (R : Ending → World → Prop) : Prop :=
 Bx P 54 t3 w fun t8 w =>
 Cl P 11 #[] w (Pk R) fun t27 w =>
 Un P .not t27 w fun t28 w =>
 If t28
 (R (.returned (.bool false)) w)
 (Ia P 54 t8 (.int .i64 0) w fun t31 w =>
 Ld P 3 t31 w fun t32 w =>
 Cl P 12 #[t0, t1, t32] w (Pk R) fun t33 w =>
 Ia P 54 t8 (.int .i64 1) w fun t36 w =>
 Ld P 3 t36 w fun t37 w =>
 Cl P 12 #[t0, t2, t37] w (Pk R) fun t38 w =>
 Lp3 (.slice none 0 0) (.slice none 0 0) (.int .i64 0) w (fun t13 t14 t15 w k1 =>
 Bt P .len #[22] 3 #[t33] w fun t41 w =>
 Bn P .lss 3 false t15 t41 w fun t42 w =>
 If t42
 (dIx P 22 t33 t15 w.drew fun t48 =>
 dL P 3 t48 w.drew fun t49 =>
 dIx P 22 t38 t15 w.drew fun t52 =>
 dL P 3 t52 w.drew fun t53 =>
 Dv P true (bn .add 3 false t49 t53) w.drew fun t54 =>
 Bs P 22 1 [(0, t54)] w.drew fun t55 w =>
 Bt P .append #[22, 22] 22 #[t13, t55] w fun t56 w =>
 dIx P 22 t33 t15 w.drew fun t60 =>
 dL P 3 t60 w.drew fun t61 =>
 Cl P 23 #[t4, (.int .i64 1000)] w.drew (Pk R) fun t63 w =>
 kLd P 3 t60 t61 w <|
 Dv P true (bn .add 3 false t61 t63) w fun t64 =>
 Dv P true (bn .sub 3 true t64 (.int .i64 500)) w fun t65 =>
 Bs P 22 1 [(0, t65)] w fun t66 w =>
 Bt P .append #[22, 22] 22 #[t14, t66] w fun t67 w =>
 Bn P .add 3 true t15 (.int .i64 1) w fun t44 w =>
 k1 t56 t67 t44 w)
 (Cl P 13 #[t33] w (Pk R) fun t70 w =>
 Ex t70 0 w fun t71 w =>
 Ex t70 1 w fun t72 w =>
 Cl P 13 #[t38] w (Pk R) fun t75 w =>
 Ex t75 0 w fun t76 w =>
 Ex t75 1 w fun t77 w =>
 Cl P 13 #[t13] w (Pk R) fun t80 w =>
 Ex t80 0 w fun t81 w =>
 Ex t80 1 w fun t82 w =>
 Cl P 13 #[t14] w (Pk R) fun t85 w =>
 Ex t85 0 w fun t86 w =>
 Ex t85 1 w fun t87 w =>
 Bn P .neq 27 true t72 (.int .i64 0) w fun t89 w =>
 Gd t89 false (fun k => k t77 w) w fun t91 w =>
 Gd t89 false (fun k => Bn P .neq 27 true t91 (.int .i64 0) w k) w fun t92 w =>
 Pick t89 (.bool true) t92 w fun t93 w =>
 Gd t93 false (fun k => k t82 w) w fun t95 w =>
 Gd t93 false (fun k => Bn P .neq 27 true t95 (.int .i64 0) w k) w fun t96 w =>
 Pick t93 (.bool true) t96 w fun t97 w =>
 Gd t97 false (fun k => k t87 w) w fun t99 w =>
 Gd t97 false (fun k => Bn P .neq 27 true t99 (.int .i64 0) w k) w fun t100 w =>
 Pick t97 (.bool true) t100 w fun t101 w =>
 Gd t101 false (fun k => k t71 w) w fun t103 w =>
 Gd t101 false (fun k => Bt P .len #[26] 3 #[t103] w k) w fun t104 w =>
 Gd t101 false (fun k => k t76 w) w fun t105 w =>
 Gd t101 false (fun k => Bt P .len #[26] 3 #[t105] w k) w fun t106 w =>
 Gd t101 false (fun k => Bn P .neq 3 false t104 t106 w k) w fun t107 w =>
 Pick t101 (.bool true) t107 w fun t108 w =>
 Gd t108 false (fun k => k t71 w) w fun t110 w =>
 Gd t108 false (fun k => Bt P .len #[26] 3 #[t110] w k) w fun t111 w =>
 Gd t108 false (fun k => k t81 w) w fun t112 w =>
 Gd t108 false (fun k => Bt P .len #[26] 3 #[t112] w k) w fun t113 w =>
 Gd t108 false (fun k => Bn P .neq 3 false t111 t113 w k) w fun t114 w =>
 Pick t108 (.bool true) t114 w fun t115 w =>
 Gd t115 false (fun k => k t71 w) w fun t117 w =>
 Gd t115 false (fun k => k t86 w) w fun t118 w =>
 Gd t115 false (fun k => Cl P 19 #[t117, t118] w (Pk R) k) w fun t119 w =>
 Gd t115 false (fun k => Un P .not t119 w k) w fun t120 w =>
 Pick t115 (.bool true) t120 w fun t121 w =>
 If t121
 (R (.returned (.bool false)) w)
 (Lp1 (.int .i64 0) w (fun t24 w k2 =>
 Bt P .len #[26] 3 #[t71] w fun t124 w =>
 Bn P .lss 3 false t24 t124 w fun t125 w =>
 If t125
 (Jn2 (fun k3 =>
 dIx P 26 t71 t24 w.drew fun t131 =>
 dL P 38 t131 w.drew fun t132 =>
 dIx P 26 t76 t24 w.drew fun t135 =>
 dL P 38 t135 w.drew fun t136 =>
 (Cl P 31 #[t132, t136] w.drew (Pk R) fun t137 w =>
 ExP t137 0 fun t138 =>
 ExP t137 1 fun t139 =>
 Al P 38 w fun t25 w =>
 kLd P 38 t131 t132 w <|
 kLd P 38 t135 t136 w <|
 Sto P 38 t25 t138 w fun w =>
 k3 t25 t139 w) ∧
 (Al P 38 w.drew fun t25x1 w =>
 kLd P 38 t131 t132 w <|
 kLd P 38 t135 t136 w <|
 Cl P 31 #[t132, t136] w (Pk R) fun t137x1 w =>
 ExP t137x1 0 fun t138x1 =>
 ExP t137x1 1 fun t139x1 =>
 Sto P 38 t25x1 t138x1 w fun w =>
 k3 t25x1 t139x1 w))
 (fun t25x2 t26 w =>
 Dv P true (bn .neq 27 true t26 (.int .i64 0)) w.drew fun t141 =>
 GdP t141 false (fun k => dL P 38 t25x2 w.drew k) fun t143 =>
 GdP t141 false (fun k => k t81) fun t144 =>
 GdP t141 false (fun k => k t24) fun t145 =>
 GdP t141 false (fun k => dIx P 26 t144 t145 w.drew k) fun t146 =>
 GdP t141 false (fun k => dL P 38 t146 w.drew k) fun t147 =>
 GdP t141 false (fun k => Dv P false (bn .neq 38 false t143 t147) w.drew k) fun t148 =>
 PickP t141 (.bool true) t148 fun t149 =>
 If t149
 (R (.returned (.bool false)) w.drew)
 (Bn P .add 3 true t24 (.int .i64 1) w.drew fun t127 w =>
 k2 t127 w)))
 (R (.returned (.bool true)) w))))))
theorem e_law25_ShareAdditive (h : s_law25_ShareAdditive Tryz.prog t0 t1 t2 t3 t4 w R) : Calls Tryz.prog 7 #[t0, t1, t2, t3, t4] w R :=
 en1 (.sq .z (.sq (.sq .z (.cd (.sq .z .z) .z)) (.sq .z (.sq .z (.sq .z (.sq .z (.sq (.sq .z (.bk (.lp [13, 14, 15] [39, 40, 41, 42, 43, 44, 45, 46, 47, 48, 49, 50, 51, 52, 53, 54, 55, 56, 57, 58, 59, 60, 61, 62, 63, 64, 65, 66, 67] (.sq (.sq .z (.cd .z .z)) (.sq (.bk (.sq (.dr (.pur true 0 (.pur true 1 (.pur true 2 (.pur true 3 (.pur false 4 (.pur true 5 (.pur true 6 (.pur true 7 (.pur false 8 (.pur true 9 (.eff 10 [] (.eff 11 [] (.pur true 12 .done)))))))))))))) (.dr (.pur true 0 (.pur true 1 (.pur true 2 (.pur true 3 (.pur false 4 (.pur true 5 (.eff 6 [4] (.pur true 7 (.pur true 8 (.eff 9 [] (.eff 10 [] (.pur true 11 .done))))))))))))))) .z))))) (.sq .z (.sq .z (.sq .z (.sq .z (.sq (.sq .z (.cd (.sq .z .z) .z)) (.sq (.sq .z (.bk (.lp [24] [10, 25, 26, 122, 123, 124, 125, 126, 127, 128, 129, 130, 131, 132, 133, 134, 135, 136, 137, 138, 139, 140, 141, 142, 143, 144, 145, 146, 147, 148, 149] (.sq (.sq .z (.cd .z .z)) (.sq (.bk (.jn [25, 26] [128, 129, 130, 131, 132, 133, 134, 135, 136, 137, 138, 139] (.dr (.pur true 0 (.pur true 1 (.pur true 2 (.pur false 3 (.pur true 4 (.pur true 5 (.pur true 6 (.pur false 7 (.alt (.eff 8 [] (.pur true 9 (.pur true 10 (.pur true 11 (.eff 12 [3, 7] (.eff 13 [] (.pur true 14 .done))))))) (.eff 12 [3, 7] (.eff 8 [] (.pur true 9 (.pur true 10 (.pur true 11 (.eff 13 [] (.pur true 14 .done))))))))))))))))) (.sq (.dr (.pur true 0 (.pur true 1 (.pur true 2 (.pur false 3 (.pur true 4 (.pur true 5 (.pur true 6 (.pur false 7 (.pur false 8 (.pur true 9 .done))))))))))) (.cd (.sq .z .z) .z)))) .z))))) (.sq .z .z)))))))))))))) [t0, t1, t2, t3, t4] Tryz.func7 (by kernel_rfl) (by kernel_rfl) h
end Go.Proofs.YthjhkpefammjkaaGreatDoor
