/-
  Contracts and plain lemmas. By an AI agent.
-/
import Derived.Test.YthdhnhghjecfkaaGreatEng
import Derived.Test.YthdhnhghjecfkaaGreatProg
set_option linter.unusedSimpArgs false
set_option linter.unusedVariables false
set_option linter.unusedSectionVars false
namespace Go.Proofs.YthdhnhghjecfkaaGreat
open Go Go.Eng Go.Shelf
set_option maxRecDepth 100000
variable {t0 t1 t2 t3 t4 t5 : Value} {w : World} {R : Ending → World → Prop}
def s_law37_ShardCrashes (P : Program) (t0 t1 t2 t3 t4 t5 : Value) (w : World) (R : Ending → World → Prop) : Prop :=
 Cl P 7 #[] w (Pk R) fun t36 w =>
 Un P .not t36 w fun t37 w =>
 If t37
 (R (.returned (.bool false)) w)
 (Cl P 12 #[t0, t1] w (Pk R) fun t40 w =>
 Al P 30 w fun t13 w =>
 Sto P 30 t13 t40 w fun w =>
 Jn0 (fun k1 =>
 Fa P 30 t13 3 w fun t41 w =>
 Fa P 27 t41 0 w fun t42 w =>
 Ld P 3 t42 w fun t43 w =>
 Bn P .neq 3 true t43 (.int .i64 0) w fun t44 w =>
 If t44
 (Ld P 30 t13 w fun t46 w =>
 Bd P 44 [(0, (.int .i64 6))] w fun t47 w =>
 Cl P 13 #[t46, t47] w (Pk R) fun t48 w =>
 Ex t48 0 w fun t49 w =>
 Ex t48 1 w fun t50 w =>
 Ex t48 2 w fun t51 w =>
 Al P 30 w fun t14 w =>
 Sto P 30 t14 t49 w fun w =>
 Bn P .neq 31 true t51 (.int .i64 0) w fun t53 w =>
 If t53
 (R (.returned (.bool false)) w)
 (Fa P 30 t13 3 w fun t54 w =>
 Fa P 27 t54 0 w fun t55 w =>
 Ld P 3 t55 w fun t56 w =>
 Bn P .eql 3 true t56 (.int .i64 2) w fun t57 w =>
 If t57
 (Ld P 30 t13 w fun t58 w =>
 Ld P 30 t14 w fun t59 w =>
 Cl P 14 #[t58, t59] w (Pk R) fun t60 w =>
 R (.returned t60) w)
 (Ld P 30 t14 w fun t61 w =>
 Sto P 30 t13 t61 w fun w =>
 k1 w)))
 (k1 w))
 (fun w =>
 Cl P 9 #[t2, (.int .i64 8)] w (Pk R) fun t63 w =>
 Fa P 30 t13 1 w fun t64 w =>
 Ld P 25 t64 w fun t65 w =>
 Bt P .len #[25] 3 #[t65] w fun t66 w =>
 Bn P .neq 3 true t66 (.int .i64 8) w fun t67 w =>
 Gd t67 false (fun k => Fa P 30 t13 0 w k) w fun t69 w =>
 Gd t67 false (fun k => Ld P 24 t69 w k) w fun t70 w =>
 Gd t67 false (fun k => Bt P .len #[24] 3 #[t70] w k) w fun t71 w =>
 Gd t67 false (fun k => Bn P .lss 3 true t71 (.int .i64 2) w k) w fun t72 w =>
 Pick t67 (.bool true) t72 w fun t73 w =>
 If t73
 (R (.returned (.bool false)) w)
 (Jn2 (fun k2 =>
 dL P 30 t13 w.drew fun t75 =>
 dFl P 30 t13 1 w.drew fun t77 =>
 dL P 25 t77 w.drew fun t78 =>
 dIx P 25 t78 t63 w.drew fun t80 =>
 dL P 3 t80 w.drew fun t81 =>
 Dv P true (bn .add 3 true t81 (.int .i64 1)) w.drew fun t82 =>
 dFl P 30 t13 0 w.drew fun t84 =>
 dL P 24 t84 w.drew fun t85 =>
 Dv P true (bV .len #[24] 3 #[t85]) w.drew fun t86 =>
 Dv P true (bn .sub 3 true t86 (.int .i64 1)) w.drew fun t87 =>
 dFl P 30 t13 0 w.drew fun t90 =>
 dL P 24 t90 w.drew fun t91 =>
 Dv P true (bV .len #[24] 3 #[t91]) w.drew fun t92 =>
 (Cl P 9 #[t3, t87] w.drew (Pk R) fun t88 w =>
 kLd P 30 t13 t75 w <|
 kLd P 25 t77 t78 w <|
 kLd P 3 t80 t81 w <|
 kLd P 24 t90 t91 w <|
 Dv P true (bn .add 3 false t82 t88) w fun t89 =>
 Dv P true (bn .rem 3 false t89 t92) w fun t93 =>
 Dv P true (Instr.build 44 #[(0, (.int .i64 2)), (2, t63), (3, t93)]) w fun t94 =>
 (Cl P 13 #[t75, t94] w (Pk R) fun t95 w =>
 ExP t95 0 fun t96 =>
 ExP t95 1 fun t97 =>
 ExP t95 2 fun t98 =>
 Al P 30 w fun t18 w =>
 kLd P 30 t13 t75 w <|
 kLd P 25 t77 t78 w <|
 kLd P 3 t80 t81 w <|
 kLd P 24 t84 t85 w <|
 kLd P 24 t90 t91 w <|
 Sto P 30 t18 t96 w fun w =>
 k2 t18 t98 w) ∧
 (Al P 30 w fun t18x1 w =>
 kLd P 30 t13 t75 w <|
 kLd P 25 t77 t78 w <|
 kLd P 3 t80 t81 w <|
 kLd P 24 t84 t85 w <|
 kLd P 24 t90 t91 w <|
 Cl P 13 #[t75, t94] w (Pk R) fun t95x1 w =>
 ExP t95x1 0 fun t96x1 =>
 ExP t95x1 1 fun t97x1 =>
 ExP t95x1 2 fun t98x1 =>
 Sto P 30 t18x1 t96x1 w fun w =>
 k2 t18x1 t98x1 w)) ∧
 (Al P 30 w.drew fun t18x2 w =>
 kLd P 30 t13 t75 w <|
 kLd P 25 t77 t78 w <|
 kLd P 3 t80 t81 w <|
 kLd P 24 t84 t85 w <|
 kLd P 24 t90 t91 w <|
 Cl P 9 #[t3, t87] w (Pk R) fun t88x1 w =>
 kLd P 30 t13 t75 w <|
 kLd P 25 t77 t78 w <|
 kLd P 3 t80 t81 w <|
 kLd P 24 t90 t91 w <|
 Dv P true (bn .add 3 false t82 t88x1) w fun t89x1 =>
 Dv P true (bn .rem 3 false t89x1 t92) w fun t93x1 =>
 Dv P true (Instr.build 44 #[(0, (.int .i64 2)), (2, t63), (3, t93x1)]) w fun t94x1 =>
 Cl P 13 #[t75, t94x1] w (Pk R) fun t95x2 w =>
 ExP t95x2 0 fun t96x2 =>
 ExP t95x2 1 fun t97x2 =>
 ExP t95x2 2 fun t98x2 =>
 Sto P 30 t18x2 t96x2 w fun w =>
 k2 t18x2 t98x2 w))
 (fun t18x3 t20 w =>
 Bn P .neq 31 true t20 (.int .i64 0) w fun t100 w =>
 If t100
 (R (.returned (.bool false)) w)
 (Ld P 30 t13 w fun t101 w =>
 Al P 30 w fun t21 w =>
 Sto P 30 t21 t101 w fun w =>
 Lp1 (.int .i64 0) w (fun t22 w k3 =>
 Bt P .len #[25] 3 #[t4] w fun t104 w =>
 Bn P .lss 3 false t22 t104 w fun t105 w =>
 Gd t105 true (fun k => k t22 w) w fun t107 w =>
 Gd t105 true (fun k => Bn P .lss 3 true t107 (.int .i64 6) w k) w fun t108 w =>
 Pick t105 t108 (.bool false) w fun t109 w =>
 If t109
 (Jn2 (fun k4 =>
 dL P 30 t18x3 w.drew fun t113 =>
 dIx P 25 t4 t22 w.drew fun t116 =>
 dL P 3 t116 w.drew fun t117 =>
 (Cl P 9 #[t117, (.int .i64 3)] w.drew (Pk R) fun t118 w =>
 kLd P 30 t18x3 t113 w <|
 Dv P true (bn .add 3 true (.int .i64 1) t118) w fun t119 =>
 Dv P true (Instr.build 44 #[(0, (.int .i64 3)), (4, t119)]) w fun t120 =>
 (Cl P 13 #[t113, t120] w (Pk R) fun t121 w =>
 ExP t121 0 fun t122 =>
 ExP t121 1 fun t123 =>
 ExP t121 2 fun t124 =>
 Al P 30 w fun t23 w =>
 kLd P 30 t18x3 t113 w <|
 kLd P 3 t116 t117 w <|
 Sto P 30 t23 t122 w fun w =>
 k4 t23 t124 w) ∧
 (Al P 30 w fun t23x1 w =>
 kLd P 30 t18x3 t113 w <|
 kLd P 3 t116 t117 w <|
 Cl P 13 #[t113, t120] w (Pk R) fun t121x1 w =>
 ExP t121x1 0 fun t122x1 =>
 ExP t121x1 1 fun t123x1 =>
 ExP t121x1 2 fun t124x1 =>
 Sto P 30 t23x1 t122x1 w fun w =>
 k4 t23x1 t124x1 w)) ∧
 (Al P 30 w.drew fun t23x2 w =>
 kLd P 30 t18x3 t113 w <|
 kLd P 3 t116 t117 w <|
 Cl P 9 #[t117, (.int .i64 3)] w (Pk R) fun t118x1 w =>
 kLd P 30 t18x3 t113 w <|
 Dv P true (bn .add 3 true (.int .i64 1) t118x1) w fun t119x1 =>
 Dv P true (Instr.build 44 #[(0, (.int .i64 3)), (4, t119x1)]) w fun t120x1 =>
 Cl P 13 #[t113, t120x1] w (Pk R) fun t121x2 w =>
 ExP t121x2 0 fun t122x2 =>
 ExP t121x2 1 fun t123x2 =>
 ExP t121x2 2 fun t124x2 =>
 Sto P 30 t23x2 t122x2 w fun w =>
 k4 t23x2 t124x2 w))
 (fun t23x3 t25 w =>
 Bn P .neq 31 true t25 (.int .i64 0) w fun t126 w =>
 If t126
 (R (.returned (.bool false)) w)
 (Ld P 30 t23x3 w fun t127 w =>
 Sto P 30 t18x3 t127 w fun w =>
 Bt P .len #[25] 3 #[t5] w fun t130 w =>
 Bn P .lss 3 false t22 t130 w fun t131 w =>
 If t131
 (Ia P 25 t5 t22 w fun t134 w =>
 Ld P 3 t134 w fun t135 w =>
 Cl P 9 #[t135, (.int .i64 30)] w (Pk R) fun t136 w =>
 Cl P 15 #[t136] w (Pk R) fun t137 w =>
 Al P 44 w fun t26 w =>
 Sto P 44 t26 t137 w fun w =>
 Ld P 30 t18x3 w fun t139 w =>
 Ld P 44 t26 w fun t140 w =>
 Cl P 13 #[t139, t140] w (Pk R) fun t141 w =>
 Ex t141 0 w fun t142 w =>
 Ex t141 1 w fun t143 w =>
 Ex t141 2 w fun t144 w =>
 Al P 30 w fun t27 w =>
 Sto P 30 t27 t142 w fun w =>
 Ld P 30 t21 w fun t146 w =>
 Ld P 44 t26 w fun t147 w =>
 Cl P 13 #[t146, t147] w (Pk R) fun t148 w =>
 Ex t148 0 w fun t149 w =>
 Ex t148 1 w fun t150 w =>
 Ex t148 2 w fun t151 w =>
 Al P 30 w fun t30 w =>
 Sto P 30 t30 t149 w fun w =>
 Bn P .neq 31 false t144 t151 w fun t154 w =>
 If t154
 (R (.returned (.bool false)) w)
 (Bn P .eql 31 true t144 (.int .i64 0) w fun t156 w =>
 If t156
 (Ld P 30 t27 w fun t157 w =>
 Sto P 30 t18x3 t157 w fun w =>
 Ld P 30 t30 w fun t158 w =>
 Sto P 30 t21 t158 w fun w =>
 Bn P .add 3 true t22 (.int .i64 1) w fun t111 w =>
 k3 t111 w)
 (Bn P .add 3 true t22 (.int .i64 1) w fun t111x1 w =>
 k3 t111x1 w)))
 (Bn P .add 3 true t22 (.int .i64 1) w fun t111x2 w =>
 k3 t111x2 w))))
 (Ld P 30 t18x3 w fun t160 w =>
 Bd P 44 [(0, (.int .i64 6))] w fun t161 w =>
 Cl P 13 #[t160, t161] w (Pk R) fun t162 w =>
 Ex t162 0 w fun t163 w =>
 Ex t162 1 w fun t164 w =>
 Ex t162 2 w fun t165 w =>
 Al P 30 w fun t33 w =>
 Sto P 30 t33 t163 w fun w =>
 Bn P .eql 31 true t165 (.int .i64 0) w fun t167 w =>
 Gd t167 true (fun k => Ld P 30 t33 w k) w fun t169 w =>
 Gd t167 true (fun k => Ld P 30 t21 w k) w fun t170 w =>
 Gd t167 true (fun k => Cl P 14 #[t169, t170] w (Pk R) k) w fun t171 w =>
 Pick t167 t171 (.bool false) w fun t172 w =>
 R (.returned t172) w)))))))
theorem e_law37_ShardCrashes (h : s_law37_ShardCrashes Tryz.prog t0 t1 t2 t3 t4 t5 w R) : Calls Tryz.prog 4 #[t0, t1, t2, t3, t4, t5] w R :=
 en1 (.sq .z (.sq (.sq .z (.cd (.sq .z .z) .z)) (.sq .z (.jn [] [12, 14, 15, 16, 41, 42, 43, 44, 45, 46, 47, 48, 49, 50, 51, 52, 53, 54, 55, 56, 57, 58, 59, 60, 61] (.sq .z (.cd (.sq .z (.sq (.sq .z (.cd (.sq .z .z) .z)) (.sq (.sq .z (.cd (.sq .z .z) .z)) .z))) .z)) (.sq .z (.sq (.sq .z (.cd (.sq .z .z) .z)) (.jn [18, 20] [19, 74, 75, 76, 77, 78, 79, 80, 81, 82, 83, 84, 85, 86, 87, 88, 89, 90, 91, 92, 93, 94, 95, 96, 97, 98] (.dr (.pur false 0 (.pur true 1 (.pur true 2 (.pur false 3 (.pur true 4 (.pur true 5 (.pur false 6 (.pur true 7 (.pur true 8 (.pur true 9 (.pur false 10 (.pur true 11 (.pur true 12 (.pur true 15 (.pur false 16 (.pur true 17 (.alt (.eff 13 [0, 3, 6, 16] (.pur true 14 (.pur true 18 (.pur true 19 (.alt (.eff 20 [] (.pur true 21 (.pur true 22 (.pur true 23 (.pur true 24 (.eff 25 [0, 3, 6, 10, 16] (.eff 26 [] (.pur true 27 (.pur true 28 .done))))))))) (.eff 25 [0, 3, 6, 10, 16] (.eff 20 [] (.pur true 21 (.pur true 22 (.pur true 23 (.pur true 24 (.eff 26 [] (.pur true 27 (.pur true 28 .done)))))))))))))) (.eff 25 [0, 3, 6, 10, 16] (.eff 13 [0, 3, 6, 16] (.pur true 14 (.pur true 18 (.pur true 19 (.eff 20 [] (.pur true 21 (.pur true 22 (.pur true 23 (.pur true 24 (.eff 26 [] (.pur true 27 (.pur true 28 .done))))))))))))))))))))))))))))))) (.sq (.sq .z (.cd (.sq .z .z) .z)) (.sq .z (.sq (.sq .z (.bk (.lp [22] [12, 23, 24, 25, 26, 27, 28, 29, 30, 31, 32, 102, 103, 104, 105, 106, 107, 108, 109, 110, 111, 112, 113, 114, 115, 116, 117, 118, 119, 120, 121, 122, 123, 124, 125, 126, 127, 128, 129, 130, 131, 132, 133, 134, 135, 136, 137, 138, 139, 140, 141, 142, 143, 144, 145, 146, 147, 148, 149, 150, 151, 152, 153, 154, 155, 156, 157, 158] (.sq (.sq .z (.cd .z .z)) (.sq (.bk (.jn [23, 25] [24, 112, 113, 114, 115, 116, 117, 118, 119, 120, 121, 122, 123, 124] (.dr (.pur false 0 (.pur true 1 (.pur true 2 (.pur true 3 (.pur false 4 (.alt (.eff 5 [0] (.pur true 6 (.pur true 7 (.alt (.eff 8 [] (.pur true 9 (.pur true 10 (.pur true 11 (.pur true 12 (.eff 13 [0, 4] (.eff 14 [] (.pur true 15 (.pur true 16 .done))))))))) (.eff 13 [0, 4] (.eff 8 [] (.pur true 9 (.pur true 10 (.pur true 11 (.pur true 12 (.eff 14 [] (.pur true 15 (.pur true 16 .done))))))))))))) (.eff 13 [0, 4] (.eff 5 [0] (.pur true 6 (.pur true 7 (.eff 8 [] (.pur true 9 (.pur true 10 (.pur true 11 (.pur true 12 (.eff 14 [] (.pur true 15 (.pur true 16 .done))))))))))))))))))) (.sq (.sq .z (.cd (.sq .z .z) .z)) (.sq .z (.sq .z (.cd (.sq .z (.sq .z (.sq .z (.sq (.sq .z (.cd (.sq .z .z) .z)) (.sq .z (.cd (.sq .z .z) .z)))))) .z)))))) .z))))) (.sq .z (.sq .z .z)))))))))))) [t0, t1, t2, t3, t4, t5] Tryz.func4 (by kernel_rfl) (by kernel_rfl) h
end Go.Proofs.YthdhnhghjecfkaaGreat
