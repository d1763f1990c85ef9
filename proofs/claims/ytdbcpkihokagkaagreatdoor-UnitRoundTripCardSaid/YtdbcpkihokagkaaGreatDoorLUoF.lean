/-
  Contracts and plain lemmas. By an AI agent.
-/
import Derived.Test.YtdbcpkihokagkaaGreatDoorEng
import Derived.Test.YtdbcpkihokagkaaGreatDoorProg
set_option linter.unusedSimpArgs false
set_option linter.unusedVariables false
set_option linter.unusedSectionVars false
namespace Go.Proofs.YtdbcpkihokagkaaGreatDoor
open Go Go.Eng Go.Shelf
set_option maxRecDepth 100000
variable {t0 t1 t2 t3 : Value} {w : World} {R : Ending → World → Prop}
def s_law05_UnitRoundTrip (P : Program) (t0 t1 t2 t3 : Value) (w : World) (R : Ending → World → Prop) : Prop :=
 Bx P 28 t0 w fun t4 w =>
 Bx P 28 t1 w fun t5 w =>
 Cl P 10 #[] w (Pk R) fun t21 w =>
 Ld P 28 t4 w fun t22 w =>
 Cl P 12 #[t22] w (Pk R) fun t23 w =>
 Al P 27 w fun t10 w =>
 Sto P 27 t10 t23 w fun w =>
 Ld P 28 t5 w fun t24 w =>
 Cl P 12 #[t24] w (Pk R) fun t25 w =>
 Al P 27 w fun t11 w =>
 Sto P 27 t11 t25 w fun w =>
 Bt P .len #[9] 3 #[t2] w fun t28 w =>
 Bt P .min #[3, 3] 3 #[t28, (.int .i64 100)] w fun t29 w =>
 Sc P 9 t2 none (some t29) none w fun t30 w =>
 Bt P .len #[9] 3 #[t3] w fun t33 w =>
 Bt P .min #[3, 3] 3 #[t33, (.int .i64 100)] w fun t34 w =>
 Sc P 9 t3 none (some t34) none w fun t35 w =>
 Ld P 27 t10 w fun t37 w =>
 Cl P 29 #[t37] w (Pk R) fun t38 w =>
 Cl P 31 #[t38] w (Pk R) fun t39 w =>
 Ex t39 0 w fun t40 w =>
 Ex t39 1 w fun t41 w =>
 Al P 27 w fun t12 w =>
 Sto P 27 t12 t40 w fun w =>
 Ld P 27 t10 w fun t43 w =>
 Cl P 27 #[t43] w (Pk R) fun t44 w =>
 Ex t44 0 w fun t45 w =>
 Ex t44 1 w fun t46 w =>
 Ld P 27 t11 w fun t48 w =>
 Cl P 27 #[t48] w (Pk R) fun t49 w =>
 Ex t49 0 w fun t50 w =>
 Ex t49 1 w fun t51 w =>
 Bn P .add 9 false t30 t45 w fun t55 w =>
 Bn P .add 9 false t55 t35 w fun t57 w =>
 Bt P .len #[9] 3 #[t30] w fun t59 w =>
 Cl P 33 #[t57, t59] w (Pk R) fun t60 w =>
 Ex t60 0 w fun t61 w =>
 Ex t60 1 w fun t62 w =>
 Ex t60 2 w fun t63 w =>
 Al P 27 w fun t18 w =>
 Sto P 27 t18 t61 w fun w =>
 GdP t21 true (fun k => k t41) fun t66 =>
 GdP t21 true (fun k => Dv P true (bn .eql 35 true t66 (.int .i64 0)) w.drew k) fun t67 =>
 PickP t21 t67 (.bool false) fun t68 =>
 GdP t68 true (fun k => dL P 27 t12 w.drew k) fun t70 =>
 GdP t68 true (fun k => dL P 27 t10 w.drew k) fun t71 =>
 GdP t68 true (fun k => Dv P false (bn .eql 27 false t70 t71) w.drew k) fun t72 =>
 PickP t68 t72 (.bool false) fun t73 =>
 GdP t73 true (fun k => k t46) fun t75 =>
 GdP t73 true (fun k => Dv P true (bn .eql 35 true t75 (.int .i64 0)) w.drew k) fun t76 =>
 PickP t73 t76 (.bool false) fun t77 =>
 GdP t77 true (fun k => k t51) fun t79 =>
 GdP t77 true (fun k => Dv P true (bn .eql 35 true t79 (.int .i64 0)) w.drew k) fun t80 =>
 PickP t77 t80 (.bool false) fun t81 =>
 GdP t81 true (fun k => k t63) fun t83 =>
 GdP t81 true (fun k => Dv P true (bn .eql 35 true t83 (.int .i64 0)) w.drew k) fun t84 =>
 PickP t81 t84 (.bool false) fun t85 =>
 GdP t85 true (fun k => dL P 27 t18 w.drew k) fun t87 =>
 GdP t85 true (fun k => dL P 27 t10 w.drew k) fun t88 =>
 GdP t85 true (fun k => Dv P false (bn .eql 27 false t87 t88) w.drew k) fun t89 =>
 PickP t85 t89 (.bool false) fun t90 =>
 GdP t90 true (fun k => k t62) fun t92 =>
 GdP t90 true (fun k => k t30) fun t93 =>
 GdP t90 true (fun k => Dv P true (bV .len #[9] 3 #[t93]) w.drew k) fun t94 =>
 GdP t90 true (fun k => k t45) fun t95 =>
 GdP t90 true (fun k => Dv P true (bV .len #[9] 3 #[t95]) w.drew k) fun t96 =>
 GdP t90 true (fun k => Dv P true (bn .add 3 false t94 t96) w.drew k) fun t97 =>
 GdP t90 true (fun k => Dv P true (bn .eql 3 false t92 t97) w.drew k) fun t98 =>
 PickP t90 t98 (.bool false) fun t99 =>
 GdP t99 true (fun k => k t45) fun t101 =>
 GdP t99 true (fun k => k t50) fun t102 =>
 GdP t99 true (fun k => Dv P true (bn .eql 9 false t101 t102) w.drew k) fun t103 =>
 GdP t99 true (fun k => dL P 27 t10 w.drew k) fun t104 =>
 GdP t99 true (fun k => dL P 27 t11 w.drew k) fun t105 =>
 GdP t99 true (fun k => Dv P false (bn .eql 27 false t104 t105) w.drew k) fun t106 =>
 GdP t99 true (fun k => Dv P true (bn .eql 4 false t103 t106) w.drew k) fun t107 =>
 PickP t99 t107 (.bool false) fun t108 =>
 GdP t108 true (fun k => dL P 27 t10 w.drew k) fun t110 =>
 GdP t108 true (fun k => dL P 27 t11 w.drew k) fun t112 =>
 GdP t108 true (fun k => dL P 27 t10 w.drew k) fun t115 =>
 GdP t108 true (fun k => dL P 27 t11 w.drew k) fun t116 =>
 GdP t108 true (fun k => Dv P false (bn .eql 27 false t115 t116) w.drew k) fun t117 =>
 Gd t108 true (fun k => Cl P 29 #[t110] w.drew (Pk R) k) w.drew fun t111 w =>
 Kg t108 true P (Instr.loadAt 27 t11) t112 w <|
 Kg t108 true P (Instr.loadAt 27 t10) t115 w <|
 Kg t108 true P (Instr.loadAt 27 t11) t116 w <|
 Kg t108 true P (bn .eql 27 false t115 t116) t117 w <|
 Gd t108 true (fun k => Cl P 29 #[t112] w (Pk R) k) w fun t113 w =>
 Kg t108 true P (Instr.loadAt 27 t10) t115 w <|
 Kg t108 true P (Instr.loadAt 27 t11) t116 w <|
 Kg t108 true P (bn .eql 27 false t115 t116) t117 w <|
 GdP t108 true (fun k => Dv P true (bn .eql 9 false t111 t113) w k) fun t114 =>
 GdP t108 true (fun k => Dv P true (bn .eql 4 false t114 t117) w k) fun t118 =>
 PickP t108 t118 (.bool false) fun t119 =>
 R (.returned t119) w
theorem e_law05_UnitRoundTrip (h : s_law05_UnitRoundTrip Tryz.prog t0 t1 t2 t3 w R) : Calls Tryz.prog 8 #[t0, t1, t2, t3] w R :=
 en1 (.sq .z (.sq .z (.sq .z (.sq .z (.sq .z (.sq .z (.sq .z (.sq .z (.sq .z (.sq .z (.sq (.dr (.pur true 0 (.pur true 1 (.pur true 2 (.pur true 3 (.pur true 4 (.pur true 5 (.pur false 6 (.pur false 7 (.pur false 8 (.pur true 9 (.pur true 10 (.pur true 11 (.pur true 12 (.pur true 13 (.pur true 14 (.pur true 15 (.pur true 16 (.pur true 17 (.pur true 18 (.pur true 19 (.pur true 20 (.pur true 21 (.pur true 22 (.pur false 23 (.pur false 24 (.pur false 25 (.pur true 26 (.pur true 27 (.pur true 28 (.pur true 29 (.pur true 30 (.pur true 31 (.pur true 32 (.pur true 33 (.pur true 34 (.pur true 35 (.pur true 36 (.pur true 37 (.pur true 38 (.pur true 39 (.pur false 40 (.pur false 41 (.pur false 42 (.pur true 43 (.pur true 44 (.pur true 45 (.pur false 46 (.pur false 48 (.pur false 51 (.pur false 52 (.pur false 53 (.eff 47 [48, 51, 52, 53] (.eff 49 [51, 52, 53] (.pur true 50 (.pur true 54 (.pur true 55 (.pur true 56 .done)))))))))))))))))))))))))))))))))))))))))))))))))))))))))) .z))))))))))) [t0, t1, t2, t3] Tryz.func8 (by kernel_rfl) (by kernel_rfl) h
end Go.Proofs.YtdbcpkihokagkaaGreatDoor
