/-
  Contracts of functions of the program, and plain lemmas on numbers and strings. By an AI agent.
-/
import Derived.Test.YthpcmmfijelbaaaGreatDoorQHelp
set_option linter.unusedSimpArgs false
set_option linter.unusedVariables false
set_option linter.unusedSectionVars false
namespace Go.Proofs.YthpcmmfijelbaaaGreatDoor
open Go Go.Eng Go.Proofs Go.Num Go.RowKit
set_option maxRecDepth 100000
set_option linter.unusedVariables false
set_option linter.unusedSectionVars false
theorem eqIn_R4 {w : World} {x0 x1 x2 x3 x4 x5 x6 x7 : List UInt8} : (Op.equalIn 10000 49 (.agg #[str x0, str x1, str x2, str x3, str x4, str x5, str x6, str x7]) (.agg #[str x0, str x1, str x2, str x3, str x4, str x5, str x6, str x7])).run Tryz.prog w = .ok true w := by
  obtain ⟨i, hi, hc⟩ : ∃ i, Tryz.prog.info? tR = some i ∧ Tryz.prog.cellsOf tR = 2 := ⟨Tryz.t23, by kernel_rfl, by kernel_rfl⟩
  have hu : Tryz.prog.underlying 49 = some (.array 4 tR) := Tryz.underlying49
  rw [run_equalIn_array w 9999 _ _ hu hi, hc]
  show (Op.eqItems 9999 tR 2 _ _ [0, 1, 2, 3]).run Tryz.prog w = _
  ((try simp -dsimp [go_sem, Op.eqItems]); repeat (simp -dsimp (disch := omega) only [gL, it_t, it_f, dit_t, dit_f]; try simp -dsimp [go_sem, Op.eqItems]))
theorem eqIn_E4 {w : World} {x0 x1 x2 x3 : Int} : (Op.equalIn 10000 50 (.agg #[.int .i64 x0, .int .i64 x1, .int .i64 x2, .int .i64 x3]) (.agg #[.int .i64 x0, .int .i64 x1, .int .i64 x2, .int .i64 x3])).run Tryz.prog w = .ok true w := by
  obtain ⟨i, hi, hc⟩ : ∃ i, Tryz.prog.info? 30 = some i ∧ Tryz.prog.cellsOf 30 = 1 := ⟨Tryz.t30, by kernel_rfl, by kernel_rfl⟩
  have hu : Tryz.prog.underlying 50 = some (.array 4 30) := Tryz.underlying50
  rw [run_equalIn_array w 9999 _ _ hu hi, hc]
  show (Op.eqItems 9999 30 1 _ _ [0, 1, 2, 3]).run Tryz.prog w = _
  ((try simp -dsimp [go_sem, Op.eqItems]); repeat (simp -dsimp (disch := omega) only [gL, it_t, it_f, dit_t, dit_f]; try simp -dsimp [go_sem, Op.eqItems]))
section
variable {w : World} {K : Value → World → Prop} {KP : Value → Prop} {s g : Nat} {wi : Bool}
theorem bs5R {a0 b0 a1 b1 a2 b2 a3 b3 a4 b4 : List UInt8} (hk : ∀ s w1, Ext w w1 → w.heap.size ≤ s → Blk w1 s tR (cellsR [(a0, b0), (a1, b1), (a2, b2), (a3, b3), (a4, b4)]) → K (.slice (some ⟨s, 0, none⟩) 5 5) w1) :
    Bs Tryz.prog tL 5 [(0, .agg #[str a0, str b0]), (1, .agg #[str a1, str b1]), (2, .agg #[str a2, str b2]), (3, .agg #[str a3, str b3]), (4, .agg #[str a4, str b4])] w K := by
  rw [Bs_x]
  have hr : (Instr.buildSlice tL 5 [(0, (.agg #[str a0, str b0] : Value)), (1, .agg #[str a1, str b1]), (2, .agg #[str a2, str b2]), (3, .agg #[str a3, str b3]), (4, .agg #[str a4, str b4])].toArray).run Tryz.prog w = .ok (.slice (some ⟨w.heap.size, 0, none⟩) 5 5) (w.alloc (.cells #[str a0, str b0, str a1, str b1, str a2, str b2, str a3, str b3, str a4, str b4] tR)) := by
    obtain ⟨i, hi, hz, hs⟩ : ∃ i, Tryz.prog.info? tR = some i ∧ i.zero = some (.agg #[.string ⟨#[]⟩, .string ⟨#[]⟩]) ∧ i.size = 2 := ⟨Tryz.t23, by kernel_rfl, by kernel_rfl, by kernel_rfl⟩
    exact run_buildSlice w _ _ 5 _ _ i _ Tryz.underlying28 hi hz (by rw [hs]; decide) (by rw [hs]; decide) (by rw [hs]; simp only [Instr.fill, Value.cells]; kernel_rfl)
  rw [hr]
  exact hk _ _ ((Ext.refl w).al _) (Nat.le_refl _) (Blk.al w [str a0, str b0, str a1, str b1, str a2, str b2, str a3, str b3, str a4, str b4] _)
theorem bs2I {x y : Int} (hk : ∀ s w1, Ext w w1 → w.heap.size ≤ s → Blk w1 s 3 [.int .i64 x, .int .i64 y] → K (.slice (some ⟨s, 0, none⟩) 2 2) w1) :
    Bs Tryz.prog 53 2 [(0, .int .i64 x), (1, .int .i64 y)] w K := by
  rw [Bs_x]
  have hr : (Instr.buildSlice 53 2 [(0, (.int .i64 x : Value)), (1, .int .i64 y)].toArray).run Tryz.prog w = .ok (.slice (some ⟨w.heap.size, 0, none⟩) 2 2) (w.alloc (.cells #[.int .i64 x, .int .i64 y] 3)) := by
    obtain ⟨i, hi, hz, hs⟩ : ∃ i, Tryz.prog.info? 3 = some i ∧ i.zero = some (.int .i64 0) ∧ i.size = 1 := ⟨Tryz.t3, by kernel_rfl, by kernel_rfl, by kernel_rfl⟩
    exact run_buildSlice w _ _ 2 _ _ i _ Tryz.underlying53 hi hz (by rw [hs]; decide) (by rw [hs]; decide) (by rw [hs]; simp only [Instr.fill, Value.cells]; kernel_rfl)
  rw [hr]
  exact hk _ _ ((Ext.refl w).al _) (Nat.le_refl _) (Blk.al w [.int .i64 x, .int .i64 y] _)
theorem ld2I {i x y : Int} (h : Blk w s 3 [.int .i64 x, .int .i64 y]) (h0 : 0 ≤ i) (h1 : i < 2) (hk : ∀ u, K (.int .i64 u) w) : Ia Tryz.prog 53 (.slice (some ⟨s, 0, none⟩) 2 2) (.int .i64 i) w fun t w => Ld Tryz.prog 3 t w K := by
  rcases (show i = 0 ∨ i = 1 by omega) with rfl | rfl
  · have := hk x
    ((try simp -dsimp [go_sem, h.cell (i := 0) rfl]); repeat (simp -dsimp (disch := omega) only [gL, it_t, it_f, dit_t, dit_f]; try simp -dsimp [go_sem, h.cell (i := 0) rfl]))
    exact this
  · have := hk y
    ((try simp -dsimp [go_sem, h.cell (i := 1) rfl]); repeat (simp -dsimp (disch := omega) only [gL, it_t, it_f, dit_t, dit_f]; try simp -dsimp [go_sem, h.cell (i := 1) rfl]))
    exact this
theorem dvIx {j : Nat} (hj : j < 5) (hk : KP (pq g (j * 2))) : Dv Tryz.prog true (Instr.indexAt tL (.slice (some ⟨g, 0, none⟩) 5 5) (.int .i64 (j : Int))) w KP := by
  have h : (j : Int) < 5 := by omega
  ((try simp -dsimp [go_sem, hj, h]); repeat (simp -dsimp (disch := omega) only [gL, it_t, it_f, dit_t, dit_f]; try simp -dsimp [go_sem, hj, h]))
  exact hk
theorem gdR4 {op : BinOp} {c : Bool} {xs ys : Array Value} {w : World} : (eqG op 49 c (.agg xs) (.agg ys)).run Tryz.prog w = .ok () w := eqG_agg (by kernel_rfl)
theorem gdE4 {op : BinOp} {c : Bool} {xs ys : Array Value} {w : World} : (eqG op 50 c (.agg xs) (.agg ys)).run Tryz.prog w = .ok () w := eqG_agg (by kernel_rfl)
theorem dneR4 {x0 x1 x2 x3 x4 x5 x6 x7 : List UInt8} (hk : KP (.bool false)) : Dv Tryz.prog wi (bn .neq 49 false (.agg #[str x0, str x1, str x2, str x3, str x4, str x5, str x6, str x7]) (.agg #[str x0, str x1, str x2, str x3, str x4, str x5, str x6, str x7])) w KP := by
  cases wi <;> ((try simp -dsimp [go_sem, gdR4, eqIn_R4]); repeat (simp -dsimp (disch := omega) only [gL, it_t, it_f, dit_t, dit_f]; try simp -dsimp [go_sem, gdR4, eqIn_R4])) <;> exact hk
theorem dneE4 {x0 x1 x2 x3 : Int} (hk : KP (.bool false)) : Dv Tryz.prog wi (bn .neq 50 false (.agg #[.int .i64 x0, .int .i64 x1, .int .i64 x2, .int .i64 x3]) (.agg #[.int .i64 x0, .int .i64 x1, .int .i64 x2, .int .i64 x3])) w KP := by
  cases wi <;> ((try simp -dsimp [go_sem, gdE4, eqIn_E4]); repeat (simp -dsimp (disch := omega) only [gL, it_t, it_f, dit_t, dit_f]; try simp -dsimp [go_sem, gdE4, eqIn_E4])) <;> exact hk
end
theorem k_fop {f : Rat → Rat → R3} {fn : FuncId} {n d m c : List UInt8} {w : World} {A : R3}
    (hc : ∀ {n d m c : List UInt8} {w : World}, n.length ≤ 1000000 → d.length ≤ 1000000 → m.length ≤ 1000000 → c.length ≤ 1000000 → Calls Tryz.prog fn #[.agg #[str n, str d], .agg #[str m, str c]] w (Ret fun r w' => Ext w w' ∧ r = rv (ans2 f rBad n d m c)))
    (hn : n.length ≤ 1000000 ∧ d.length ≤ 1000000) (hm : m.length ≤ 1000000 ∧ c.length ≤ 1000000) (hA : A = ans2 f rBad n d m c) :
    Calls Tryz.prog fn #[.agg #[str n, str d], .agg #[str m, str c]] w (Ret fun r w' => Ext w w' ∧ r = .tuple #[.agg #[str A.1, str A.2.1], .int .i64 A.2.2]) := by
  subst hA
  exact hc hn.1 hn.2 hm.1 hm.2
theorem cells_at {L : List (List UInt8 × List UInt8)} {j : Nat} {a b : List UInt8} (h : L[j]? = some (a, b)) : (cellsR L)[j * 2]? = some (str a) ∧ (cellsR L)[j * 2 + 1]? = some (str b) := cellsR_get h
def matchF (P : Program) (t5 t6 t7 t45 t58 : Value) (w : World) (R : Ending → World → Prop) : Prop :=
  Lp1 (.int .i64 0) w (fun t19 w k1 =>
  Bt P .len #[28] 3 #[t58] w fun t61 w =>
  Bn P .lss 3 false t19 t61 w fun t62 w =>
  If t62
  (Lp1 (.int .i64 0) w (fun t20 w k2 =>
  Bt P .len #[28] 3 #[t58] w fun t67 w =>
  Bn P .lss 3 false t20 t67 w fun t68 w =>
  If t68
  (Ia P 28 t58 t19 w fun t73 w =>
  Ld P 23 t73 w fun t74 w =>
  Al P 23 w fun t21 w =>
  Sto P 23 t21 t74 w fun w =>
  Ia P 28 t58 t20 w fun t77 w =>
  Ld P 23 t77 w fun t78 w =>
  Al P 23 w fun t22 w =>
  Sto P 23 t22 t78 w fun w =>
  Ld P 23 t21 w fun t80 w =>
  Ld P 23 t22 w fun t81 w =>
  Cl P 29 #[t80, t81] w (Pk R) fun t82 w =>
  Ex t82 0 w fun t83 w =>
  Ex t82 1 w fun t84 w =>
  Al P 49 w fun t23 w =>
  Al P 50 w fun t24 w =>
  Sto P 49 t23 t83 w fun w =>
  Sto P 50 t24 t84 w fun w =>
  Al P 49 w fun t25 w =>
  Al P 50 w fun t26 w =>
  Ld P 23 t21 w fun t86 w =>
  Ld P 23 t22 w fun t87 w =>
  Cl P 30 #[t86, t87] w (Pk R) fun t88 w =>
  Ex t88 0 w fun t89 w =>
  Ex t88 1 w fun t90 w =>
  Ia P 49 t25 (.int .i64 0) w fun t91 w =>
  Sto P 23 t91 t89 w fun w =>
  Ia P 50 t26 (.int .i64 0) w fun t92 w =>
  Sto P 30 t92 t90 w fun w =>
  Ld P 23 t21 w fun t94 w =>
  Ld P 23 t22 w fun t95 w =>
  Cl P 31 #[t94, t95] w (Pk R) fun t96 w =>
  Ex t96 0 w fun t97 w =>
  Ex t96 1 w fun t98 w =>
  Ia P 49 t25 (.int .i64 1) w fun t99 w =>
  Sto P 23 t99 t97 w fun w =>
  Ia P 50 t26 (.int .i64 1) w fun t100 w =>
  Sto P 30 t100 t98 w fun w =>
  Ld P 23 t21 w fun t102 w =>
  Ld P 23 t22 w fun t103 w =>
  Cl P 32 #[t102, t103] w (Pk R) fun t104 w =>
  Ex t104 0 w fun t105 w =>
  Ex t104 1 w fun t106 w =>
  Ia P 49 t25 (.int .i64 2) w fun t107 w =>
  Sto P 23 t107 t105 w fun w =>
  Ia P 50 t26 (.int .i64 2) w fun t108 w =>
  Sto P 30 t108 t106 w fun w =>
  Ld P 23 t21 w fun t110 w =>
  Ld P 23 t22 w fun t111 w =>
  Cl P 33 #[t110, t111] w (Pk R) fun t112 w =>
  Ex t112 0 w fun t113 w =>
  Ex t112 1 w fun t114 w =>
  Ia P 49 t25 (.int .i64 3) w fun t115 w =>
  Sto P 23 t115 t113 w fun w =>
  Ia P 50 t26 (.int .i64 3) w fun t116 w =>
  Sto P 30 t116 t114 w fun w =>
  Dv P false (Instr.loadAt 49 t23) w.drew fun t117 =>
  Dv P false (Instr.loadAt 49 t25) w.drew fun t118 =>
  Dv P false (bn .neq 49 false t117 t118) w.drew fun t119 =>
  GdP t119 false (fun k => Dv P false (Instr.loadAt 50 t24) w.drew k) fun t121 =>
  GdP t119 false (fun k => Dv P false (Instr.loadAt 50 t26) w.drew k) fun t122 =>
  GdP t119 false (fun k => Dv P false (bn .neq 50 false t121 t122) w.drew k) fun t123 =>
  PickP t119 (.bool true) t123 fun t124 =>
  GdP t124 false (fun k => Dv P false (Instr.loadAt 23 t21) w.drew k) fun t126 =>
  GdP t124 false (fun k => Dv P false (Instr.loadAt 23 t22) w.drew k) fun t127 =>
  GdP t124 false (fun k => Dv P false (Instr.loadAt 23 t21) w.drew k) fun t129 =>
  GdP t124 false (fun k => Dv P false (Instr.loadAt 23 t22) w.drew k) fun t130 =>
  Gd t124 false (fun k => Cl P 23 #[t126, t127] w.drew (Pk R) k) w.drew fun t128 w =>
  Kg t124 false P (Instr.loadAt 23 t21) t129 w <|
  Kg t124 false P (Instr.loadAt 23 t22) t130 w <|
  Gd t124 false (fun k => Cl P 34 #[t129, t130] w (Pk R) k) w fun t131 w =>
  GdP t124 false (fun k => Dv P true (bn .neq 3 false t128 t131) w k) fun t132 =>
  PickP t124 (.bool true) t132 fun t133 =>
  If t133
  (R (.returned (.bool false)) w)
  (Bn P .add 3 true t20 (.int .i64 1) w fun t70 w =>
  k2 t70 w))
  (Cl P 18 #[t7, (.int .i64 32)] w (Pk R) fun t136 w =>
  Bs P 53 2 [(0, t7), (1, t136)] w fun t137 w =>
  Bt P .len #[53] 3 #[t137] w fun t138 w =>
  Lp1 (.int .i64 0) w (fun t139 w k3 =>
  Bn P .lss 3 false t139 t138 w fun t140 w =>
  If t140
  (Ia P 53 t137 t139 w fun t141 w =>
  Ld P 3 t141 w fun t142 w =>
  Ia P 28 t58 t19 w fun t146 w =>
  Ld P 23 t146 w fun t147 w =>
  Cl P 35 #[t147, t142] w (Pk R) fun t149 w =>
  Ex t149 0 w fun t150 w =>
  Ex t149 1 w fun t151 w =>
  Al P 23 w fun t29 w =>
  Sto P 23 t29 t150 w fun w =>
  Ia P 28 t58 t19 w fun t155 w =>
  Ld P 23 t155 w fun t156 w =>
  Cl P 36 #[t156, t142] w (Pk R) fun t158 w =>
  Ex t158 0 w fun t159 w =>
  Ex t158 1 w fun t160 w =>
  Al P 23 w fun t31 w =>
  Sto P 23 t31 t159 w fun w =>
  Ia P 28 t58 t19 w fun t164 w =>
  Ld P 23 t164 w fun t165 w =>
  Cl P 37 #[t165, t142] w (Pk R) fun t167 w =>
  Ex t167 0 w fun t168 w =>
  Ex t167 1 w fun t169 w =>
  Al P 23 w fun t33 w =>
  Sto P 23 t33 t168 w fun w =>
  Ia P 28 t58 t19 w fun t173 w =>
  Ld P 23 t173 w fun t174 w =>
  Cl P 38 #[t174, t142] w (Pk R) fun t176 w =>
  Ex t176 0 w fun t177 w =>
  Ex t176 1 w fun t178 w =>
  Al P 23 w fun t35 w =>
  Sto P 23 t35 t177 w fun w =>
  Ld P 23 t29 w fun t179 w =>
  Ld P 23 t31 w fun t180 w =>
  Bn P .neq 23 false t179 t180 w fun t181 w =>
  Gd t181 false (fun k => k t151 w) w fun t183 w =>
  Gd t181 false (fun k => k t160 w) w fun t184 w =>
  Gd t181 false (fun k => Bn P .neq 30 false t183 t184 w k) w fun t185 w =>
  Pick t181 (.bool true) t185 w fun t186 w =>
  Gd t186 false (fun k => Ld P 23 t33 w k) w fun t188 w =>
  Gd t186 false (fun k => Ld P 23 t35 w k) w fun t189 w =>
  Gd t186 false (fun k => Bn P .neq 23 false t188 t189 w k) w fun t190 w =>
  Pick t186 (.bool true) t190 w fun t191 w =>
  Gd t191 false (fun k => k t169 w) w fun t193 w =>
  Gd t191 false (fun k => k t178 w) w fun t194 w =>
  Gd t191 false (fun k => Bn P .neq 30 false t193 t194 w k) w fun t195 w =>
  Pick t191 (.bool true) t195 w fun t196 w =>
  If t196
  (R (.returned (.bool false)) w)
  (Bn P .add 3 true t139 (.int .i64 1) w fun t197 w =>
  k3 t197 w))
  (Jn2 (fun k4 =>
  Dv P true (Instr.indexAt 28 t58 t19) w.drew fun t201 =>
  Dv P true (Instr.fieldAt 23 t201 0) w.drew fun t202 =>
  Dv P false (Instr.loadAt 9 t202) w.drew fun t203 =>
  Dv P true (Instr.indexAt 28 t58 (.int .i64 0)) w.drew fun t205 =>
  Dv P true (Instr.fieldAt 23 t205 1) w.drew fun t206 =>
  Dv P false (Instr.loadAt 9 t206) w.drew fun t207 =>
  (Cl P 22 #[t203, t207] w.drew (Pk R) fun t208 w =>
  ExP t208 0 fun t209 =>
  ExP t208 1 fun t210 =>
  Al P 23 w fun t37 w =>
  Ke P (Instr.loadAt 9 t202) t203 w <|
  Ke P (Instr.loadAt 9 t206) t207 w <|
  Sto P 23 t37 t209 w fun w =>
  k4 t37 t210 w) ∧
  (Al P 23 w.drew fun t37x1 w =>
  Ke P (Instr.loadAt 9 t202) t203 w <|
  Ke P (Instr.loadAt 9 t206) t207 w <|
  Cl P 22 #[t203, t207] w (Pk R) fun t208x1 w =>
  ExP t208x1 0 fun t209x1 =>
  ExP t208x1 1 fun t210x1 =>
  Sto P 23 t37x1 t209x1 w fun w =>
  k4 t37x1 t210x1 w))
  (fun t37x2 t38 w =>
  Jn2 (fun k5 =>
  Dv P true (Instr.indexAt 28 t58 t19) w.drew fun t214 =>
  Dv P true (Instr.fieldAt 23 t214 0) w.drew fun t215 =>
  Dv P false (Instr.loadAt 9 t215) w.drew fun t216 =>
  Dv P true (Instr.indexAt 28 t58 (.int .i64 0)) w.drew fun t218 =>
  Dv P true (Instr.fieldAt 23 t218 1) w.drew fun t219 =>
  Dv P false (Instr.loadAt 9 t219) w.drew fun t220 =>
  (Cl P 39 #[t216, t220] w.drew (Pk R) fun t221 w =>
  ExP t221 0 fun t222 =>
  ExP t221 1 fun t223 =>
  Al P 23 w fun t39 w =>
  Ke P (Instr.loadAt 9 t215) t216 w <|
  Ke P (Instr.loadAt 9 t219) t220 w <|
  Sto P 23 t39 t222 w fun w =>
  k5 t39 t223 w) ∧
  (Al P 23 w.drew fun t39x1 w =>
  Ke P (Instr.loadAt 9 t215) t216 w <|
  Ke P (Instr.loadAt 9 t219) t220 w <|
  Cl P 39 #[t216, t220] w (Pk R) fun t221x1 w =>
  ExP t221x1 0 fun t222x1 =>
  ExP t221x1 1 fun t223x1 =>
  Sto P 23 t39x1 t222x1 w fun w =>
  k5 t39x1 t223x1 w))
  (fun t39x2 t40 w =>
  Dv P true (Instr.indexAt 28 t58 t19) w.drew fun t226 =>
  Dv P false (Instr.loadAt 23 t226) w.drew fun t227 =>
  Dv P true (Instr.indexAt 28 t58 t19) w.drew fun t231 =>
  Dv P false (Instr.loadAt 23 t231) w.drew fun t232 =>
  Cl P 17 #[t227] w.drew (Pk R) fun t228 w =>
  Ke P (Instr.loadAt 23 t231) t232 w <|
  Cl P 40 #[t232] w (Pk R) fun t233 w =>
  Dv P true (bn .neq 4 false t228 t233) w fun t234 =>
  GdP t234 false (fun k => Dv P false (Instr.loadAt 23 t37x2) w k) fun t236 =>
  GdP t234 false (fun k => Dv P false (Instr.loadAt 23 t39x2) w k) fun t237 =>
  GdP t234 false (fun k => Dv P false (bn .neq 23 false t236 t237) w k) fun t238 =>
  PickP t234 (.bool true) t238 fun t239 =>
  GdP t239 false (fun k => k t38) fun t241 =>
  GdP t239 false (fun k => k t40) fun t242 =>
  GdP t239 false (fun k => Dv P true (bn .neq 30 false t241 t242) w k) fun t243 =>
  PickP t239 (.bool true) t243 fun t244 =>
  If t244
  (R (.returned (.bool false)) w)
  (Bn P .add 3 true t19 (.int .i64 1) w fun t64 w =>
  k1 t64 w))))))))
  (Cl P 41 #[t5, t6] w (Pk R) fun t248 w =>
  Ex t248 0 w fun t249 w =>
  Ex t248 1 w fun t250 w =>
  Al P 23 w fun t41 w =>
  Sto P 23 t41 t249 w fun w =>
  Cl P 42 #[t5, t6] w (Pk R) fun t254 w =>
  Ex t254 0 w fun t255 w =>
  Ex t254 1 w fun t256 w =>
  Al P 23 w fun t43 w =>
  Sto P 23 t43 t255 w fun w =>
  Gd t45 true (fun k => Ld P 23 t41 w k) w fun t259 w =>
  Gd t45 true (fun k => Ld P 23 t43 w k) w fun t260 w =>
  Gd t45 true (fun k => Bn P .eql 23 false t259 t260 w k) w fun t261 w =>
  Pick t45 t261 (.bool false) w fun t262 w =>
  Gd t262 true (fun k => k t250 w) w fun t264 w =>
  Gd t262 true (fun k => k t256 w) w fun t265 w =>
  Gd t262 true (fun k => Bn P .eql 30 false t264 t265 w k) w fun t266 w =>
  Pick t262 t266 (.bool false) w fun t267 w =>
  R (.returned t267) w))
set_option maxHeartbeats 8000000 in
theorem match_loops {e0 e1 pl : Int} {w W0 : World} {g58 : Nat} {L : List (List UInt8 × List UInt8)} (hB : Tryz.prog.underlying 4 = some .bool) (hL : ∃ e, Tryz.prog.underlying 28 = some (.slice e)) (hLi : ∃ e, Tryz.prog.underlying 53 = some (.slice e))
    (cOf : ∀ (w : World), Tab w → Calls Tryz.prog 41 #[.int .i64 e0, .int .i64 e1] w (Ret fun r w' => Ext w w' ∧ r = rv (makeQ e0 e1))) (cfOf : ∀ (w : World), Calls Tryz.prog 42 #[.int .i64 e0, .int .i64 e1] w (Ret fun r w' => Ext w w' ∧ r = rv (makeQ e0 e1)))
    (cpk : ∀ w : World, Calls Tryz.prog 18 #[.int .i64 pl, .int .i64 32] w (Ret fun r w' => Ext w w' ∧ r = .int .i64 (pickZ pl 32)))
    (hT : Tab w) (xx : Ext w W0) (b58 : Blk W0 g58 tR (cellsR L)) (hL5 : L.length = 5) (hlen : ∀ (j : Nat) (a b : List UInt8), L[j]? = some (a, b) → a.length ≤ 1000000 ∧ b.length ≤ 1000000) :
    matchF Tryz.prog (.int .i64 e0) (.int .i64 e1) (.int .i64 pl) (.bool true) (.slice (some ⟨g58, 0, none⟩) 5 5) W0 (Ret fun r w' => Ext w w' ∧ r = .bool true) := by
  have get : ∀ j : Nat, j < 5 → L[j]? = some (L[j]!.1, L[j]!.2) := by
    intro j hj
    rw [List.getElem!_eq_getElem?_getD, List.getElem?_eq_getElem (by omega)]
    rfl
  unfold matchF
  refine Lp1.mk (fun (v : Value) (W : World) => ∃ j : Nat, j ≤ 5 ∧ v = .int .i64 j ∧ Ext w W ∧ Blk W g58 tR (cellsR L)) (fun i _ => match i with | .int _ i' => 5 - i'.toNat | _ => 0) ⟨0, by omega, rfl, xx, b58⟩ ?_
  clear xx b58
  rintro _ W ⟨j, hj, rfl, xx, b58⟩
  refine Bt_lenL hL ?_
  by_cases hj5 : j < 5
  · refine Bn_ltT (by omega) (If_T ?_)
    have gj := get j hj5
    have lj := hlen j _ _ gj
    have l0 := hlen 0 _ _ (get 0 (by decide))
    refine Lp1.mk (fun (v : Value) (W : World) => ∃ j : Nat, j ≤ 5 ∧ v = .int .i64 j ∧ Ext w W ∧ Blk W g58 tR (cellsR L)) (fun i _ => match i with | .int _ i' => 5 - i'.toNat | _ => 0) ⟨0, by omega, rfl, xx, b58⟩ ?_
    clear xx b58
    rintro _ W ⟨h, hh, rfl, xx, b58⟩
    refine Bt_lenL hL ?_
    by_cases hh5 : h < 5
    · refine Bn_ltT (by omega) (If_T ?_)
      have gh := get h hh5
      have lh := hlen h _ _ gh
      have q4 := fun (w : World) (hT : Tab w) => k_four (w := w) lj lh rfl rfl rfl rfl hT
      have f1 := fun (w : World) => k_fop (w := w) c_fAdd lj lh rfl
      have f2 := fun (w : World) => k_fop (w := w) c_fSub lj lh rfl
      have f3 := fun (w : World) => k_fop (w := w) c_fMul lj lh rfl
      have f4 := fun (w : World) => k_fop (w := w) c_fDiv lj lh rfl
      have c1 := fun (w : World) (hT : Tab w) => c_qCmp (w := w) lj.1 lj.2 lh.1 lh.2 hT
      have c2 := fun (w : World) => c_fCmp (w := w) lj.1 lj.2 lh.1 lh.2
      refine ldRs b58 hL5.symm rfl gj ?_
      have z58 := b58.lt
      refine alR fun g21 w31 x31 hg21 hl21 b21 => ?_
      have k21 : w.heap.size ≤ g21 := by have := xx.size; omega
      have n58x21 : g58 ≠ g21 := by omega
      replace b58 := b58.ext x31
      replace xx := xx.tr x31
      refine stoR b21 fun w32 o32 b21 => ?_
      replace b58 := blkOwn b58 n58x21 o32
      replace xx := o32.ext xx k21
      refine ldRs b58 hL5.symm rfl gh ?_
      have z58 := b58.lt
      have z21 := b21.lt
      refine alR fun g22 w33 x33 hg22 hl22 b22 => ?_
      have k22 : w.heap.size ≤ g22 := by have := xx.size; omega
      have n58x22 : g58 ≠ g22 := by omega
      have n21x22 : g21 ≠ g22 := by omega
      replace b58 := b58.ext x33
      replace b21 := b21.ext x33
      replace xx := xx.tr x33
      refine stoR b22 fun w34 o34 b22 => ?_
      replace b58 := blkOwn b58 n58x22 o34
      replace b21 := blkOwn b21 n21x22 o34
      replace xx := o34.ext xx k22
      refine ldR b21 (ldR b22 ?_)
      refine Cl2 n_law04_four (q4 _ (hT.ext xx)) fun w35 x35 => ?_
      replace b58 := b58.ext x35
      replace b21 := b21.ext x35
      replace b22 := b22.ext x35
      replace xx := xx.tr x35
      have z58 := b58.lt
      have z21 := b21.lt
      have z22 := b22.lt
      refine alR4 fun g23 w36 x36 hg23 hl23 b23 => ?_
      have k23 : w.heap.size ≤ g23 := by have := xx.size; omega
      have n58x23 : g58 ≠ g23 := by omega
      have n21x23 : g21 ≠ g23 := by omega
      have n22x23 : g22 ≠ g23 := by omega
      replace b58 := b58.ext x36
      replace b21 := b21.ext x36
      replace b22 := b22.ext x36
      replace xx := xx.tr x36
      have z58 := b58.lt
      have z21 := b21.lt
      have z22 := b22.lt
      have z23 := b23.lt
      refine alE4 fun g24 w37 x37 hg24 hl24 b24 => ?_
      have k24 : w.heap.size ≤ g24 := by have := xx.size; omega
      have n58x24 : g58 ≠ g24 := by omega
      have n21x24 : g21 ≠ g24 := by omega
      have n22x24 : g22 ≠ g24 := by omega
      have n23x24 : g23 ≠ g24 := by omega
      replace b58 := b58.ext x37
      replace b21 := b21.ext x37
      replace b22 := b22.ext x37
      replace b23 := b23.ext x37
      replace xx := xx.tr x37
      refine stR4 b23 fun w38 o38 b23 => ?_
      replace b58 := blkOwn b58 n58x23 o38
      replace b21 := blkOwn b21 n21x23 o38
      replace b22 := blkOwn b22 n22x23 o38
      replace b24 := blkOwn b24 n23x24.symm o38
      replace xx := o38.ext xx k23
      refine stE4 b24 fun w39 o39 b24 => ?_
      replace b58 := blkOwn b58 n58x24 o39
      replace b21 := blkOwn b21 n21x24 o39
      replace b22 := blkOwn b22 n22x24 o39
      replace b23 := blkOwn b23 n23x24 o39
      replace xx := o39.ext xx k24
      have z58 := b58.lt
      have z21 := b21.lt
      have z22 := b22.lt
      have z23 := b23.lt
      have z24 := b24.lt
      refine alR4 fun g25 w40 x40 hg25 hl25 b25 => ?_
      have k25 : w.heap.size ≤ g25 := by have := xx.size; omega
      have n58x25 : g58 ≠ g25 := by omega
      have n21x25 : g21 ≠ g25 := by omega
      have n22x25 : g22 ≠ g25 := by omega
      have n23x25 : g23 ≠ g25 := by omega
      have n24x25 : g24 ≠ g25 := by omega
      replace b58 := b58.ext x40
      replace b21 := b21.ext x40
      replace b22 := b22.ext x40
      replace b23 := b23.ext x40
      replace b24 := b24.ext x40
      replace xx := xx.tr x40
      have z58 := b58.lt
      have z21 := b21.lt
      have z22 := b22.lt
      have z23 := b23.lt
      have z24 := b24.lt
      have z25 := b25.lt
      refine alE4 fun g26 w41 x41 hg26 hl26 b26 => ?_
      have k26 : w.heap.size ≤ g26 := by have := xx.size; omega
      have n58x26 : g58 ≠ g26 := by omega
      have n21x26 : g21 ≠ g26 := by omega
      have n22x26 : g22 ≠ g26 := by omega
      have n23x26 : g23 ≠ g26 := by omega
      have n24x26 : g24 ≠ g26 := by omega
      have n25x26 : g25 ≠ g26 := by omega
      replace b58 := b58.ext x41
      replace b21 := b21.ext x41
      replace b22 := b22.ext x41
      replace b23 := b23.ext x41
      replace b24 := b24.ext x41
      replace b25 := b25.ext x41
      replace xx := xx.tr x41
      refine ldR b21 (ldR b22 ?_)
      refine Cl2 n_ref04_Add (f1 _) fun w42 x42 => ?_
      replace b58 := b58.ext x42
      replace b21 := b21.ext x42
      replace b22 := b22.ext x42
      replace b23 := b23.ext x42
      replace b24 := b24.ext x42
      replace b25 := b25.ext x42
      replace b26 := b26.ext x42
      replace xx := xx.tr x42
      refine iaR4x0 ?_
      refine sR8x0 b25 fun w43 o43 b25 => ?_
      replace b58 := blkOwn b58 n58x25 o43
      replace b21 := blkOwn b21 n21x25 o43
      replace b22 := blkOwn b22 n22x25 o43
      replace b23 := blkOwn b23 n23x25 o43
      replace b24 := blkOwn b24 n24x25 o43
      replace b26 := blkOwn b26 n25x26.symm o43
      replace xx := o43.ext xx k25
      refine iaE4x0 ?_
      refine sE4x0 b26 fun w44 o44 b26 => ?_
      replace b58 := blkOwn b58 n58x26 o44
      replace b21 := blkOwn b21 n21x26 o44
      replace b22 := blkOwn b22 n22x26 o44
      replace b23 := blkOwn b23 n23x26 o44
      replace b24 := blkOwn b24 n24x26 o44
      replace b25 := blkOwn b25 n25x26 o44
      replace xx := o44.ext xx k26
      refine ldR b21 (ldR b22 ?_)
      refine Cl2 n_ref04_Sub (f2 _) fun w45 x45 => ?_
      replace b58 := b58.ext x45
      replace b21 := b21.ext x45
      replace b22 := b22.ext x45
      replace b23 := b23.ext x45
      replace b24 := b24.ext x45
      replace b25 := b25.ext x45
      replace b26 := b26.ext x45
      replace xx := xx.tr x45
      refine iaR4x1 ?_
      refine sR8x2 b25 fun w46 o46 b25 => ?_
      replace b58 := blkOwn b58 n58x25 o46
      replace b21 := blkOwn b21 n21x25 o46
      replace b22 := blkOwn b22 n22x25 o46
      replace b23 := blkOwn b23 n23x25 o46
      replace b24 := blkOwn b24 n24x25 o46
      replace b26 := blkOwn b26 n25x26.symm o46
      replace xx := o46.ext xx k25
      refine iaE4x1 ?_
      refine sE4x1 b26 fun w47 o47 b26 => ?_
      replace b58 := blkOwn b58 n58x26 o47
      replace b21 := blkOwn b21 n21x26 o47
      replace b22 := blkOwn b22 n22x26 o47
      replace b23 := blkOwn b23 n23x26 o47
      replace b24 := blkOwn b24 n24x26 o47
      replace b25 := blkOwn b25 n25x26 o47
      replace xx := o47.ext xx k26
      refine ldR b21 (ldR b22 ?_)
      refine Cl2 n_ref04_Mul (f3 _) fun w48 x48 => ?_
      replace b58 := b58.ext x48
      replace b21 := b21.ext x48
      replace b22 := b22.ext x48
      replace b23 := b23.ext x48
      replace b24 := b24.ext x48
      replace b25 := b25.ext x48
      replace b26 := b26.ext x48
      replace xx := xx.tr x48
      refine iaR4x2 ?_
      refine sR8x4 b25 fun w49 o49 b25 => ?_
      replace b58 := blkOwn b58 n58x25 o49
      replace b21 := blkOwn b21 n21x25 o49
      replace b22 := blkOwn b22 n22x25 o49
      replace b23 := blkOwn b23 n23x25 o49
      replace b24 := blkOwn b24 n24x25 o49
      replace b26 := blkOwn b26 n25x26.symm o49
      replace xx := o49.ext xx k25
      refine iaE4x2 ?_
      refine sE4x2 b26 fun w50 o50 b26 => ?_
      replace b58 := blkOwn b58 n58x26 o50
      replace b21 := blkOwn b21 n21x26 o50
      replace b22 := blkOwn b22 n22x26 o50
      replace b23 := blkOwn b23 n23x26 o50
      replace b24 := blkOwn b24 n24x26 o50
      replace b25 := blkOwn b25 n25x26 o50
      replace xx := o50.ext xx k26
      refine ldR b21 (ldR b22 ?_)
      refine Cl2 n_ref04_Div (f4 _) fun w51 x51 => ?_
      replace b58 := b58.ext x51
      replace b21 := b21.ext x51
      replace b22 := b22.ext x51
      replace b23 := b23.ext x51
      replace b24 := b24.ext x51
      replace b25 := b25.ext x51
      replace b26 := b26.ext x51
      replace xx := xx.tr x51
      refine iaR4x3 ?_
      refine sR8x6 b25 fun w52 o52 b25 => ?_
      replace b58 := blkOwn b58 n58x25 o52
      replace b21 := blkOwn b21 n21x25 o52
      replace b22 := blkOwn b22 n22x25 o52
      replace b23 := blkOwn b23 n23x25 o52
      replace b24 := blkOwn b24 n24x25 o52
      replace b26 := blkOwn b26 n25x26.symm o52
      replace xx := o52.ext xx k25
      refine iaE4x3 ?_
      refine sE4x3 b26 fun w53 o53 b26 => ?_
      replace b58 := blkOwn b58 n58x26 o53
      replace b21 := blkOwn b21 n21x26 o53
      replace b22 := blkOwn b22 n22x26 o53
      replace b23 := blkOwn b23 n23x26 o53
      replace b24 := blkOwn b24 n24x26 o53
      replace b25 := blkOwn b25 n25x26 o53
      replace xx := o53.ext xx k26
      refine dlR4 (w := w53.drew) b23 (dlR4 (w := w53.drew) b25 (dneR4 ?_))
      refine GdP_F (dlE4 (w := w53.drew) b24 (GdP_F (dlE4 (w := w53.drew) b26 (GdP_F (dneE4 (PickP_F ?_))))))
      refine GdP_F (dR2x0 (w := w53.drew) b21 (GdP_F (dR2x0 (w := w53.drew) b22 (GdP_F (dR2x0 (w := w53.drew) b21 (GdP_F (dR2x0 (w := w53.drew) b22 (Gd_F ?_))))))))
      refine Cl1 n_rational_Compare (c1 _ (hT.ext xx.dr)) fun w54 x54 => ?_
      replace x54 : Ext w53 w54 := (Ext.refl w53).dr.tr x54
      replace b58 := b58.ext x54
      replace b21 := b21.ext x54
      replace b22 := b22.ext x54
      replace b23 := b23.ext x54
      replace b24 := b24.ext x54
      replace b25 := b25.ext x54
      replace b26 := b26.ext x54
      replace xx := xx.tr x54
      refine Kg_F (kR2x0 b21 (Kg_F (kR2x0 b22 (Gd_F ?_))))
      refine Cl1 n_ref04_Compare (c2 _) fun w55 x55 => ?_
      replace b58 := b58.ext x55
      replace b21 := b21.ext x55
      replace b22 := b22.ext x55
      replace b23 := b23.ext x55
      replace b24 := b24.ext x55
      replace b25 := b25.ext x55
      replace b26 := b26.ext x55
      replace xx := xx.tr x55
      refine GdP_F (Dv_neF rfl (PickP_F (If_F ?_)))
      refine Bn_ad (by omega) (by omega) ?_
      exact ⟨⟨h + 1, by omega, rfl, xx, b58⟩, by show 5 - ((h : Int) + 1).toNat < 5 - (h : Int).toNat; omega⟩
    refine Bn_ltF (by omega) (If_F ?_)
    have cD := fun (u : Int) (w : World) (hT : Tab w) => c_qDown (w := w) (k := u) lj.1 lj.2 hT
    have cfD := fun (u : Int) (w : World) => c_fDown (w := w) (k := u) lj.1 lj.2
    have cU := fun (u : Int) (w : World) (hT : Tab w) => c_qUp (w := w) (k := u) lj.1 lj.2 hT
    have cfU := fun (u : Int) (w : World) => c_fUp (w := w) (k := u) lj.1 lj.2
    have cV := fun (w : World) (hT : Tab w) => c_qValid (w := w) lj.1 lj.2 hT
    have cfV := fun (w : World) => c_fValid (w := w) lj.1 lj.2
    have cm := fun (w : World) (hT : Tab w) => c_Make (w := w) lj.1 l0.2 hT
    have cfm := fun (w : World) => c_fMake (w := w) lj.1 l0.2
    refine Cl1 n_law04_pick (cpk _) fun w91 x91 => ?_
    replace b58 := b58.ext x91
    replace xx := xx.tr x91
    have z58 := b58.lt
    refine bs2I fun g137 w92 x92 hg137 b137 => ?_
    replace b58 := b58.ext x92
    replace xx := xx.tr x92
    refine Bt_lenL hLi ?_
    refine Lp1.mk (fun (v : Value) (W : World) => ∃ j : Nat, j ≤ 2 ∧ v = .int .i64 j ∧ Ext w W ∧ Blk W g58 tR (cellsR L) ∧ Blk W g137 3 [.int .i64 pl, .int .i64 (pickZ pl 32)]) (fun i _ => match i with | .int _ i' => 2 - i'.toNat | _ => 0) ⟨0, by omega, rfl, xx, b58, b137⟩ ?_
    clear xx b58 b137 z58 hg137
    rintro _ W ⟨h, hh, rfl, xx, b58, b137⟩
    by_cases hh2 : h < 2
    · refine Bn_ltT (by omega) (If_T ?_)
      refine ld2I b137 (by omega) (by omega) fun u => ?_
      refine ldRs b58 hL5.symm rfl gj ?_
      refine Cl2 n_rational_Down (cD u _ (hT.ext xx)) fun w93 x93 => ?_
      replace b58 := b58.ext x93
      replace b137 := b137.ext x93
      replace xx := xx.tr x93
      have z58 := b58.lt
      have z137 := b137.lt
      refine alR fun g29 w94 x94 hg29 hl29 b29 => ?_
      have k29 : w.heap.size ≤ g29 := by have := xx.size; omega
      have n58x29 : g58 ≠ g29 := by omega
      have n137x29 : g137 ≠ g29 := by omega
      replace b58 := b58.ext x94
      replace b137 := b137.ext x94
      replace xx := xx.tr x94
      refine stoR b29 fun w95 o95 b29 => ?_
      replace b58 := blkOwn b58 n58x29 o95
      replace b137 := blkOwn b137 n137x29 o95
      replace xx := o95.ext xx k29
      refine ldRs b58 hL5.symm rfl gj ?_
      refine Cl2 n_ref04_Down (cfD u _) fun w96 x96 => ?_
      replace b58 := b58.ext x96
      replace b137 := b137.ext x96
      replace b29 := b29.ext x96
      replace xx := xx.tr x96
      have z58 := b58.lt
      have z137 := b137.lt
      have z29 := b29.lt
      refine alR fun g31 w97 x97 hg31 hl31 b31 => ?_
      have k31 : w.heap.size ≤ g31 := by have := xx.size; omega
      have n58x31 : g58 ≠ g31 := by omega
      have n137x31 : g137 ≠ g31 := by omega
      have n29x31 : g29 ≠ g31 := by omega
      replace b58 := b58.ext x97
      replace b137 := b137.ext x97
      replace b29 := b29.ext x97
      replace xx := xx.tr x97
      refine stoR b31 fun w98 o98 b31 => ?_
      replace b58 := blkOwn b58 n58x31 o98
      replace b137 := blkOwn b137 n137x31 o98
      replace b29 := blkOwn b29 n29x31 o98
      replace xx := o98.ext xx k31
      refine ldRs b58 hL5.symm rfl gj ?_
      refine Cl2 n_rational_Up (cU u _ (hT.ext xx)) fun w99 x99 => ?_
      replace b58 := b58.ext x99
      replace b137 := b137.ext x99
      replace b29 := b29.ext x99
      replace b31 := b31.ext x99
      replace xx := xx.tr x99
      have z58 := b58.lt
      have z137 := b137.lt
      have z29 := b29.lt
      have z31 := b31.lt
      refine alR fun g33 w100 x100 hg33 hl33 b33 => ?_
      have k33 : w.heap.size ≤ g33 := by have := xx.size; omega
      have n58x33 : g58 ≠ g33 := by omega
      have n137x33 : g137 ≠ g33 := by omega
      have n29x33 : g29 ≠ g33 := by omega
      have n31x33 : g31 ≠ g33 := by omega
      replace b58 := b58.ext x100
      replace b137 := b137.ext x100
      replace b29 := b29.ext x100
      replace b31 := b31.ext x100
      replace xx := xx.tr x100
      refine stoR b33 fun w101 o101 b33 => ?_
      replace b58 := blkOwn b58 n58x33 o101
      replace b137 := blkOwn b137 n137x33 o101
      replace b29 := blkOwn b29 n29x33 o101
      replace b31 := blkOwn b31 n31x33 o101
      replace xx := o101.ext xx k33
      refine ldRs b58 hL5.symm rfl gj ?_
      refine Cl2 n_ref04_Up (cfU u _) fun w102 x102 => ?_
      replace b58 := b58.ext x102
      replace b137 := b137.ext x102
      replace b29 := b29.ext x102
      replace b31 := b31.ext x102
      replace b33 := b33.ext x102
      replace xx := xx.tr x102
      have z58 := b58.lt
      have z137 := b137.lt
      have z29 := b29.lt
      have z31 := b31.lt
      have z33 := b33.lt
      refine alR fun g35 w103 x103 hg35 hl35 b35 => ?_
      have k35 : w.heap.size ≤ g35 := by have := xx.size; omega
      have n58x35 : g58 ≠ g35 := by omega
      have n137x35 : g137 ≠ g35 := by omega
      have n29x35 : g29 ≠ g35 := by omega
      have n31x35 : g31 ≠ g35 := by omega
      have n33x35 : g33 ≠ g35 := by omega
      replace b58 := b58.ext x103
      replace b137 := b137.ext x103
      replace b29 := b29.ext x103
      replace b31 := b31.ext x103
      replace b33 := b33.ext x103
      replace xx := xx.tr x103
      refine stoR b35 fun w104 o104 b35 => ?_
      replace b58 := blkOwn b58 n58x35 o104
      replace b137 := blkOwn b137 n137x35 o104
      replace b29 := blkOwn b29 n29x35 o104
      replace b31 := blkOwn b31 n31x35 o104
      replace b33 := blkOwn b33 n33x35 o104
      replace xx := o104.ext xx k35
      refine ldR b29 (ldR b31 (qNeF (same2 _ _) ?_))
      refine Gd_F (Gd_F (Gd_F (Bn_neF rfl (Pick_F ?_))))
      refine Gd_F (ldR b33 (Gd_F (ldR b35 (Gd_F (qNeF (same2 _ _) (Pick_F ?_))))))
      refine Gd_F (Gd_F (Gd_F (Bn_neF rfl (Pick_F (If_F ?_)))))
      refine Bn_ad (by omega) (by omega) ?_
      exact ⟨⟨h + 1, by omega, rfl, xx, b58, b137⟩, by show 2 - ((h : Int) + 1).toNat < 2 - (h : Int).toNat; omega⟩
    refine Bn_ltF (by omega) (If_F ?_)
    clear b137
    have cj := cells_at gj
    have c0 := cells_at (get 0 (by decide))
    refine Jn2.mk ?_
    intro KA hKA
    have mainA : ∀ (g37 : Nat) (W : World), Ext w W → Blk W g58 tR (cellsR L) → Blk W g37 tR [str (makeS L[j]!.1 L[0]!.2).1, str (makeS L[j]!.1 L[0]!.2).2.1] → KA (pt g37) (.int .i64 (makeS L[j]!.1 L[0]!.2).2.2) W := by
      intro g37 W xx b58 b37
      refine hKA _ _ W ?_
      clear hKA
      refine Jn2.mk ?_
      intro KB hKB
      have mainB : ∀ (g39 : Nat) (W : World), Ext w W → Blk W g58 tR (cellsR L) → Blk W g37 tR [str (makeS L[j]!.1 L[0]!.2).1, str (makeS L[j]!.1 L[0]!.2).2.1] → Blk W g39 tR [str (makeS L[j]!.1 L[0]!.2).1, str (makeS L[j]!.1 L[0]!.2).2.1] → KB (pt g39) (.int .i64 (makeS L[j]!.1 L[0]!.2).2.2) W := by
        intro g39 W xx b58 b37 b39
        refine hKB _ _ W ?_
        clear hKB
        refine dvIx hj5 (dR (w := W.drew) b58 cj.1 cj.2 (dvIx hj5 (dR (w := W.drew) b58 cj.1 cj.2 ?_)))
        refine Cl1 n_rational_Valid (cV _ (hT.ext xx.dr)) fun w105 x105 => ?_
        replace x105 : Ext W w105 := (Ext.refl W).dr.tr x105
        replace b58 := b58.ext x105
        replace b37 := b37.ext x105
        replace b39 := b39.ext x105
        replace xx := xx.tr x105
        refine kR b58 cj.1 cj.2 ?_
        refine Cl1 n_ref04_Valid (cfV _) fun w106 x106 => ?_
        replace b58 := b58.ext x106
        replace b37 := b37.ext x106
        replace b39 := b39.ext x106
        replace xx := xx.tr x106
        refine Dv_neB hB (bne_self_eq_false _) ?_
        refine GdP_F (dR2x0 b37 (GdP_F (dR2x0 b39 (GdP_F (dqNeF (same2 _ _) (PickP_F ?_))))))
        refine GdP_F (GdP_F (GdP_F (Dv_neF rfl (PickP_F (If_F ?_)))))
        refine Bn_ad (by omega) (by omega) ?_
        exact ⟨⟨j + 1, by omega, rfl, xx, b58⟩, by show 5 - ((j : Int) + 1).toNat < 5 - (j : Int).toNat; omega⟩
      refine dvIx hj5 (dF0 (dS (w := W.drew) b58 cj.1 (dvIx (j := 0) (by decide) (dF1 (dS (w := W.drew) b58 c0.2 ?_)))))
      refine ⟨?_, ?_⟩
      · refine Cl1 n_ref04_Make (cfm _) fun waB xaB => ?_
        replace xaB : Ext W waB := (Ext.refl W).dr.tr xaB
        replace b58 := b58.ext xaB
        replace b37 := b37.ext xaB
        replace xx := xx.tr xaB
        refine ExP2 ?_
        have z58 := b58.lt
        have z37 := b37.lt
        refine alR fun g39 wbB xbB hg hl b39 => ?_
        have kk : w.heap.size ≤ g39 := by have := xx.size; omega
        replace b58 := b58.ext xbB
        replace b37 := b37.ext xbB
        replace xx := xx.tr xbB
        refine kS b58 cj.1 (kS b58 c0.2 ?_)
        refine stoR b39 fun wc oc b39 => ?_
        exact mainB g39 wc (oc.ext xx kk) (blkOwn b58 (show g58 ≠ g39 by omega) oc) (blkOwn b37 (show g37 ≠ g39 by omega) oc) b39
      · have z58 := b58.lt
        have z37 := b37.lt
        refine alR fun g39 wbB xbB hg hl b39 => ?_
        replace xbB : Ext W wbB := (Ext.refl W).dr.tr xbB
        replace hg : W.heap.size ≤ g39 := hg
        have kk : w.heap.size ≤ g39 := by have := xx.size; omega
        replace b58 := b58.ext xbB
        replace b37 := b37.ext xbB
        replace xx := xx.tr xbB
        refine kS b58 cj.1 (kS b58 c0.2 ?_)
        refine Cl1 n_ref04_Make (cfm _) fun waB xaB => ?_
        replace b58 := b58.ext xaB
        replace b37 := b37.ext xaB
        replace b39 := b39.ext xaB
        replace xx := xx.tr xaB
        refine ExP2 ?_
        refine stoR b39 fun wc oc b39 => ?_
        exact mainB g39 wc (oc.ext xx kk) (blkOwn b58 (show g58 ≠ g39 by omega) oc) (blkOwn b37 (show g37 ≠ g39 by omega) oc) b39
    refine dvIx hj5 (dF0 (dS (w := W.drew) b58 cj.1 (dvIx (j := 0) (by decide) (dF1 (dS (w := W.drew) b58 c0.2 ?_)))))
    refine ⟨?_, ?_⟩
    · refine Cl1 n_rational_Make (cm _ (hT.ext xx.dr)) fun waA xaA => ?_
      replace xaA : Ext W waA := (Ext.refl W).dr.tr xaA
      replace b58 := b58.ext xaA
      replace xx := xx.tr xaA
      refine ExP2 ?_
      have z58 := b58.lt
      refine alR fun g37 wbA xbA hg hl b37 => ?_
      have kk : w.heap.size ≤ g37 := by have := xx.size; omega
      replace b58 := b58.ext xbA
      replace xx := xx.tr xbA
      refine kS b58 cj.1 (kS b58 c0.2 ?_)
      refine stoR b37 fun wc oc b37 => ?_
      exact mainA g37 wc (oc.ext xx kk) (blkOwn b58 (show g58 ≠ g37 by omega) oc) b37
    · have z58 := b58.lt
      refine alR fun g37 wbA xbA hg hl b37 => ?_
      replace xbA : Ext W wbA := (Ext.refl W).dr.tr xbA
      replace hg : W.heap.size ≤ g37 := hg
      have kk : w.heap.size ≤ g37 := by have := xx.size; omega
      replace b58 := b58.ext xbA
      replace xx := xx.tr xbA
      refine kS b58 cj.1 (kS b58 c0.2 ?_)
      refine Cl1 n_rational_Make (cm _ (hT.ext xx)) fun waA xaA => ?_
      replace b58 := b58.ext xaA
      replace b37 := b37.ext xaA
      replace xx := xx.tr xaA
      refine ExP2 ?_
      refine stoR b37 fun wc oc b37 => ?_
      exact mainA g37 wc (oc.ext xx kk) (blkOwn b58 (show g58 ≠ g37 by omega) oc) b37
  refine Bn_ltF (by omega) (If_F ?_)
  refine Cl2 n_rational_Of (cOf _ (hT.ext xx)) fun w201 x201 => ?_
  replace xx := xx.tr x201
  refine alR fun g41 w202 x202 hg41 hl41 b41 => ?_
  have k41 : w.heap.size ≤ g41 := by have := xx.size; omega
  replace xx := xx.tr x202
  refine stoR b41 fun w203 o203 b41 => ?_
  replace xx := o203.ext xx k41
  refine Cl2 n_ref04_Of (cfOf _) fun w204 x204 => ?_
  replace b41 := b41.ext x204
  replace xx := xx.tr x204
  have z41 := b41.lt
  refine alR fun g43 w205 x205 hg43 hl43 b43 => ?_
  have k43 : w.heap.size ≤ g43 := by have := xx.size; omega
  have n41x43 : g41 ≠ g43 := by omega
  replace b41 := b41.ext x205
  replace xx := xx.tr x205
  refine stoR b43 fun w206 o206 b43 => ?_
  replace b41 := blkOwn b41 n41x43 o206
  replace xx := o206.ext xx k43
  refine Gd_T (ldR b41 (Gd_T (ldR b43 (Gd_T (qEqT (same2 _ _) (Pick_T ?_))))))
  refine Gd_T (Gd_T (Gd_T (Bn_eqT rfl (Pick_T ?_))))
  exact Ret.mk ⟨xx, rfl⟩
set_option maxHeartbeats 8000000 in
theorem i_Match {n d m c : List UInt8} {p0 p1 p2 p3 q0 q1 q2 q3 s0 s1 e0 e1 pl : Int} {w : World} (rp0 : R64 p0) (rp1 : R64 p1) (rp2 : R64 p2) (rp3 : R64 p3) (rq0 : R64 q0) (rq1 : R64 q1) (rq2 : R64 q2) (rq3 : R64 q3) (rs0 : R64 s0) (rs1 : R64 s1) (re0 : R64 e0) (re1 : R64 e1) (rpl : R64 pl) (hT : Tab w) (hM : MaxV w) :
    Calls Tryz.prog 6 #[.agg #[str n, str d], .agg #[str m, str c], .agg #[.int .i64 p0, .int .i64 p1, .int .i64 p2, .int .i64 p3], .agg #[.int .i64 q0, .int .i64 q1, .int .i64 q2, .int .i64 q3], .agg #[.int .i64 s0, .int .i64 s1], .int .i64 e0, .int .i64 e1, .int .i64 pl] w (Ret fun r w' => Ext w w' ∧ r = .bool true) := by
  have hB : Tryz.prog.underlying 4 = some .bool := Tryz.underlying4
  have hL : ∃ e, Tryz.prog.underlying 28 = some (.slice e) := ⟨_, Tryz.underlying28⟩
  have hLi : ∃ e, Tryz.prog.underlying 53 = some (.slice e) := ⟨_, Tryz.underlying53⟩
  have cOf := fun (w : World) (hT : Tab w) => c_Of (w := w) hT re0.1 re0.2 re1.1 re1.2
  have cfOf := fun (w : World) => c_fOf (w := w) re0.1 re0.2 re1.1 re1.2
  have cpk := fun w : World => c_pick (w := w) rpl.1 rpl.2 (n := 32) (by decide)
  apply e_law04_RationalMatchesReference
  unfold s_law04_RationalMatchesReference
  refine bxR fun g8 w1 x1 hg8 hl8 b8 => ?_
  have k8 : w.heap.size ≤ g8 := hg8
  have xx := x1
  clear hg8 hl8
  have z8 := b8.lt
  refine bxR fun g9 w2 x2 hg9 hl9 b9 => ?_
  have k9 : w.heap.size ≤ g9 := by have := xx.size; omega
  have n8x9 : g8 ≠ g9 := by omega
  clear z8
  replace b8 := b8.ext x2
  replace xx := xx.tr x2
  clear hg9 hl9
  have z8 := b8.lt
  have z9 := b9.lt
  refine bxI4 fun g10 w3 x3 hg10 hl10 b10 => ?_
  have k10 : w.heap.size ≤ g10 := by have := xx.size; omega
  have n8x10 : g8 ≠ g10 := by omega
  clear z8
  have n9x10 : g9 ≠ g10 := by omega
  clear z9
  replace b8 := b8.ext x3
  replace b9 := b9.ext x3
  replace xx := xx.tr x3
  clear hg10 hl10
  have z8 := b8.lt
  have z9 := b9.lt
  have z10 := b10.lt
  refine bxI4 fun g11 w4 x4 hg11 hl11 b11 => ?_
  have k11 : w.heap.size ≤ g11 := by have := xx.size; omega
  have n8x11 : g8 ≠ g11 := by omega
  clear z8
  have n9x11 : g9 ≠ g11 := by omega
  clear z9
  have n10x11 : g10 ≠ g11 := by omega
  clear z10
  replace b8 := b8.ext x4
  replace b9 := b9.ext x4
  replace b10 := b10.ext x4
  replace xx := xx.tr x4
  clear hg11 hl11
  have z8 := b8.lt
  have z9 := b9.lt
  have z10 := b10.lt
  have z11 := b11.lt
  refine bxI2 fun g12 w5 x5 hg12 hl12 b12 => ?_
  have k12 : w.heap.size ≤ g12 := by have := xx.size; omega
  have n8x12 : g8 ≠ g12 := by omega
  clear z8
  have n9x12 : g9 ≠ g12 := by omega
  clear z9
  have n10x12 : g10 ≠ g12 := by omega
  clear z10
  have n11x12 : g11 ≠ g12 := by omega
  clear z11
  replace b8 := b8.ext x5
  replace b9 := b9.ext x5
  replace b10 := b10.ext x5
  replace b11 := b11.ext x5
  replace xx := xx.tr x5
  clear hg12 hl12
  refine Cl1 n_law04_sane (c_sane (hT.ext xx) (hM.ext xx)) fun w6 x6 => ?_
  replace b8 := b8.ext x6
  replace b9 := b9.ext x6
  replace b10 := b10.ext x6
  replace b11 := b11.ext x6
  replace b12 := b12.ext x6
  replace xx := xx.tr x6
  refine ldR b8 ?_
  refine Cl1 n_law04_cut c_cut fun w7 x7 => ?_
  replace b8 := b8.ext x7
  replace b9 := b9.ext x7
  replace b10 := b10.ext x7
  replace b11 := b11.ext x7
  replace b12 := b12.ext x7
  replace xx := xx.tr x7
  refine stoR b8 fun w8 o8 b8 => ?_
  replace b9 := blkOwn b9 n8x9.symm o8
  replace b10 := blkOwn b10 n8x10.symm o8
  replace b11 := blkOwn b11 n8x11.symm o8
  replace b12 := blkOwn b12 n8x12.symm o8
  replace xx := o8.ext xx k8
  refine ldR b9 ?_
  refine Cl1 n_law04_cut c_cut fun w9 x9 => ?_
  replace b8 := b8.ext x9
  replace b9 := b9.ext x9
  replace b10 := b10.ext x9
  replace b11 := b11.ext x9
  replace b12 := b12.ext x9
  replace xx := xx.tr x9
  refine stoR b9 fun w10 o10 b9 => ?_
  replace b8 := blkOwn b8 n8x9 o10
  replace b10 := blkOwn b10 n9x10.symm o10
  replace b11 := blkOwn b11 n9x11.symm o10
  replace b12 := blkOwn b12 n9x12.symm o10
  replace xx := o10.ext xx k9
  refine dR2x0 (w := w10.drew) b8 (dR2x0 (w := w10.drew) b9 (dlI4 (w := w10.drew) b10 (dlI4 (w := w10.drew) b11 (dlI2 (w := w10.drew) b12 ?_))))
  refine Cl_i n_ref04_Long (i_Long rp0 rp1 rp2 rp3) ?_
  rintro _ w11 ⟨x11, x, hx, rfl⟩
  replace x11 : Ext w10 w11 := (Ext.refl w10).dr.tr x11
  replace b8 := b8.ext x11
  replace b9 := b9.ext x11
  replace b10 := b10.ext x11
  replace b11 := b11.ext x11
  replace b12 := b12.ext x11
  replace xx := xx.tr x11
  refine kR2x0 b8 (kR2x0 b9 (klI4 b11 (klI2 b12 ?_)))
  refine Cl_i n_ref04_Long (i_Long rq0 rq1 rq2 rq3) ?_
  rintro _ w12 ⟨x12, y, hy, rfl⟩
  replace b8 := b8.ext x12
  replace b9 := b9.ext x12
  replace b10 := b10.ext x12
  replace b11 := b11.ext x12
  replace b12 := b12.ext x12
  replace xx := xx.tr x12
  refine kR2x0 b8 (kR2x0 b9 (klI2 b12 ?_))
  refine Cl1 n_ref04_Small (c_Small rs0 rs1) fun w13 x13 => ?_
  replace b8 := b8.ext x13
  replace b9 := b9.ext x13
  replace b10 := b10.ext x13
  replace b11 := b11.ext x13
  replace b12 := b12.ext x13
  replace xx := xx.tr x13
  refine kR2x0 b8 (kR2x0 b9 ?_)
  refine bs5R fun g58 w14 x14 hg58 b58 => ?_
  replace xx := xx.tr x14
  have lx := rb_len (hx.rb (by decide) (by decide))
  have ly := rb_len (hy.rb (by decide) (by decide))
  have lz := rb_len ((smallQ_SR s0 s1).rb (by decide) (by decide))
  have hlen : ∀ (j : Nat) (a b : List UInt8), [(n.take 210, d.take 210), (m.take 210, c.take 210), (Lib.itoa x.num, Lib.itoa (x.den : Int)), (Lib.itoa y.num, Lib.itoa (y.den : Int)), (Lib.itoa (smallQ s0 s1).num, Lib.itoa ((smallQ s0 s1).den : Int))][j]? = some (a, b) → a.length ≤ 1000000 ∧ b.length ≤ 1000000 := by
    have tk : ∀ l : List UInt8, (l.take 210).length ≤ 1000000 := fun l => Nat.le_trans (List.length_take_le _ _) (by decide)
    intro j a b h
    have hm := List.mem_of_getElem? h
    simp only [List.mem_cons, Prod.mk.injEq, List.not_mem_nil, or_false] at hm
    rcases hm with ⟨rfl, rfl⟩ | ⟨rfl, rfl⟩ | ⟨rfl, rfl⟩ | ⟨rfl, rfl⟩ | ⟨rfl, rfl⟩
    · exact ⟨tk _, tk _⟩
    · exact ⟨tk _, tk _⟩
    · exact lx
    · exact ly
    · exact lz
  exact match_loops hB hL hLi cOf cfOf cpk hT xx b58 rfl hlen
end Go.Proofs.YthpcmmfijelbaaaGreatDoor
