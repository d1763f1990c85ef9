/-
  Contracts and plain lemmas. By an AI agent.
-/
import Derived.Test.YtnkmbjedcjcccaaGreatDoorLAmK
import Derived.Test.YtnkmbjedcjcccaaGreatDoorTyp
import Derived.Test.YtnkmbjedcjcccaaGreatDoorAmH
set_option linter.unusedSimpArgs false
set_option linter.unusedVariables false
set_option linter.unusedSectionVars false
namespace Go.Proofs.YtnkmbjedcjcccaaGreatDoor
open Go Go.Eng
set_option maxRecDepth 100000
def s_law28_AlarmPortions_9 (P : Program) (t186 : Value) (t28 : Value) (t26 : Value) (t12 : Value) (k5 : Value → World → Prop) (w : World) (R : Ending → World → Prop) : Prop :=
 Cl P 24 #[t186, t28] w (Pk R) fun t188 w =>
 Ex t188 0 w fun t189 w =>
 Ex t188 1 w fun t190 w =>
 Ex t188 2 w fun t191 w =>
 Al P 28 w fun t30 w =>
 Sto P 28 t30 t189 w fun w =>
 Bn P .neq 46 true t191 (.int .i64 0) w fun t193 w =>
 Gd t193 false (fun k => k t26 w) w fun t195 w =>
 Gd t193 false (fun k => Fa P 28 t30 1 w k) w fun t196 w =>
 Gd t193 false (fun k => Ld P 26 t196 w k) w fun t197 w =>
 Gd t193 false (fun k => Bt P .len #[26] 3 #[t197] w k) w fun t198 w =>
 Gd t193 false (fun k => Bn P .geq 3 false t195 t198 w k) w fun t199 w =>
 Pick t193 (.bool true) t199 w fun t200 w =>
 Gd t200 false (fun k => k t26 w) w fun t202 w =>
 Gd t200 false (fun k => Fa P 28 t12 1 w k) w fun t203 w =>
 Gd t200 false (fun k => Ld P 26 t203 w k) w fun t204 w =>
 Gd t200 false (fun k => Bt P .len #[26] 3 #[t204] w k) w fun t205 w =>
 Gd t200 false (fun k => Bn P .geq 3 false t202 t205 w k) w fun t206 w =>
 Pick t200 (.bool true) t206 w fun t207 w =>
 If t207
 (R (.returned (.bool false)) w)
 (Fa P 28 t30 1 w fun t208 w =>
 Ld P 26 t208 w fun t209 w =>
 Ia P 26 t209 t26 w fun t211 w =>
 Ld P 30 t211 w fun t212 w =>
 Al P 30 w fun t33 w =>
 Sto P 30 t33 t212 w fun w =>
 Fa P 28 t12 1 w fun t213 w =>
 Ld P 26 t213 w fun t214 w =>
 Ia P 26 t214 t26 w fun t216 w =>
 Fa P 30 t216 7 w fun t217 w =>
 Ld P 3 t217 w fun t218 w =>
 Fa P 30 t33 7 w fun t219 w =>
 Sto P 3 t219 t218 w fun w =>
 Dv P false (Instr.loadAt 30 t33) w.drew fun t220 =>
 Dv P true (Instr.fieldAt 28 t12 1) w.drew fun t221 =>
 Dv P false (Instr.loadAt 26 t221) w.drew fun t222 =>
 Dv P true (Instr.indexAt 26 t222 t26) w.drew fun t224 =>
 Dv P false (Instr.loadAt 30 t224) w.drew fun t225 =>
 Dv P false (bn .neq 30 false t220 t225) w.drew fun t226 =>
 If t226
 (R (.returned (.bool false)) w.drew)
 (Bn P .add 3 true t26 (.int .i64 1) w.drew fun t148 w =>
 k5 t148 w))
def s_law28_AlarmPortions_8 (P : Program) (t43 : Value) (t29 : Value) (t27 : Value) (t28 : Value) (t9 : Value) (t26 : Value) (t12 : Value) (k6 : Value → Value → World → Prop) (k5 : Value → World → Prop) (w : World) (R : Ending → World → Prop) : Prop :=
 Bt P .len #[31] 3 #[t43] w fun t156 w =>
 Bn P .lss 3 false t29 t156 w fun t157 w =>
 If t157
 (Dv P true (Instr.indexAt 31 t43 t29) w.drew fun t162 =>
 Dv P true (Instr.fieldAt 65 t162 4) w.drew fun t163 =>
 Dv P false (Instr.loadAt 3 t163) w.drew fun t164 =>
 Dv P true (Instr.fieldAt 30 t27 0) w.drew fun t165 =>
 Dv P false (Instr.loadAt 3 t165) w.drew fun t166 =>
 Dv P true (bn .eql 3 false t164 t166) w.drew fun t167 =>
 GdP t167 true (fun k => k t43) fun t169 =>
 GdP t167 true (fun k => k t29) fun t170 =>
 GdP t167 true (fun k => Dv P true (Instr.indexAt 31 t169 t170) w.drew k) fun t171 =>
 GdP t167 true (fun k => Dv P true (Instr.fieldAt 65 t171 3) w.drew k) fun t172 =>
 GdP t167 true (fun k => Dv P false (Instr.loadAt 3 t172) w.drew k) fun t173 =>
 GdP t167 true (fun k => Dv P true (Instr.fieldAt 30 t27 1) w.drew k) fun t174 =>
 GdP t167 true (fun k => Dv P false (Instr.loadAt 3 t174) w.drew k) fun t175 =>
 GdP t167 true (fun k => Dv P true (bn .eql 3 false t173 t175) w.drew k) fun t176 =>
 PickP t167 t176 (.bool false) fun t177 =>
 If t177
 (Ia P 31 t43 t29 w.drew fun t181 w =>
 Ld P 65 t181 w fun t182 w =>
 Bs P 31 1 [(0, t182)] w fun t183 w =>
 Bt P .append #[31, 31] 31 #[t28, t183] w fun t184 w =>
 Bn P .add 3 true t29 (.int .i64 1) w fun t159 w =>
 k6 t184 t159 w)
 (Bn P .add 3 true t29 (.int .i64 1) w.drew fun t159x1 w =>
 k6 t28 t159x1 w))
 (Ld P 28 t9 w fun t186 w =>
 s_law28_AlarmPortions_9 P t186 t28 t26 t12 k5 w R)
def s_law28_AlarmPortions_7 (P : Program) (t9 : Value) (t26 : Value) (t43 : Value) (t12 : Value) (k5 : Value → World → Prop) (w : World) (R : Ending → World → Prop) : Prop :=
 Fa P 28 t9 1 w fun t143 w =>
 Ld P 26 t143 w fun t144 w =>
 Bt P .len #[26] 3 #[t144] w fun t145 w =>
 Bn P .lss 3 false t26 t145 w fun t146 w =>
 If t146
 (Fa P 28 t9 1 w fun t149 w =>
 Ld P 26 t149 w fun t150 w =>
 Ia P 26 t150 t26 w fun t152 w =>
 Ld P 30 t152 w fun t153 w =>
 Al P 30 w fun t27 w =>
 Sto P 30 t27 t153 w fun w =>
 Lp2 (.slice none 0 0) (.int .i64 0) w (fun t28 t29 w k6 =>
 s_law28_AlarmPortions_8 P t43 t29 t27 t28 t9 t26 t12 k6 k5 w R))
 (R (.returned (.bool true)) w)
def s_law28_AlarmPortions_6 (P : Program) (t12 : Value) (t132 : Value) (t17 : Value) (t49 : Value) (t9 : Value) (t43 : Value) (w : World) (R : Ending → World → Prop) : Prop :=
 Ld P 28 t12 w fun t133 w =>
 Cl P 15 #[t132, t133] w (Pk R) fun t134 w =>
 Un P .not t134 w fun t135 w =>
 Gd t135 false (fun k => k t17 w) w fun t137 w =>
 Gd t135 false (fun k => k t49 w) w fun t138 w =>
 Gd t135 false (fun k => Bt P .len #[33] 3 #[t138] w k) w fun t139 w =>
 Gd t135 false (fun k => Bn P .neq 3 false t137 t139 w k) w fun t140 w =>
 Pick t135 (.bool true) t140 w fun t141 w =>
 If t141
 (R (.returned (.bool false)) w)
 (Lp1 (.int .i64 0) w (fun t26 w k5 =>
 s_law28_AlarmPortions_7 P t9 t26 t43 t12 k5 w R))
def s_law28_AlarmPortions_5 (P : Program) (t15 : Value) (t126 : Value) (t21 : Value) (t17 : Value) (t18 : Value) (t19 : Value) (k1 : Value → Value → Value → World → Prop) (w : World) (R : Ending → World → Prop) : Prop :=
 Sto P 28 t15 t126 w fun w =>
 Bt P .len #[33] 3 #[t21] w fun t130 w =>
 Bn P .add 3 false t17 t130 w fun t131 w =>
 Bn P .add 3 true t18 (.int .i64 1) w fun t67 w =>
 k1 t19 t131 t67 w
def s_law28_AlarmPortions_4 (P : Program) (t22 : Value) (t25 : Value) (t20x2 : Value) (t23x2 : Value) (t24 : Value) (t15 : Value) (t21 : Value) (t17 : Value) (t18 : Value) (t19 : Value) (k1 : Value → Value → Value → World → Prop) (w : World) (R : Ending → World → Prop) : Prop :=
 Bn P .neq 46 true t22 (.int .i64 0) w fun t110 w =>
 Gd t110 false (fun k => k t25 w) w fun t112 w =>
 Gd t110 false (fun k => Bn P .neq 46 true t112 (.int .i64 0) w k) w fun t113 w =>
 Pick t110 (.bool true) t113 w fun t114 w =>
 Gd t114 false (fun k => Ld P 28 t20x2 w k) w fun t116 w =>
 Gd t114 false (fun k => Ld P 28 t23x2 w k) w fun t117 w =>
 Gd t114 false (fun k => Cl P 15 #[t116, t117] w (Pk R) k) w fun t118 w =>
 Gd t114 false (fun k => Un P .not t118 w k) w fun t119 w =>
 Pick t114 (.bool true) t119 w fun t120 w =>
 Gd t120 false (fun k => k t24 w) w fun t122 w =>
 Gd t120 false (fun k => Bt P .len #[33] 3 #[t122] w k) w fun t123 w =>
 Gd t120 false (fun k => Bn P .gtr 3 true t123 (.int .i64 0) w k) w fun t124 w =>
 Pick t120 (.bool true) t124 w fun t125 w =>
 If t125
 (R (.returned (.bool false)) w)
 (Ld P 28 t20x2 w fun t126 w =>
 s_law28_AlarmPortions_5 P t15 t126 t21 t17 t18 t19 k1 w R)
def s_law28_AlarmPortions_3 (P : Program) (t20x2 : Value) (t43 : Value) (t19 : Value) (t22 : Value) (t15 : Value) (t21 : Value) (t17 : Value) (t18 : Value) (k1 : Value → Value → Value → World → Prop) (w : World) (R : Ending → World → Prop) : Prop :=
 Jn3 (fun k4 =>
 Dv P false (Instr.loadAt 28 t20x2) w.drew fun t101 =>
 Dv P true (Instr.sliceAt 31 t43 none (some t19) none) w.drew fun t104 =>
 (Cl P 24 #[t101, t104] w.drew (Pk R) fun t105 w =>
 ExP t105 0 fun t106 =>
 ExP t105 1 fun t107 =>
 ExP t105 2 fun t108 =>
 Al P 28 w fun t23 w =>
 Ke P (Instr.loadAt 28 t20x2) t101 w <|
 Sto P 28 t23 t106 w fun w =>
 k4 t23 t107 t108 w) ∧
 (Al P 28 w.drew fun t23x1 w =>
 Ke P (Instr.loadAt 28 t20x2) t101 w <|
 Cl P 24 #[t101, t104] w (Pk R) fun t105x1 w =>
 ExP t105x1 0 fun t106x1 =>
 ExP t105x1 1 fun t107x1 =>
 ExP t105x1 2 fun t108x1 =>
 Sto P 28 t23x1 t106x1 w fun w =>
 k4 t23x1 t107x1 t108x1 w))
 (fun t23x2 t24 t25 w =>
 s_law28_AlarmPortions_4 P t22 t25 t20x2 t23x2 t24 t15 t21 t17 t18 t19 k1 w R)
def s_law28_AlarmPortions_2 (P : Program) (t15 : Value) (t43 : Value) (t16 : Value) (t19 : Value) (t17 : Value) (t18 : Value) (k1 : Value → Value → Value → World → Prop) (w : World) (R : Ending → World → Prop) : Prop :=
 Jn3 (fun k3 =>
 Dv P false (Instr.loadAt 28 t15) w.drew fun t91 =>
 Dv P true (Instr.sliceAt 31 t43 (some t16) (some t19) none) w.drew fun t95 =>
 (Cl P 24 #[t91, t95] w.drew (Pk R) fun t96 w =>
 ExP t96 0 fun t97 =>
 ExP t96 1 fun t98 =>
 ExP t96 2 fun t99 =>
 Al P 28 w fun t20 w =>
 Ke P (Instr.loadAt 28 t15) t91 w <|
 Sto P 28 t20 t97 w fun w =>
 k3 t20 t98 t99 w) ∧
 (Al P 28 w.drew fun t20x1 w =>
 Ke P (Instr.loadAt 28 t15) t91 w <|
 Cl P 24 #[t91, t95] w (Pk R) fun t96x1 w =>
 ExP t96x1 0 fun t97x1 =>
 ExP t96x1 1 fun t98x1 =>
 ExP t96x1 2 fun t99x1 =>
 Sto P 28 t20x1 t97x1 w fun w =>
 k3 t20x1 t98x1 t99x1 w))
 (fun t20x2 t21 t22 w =>
 s_law28_AlarmPortions_3 P t20x2 t43 t19 t22 t15 t21 t17 t18 k1 w R)
def s_law28_AlarmPortions_1 (P : Program) (t57 : Value) (t3 : Value) (t43 : Value) (t12 : Value) (t49 : Value) (t9 : Value) (w : World) (R : Ending → World → Prop) : Prop :=
 Al P 28 w fun t15 w =>
 Sto P 28 t15 t57 w fun w =>
 Lp3 (.int .i64 0) (.int .i64 0) (.int .i64 0) w (fun t16 t17 t18 w k1 =>
 Bt P .len #[33] 3 #[t3] w fun t60 w =>
 Bn P .leq 3 false t18 t60 w fun t61 w =>
 Gd t61 true (fun k => k t18 w) w fun t63 w =>
 Gd t61 true (fun k => Bn P .lss 3 true t63 (.int .i64 10) w k) w fun t64 w =>
 Pick t61 t64 (.bool false) w fun t65 w =>
 If t65
 (Bt P .len #[31] 3 #[t43] w fun t69 w =>
 Jn1 (fun k2 =>
 Bt P .len #[33] 3 #[t3] w fun t72 w =>
 Bn P .lss 3 false t18 t72 w fun t73 w =>
 Gd t73 true (fun k => k t18 w) w fun t75 w =>
 Gd t73 true (fun k => Bn P .lss 3 true t75 (.int .i64 9) w k) w fun t76 w =>
 Pick t73 t76 (.bool false) w fun t77 w =>
 If t77
 (Ia P 33 t3 t18 w fun t81 w =>
 Ld P 3 t81 w fun t82 w =>
 Bt P .len #[31] 3 #[t43] w fun t84 w =>
 Bn P .sub 3 false t84 t16 w fun t86 w =>
 Bn P .add 3 true t86 (.int .i64 1) w fun t87 w =>
 Cl P 27 #[t82, t87] w (Pk R) fun t88 w =>
 Bn P .add 3 false t16 t88 w fun t89 w =>
 k2 t89 w)
 (k2 t69 w))
 (fun t19 w =>
 s_law28_AlarmPortions_2 P t15 t43 t16 t19 t17 t18 k1 w R))
 (Ld P 28 t15 w fun t132 w =>
 s_law28_AlarmPortions_6 P t12 t132 t17 t49 t9 t43 w R))
def s_law28_AlarmPortions_0 (P : Program) (t0 : Value) (t1 : Value) (t2 : Value) (t3 : Value) (w : World) (R : Ending → World → Prop) : Prop :=
 Cl P 9 #[] w (Pk R) fun t34 w =>
 Un P .not t34 w fun t35 w =>
 If t35
 (R (.returned (.bool false)) w)
 (Cl P 36 #[t0, t1] w (Pk R) fun t39 w =>
 Ex t39 0 w fun t40 w =>
 Ex t39 1 w fun t41 w =>
 Al P 28 w fun t9 w =>
 Sto P 28 t9 t40 w fun w =>
 Cl P 37 #[(.int .i64 0), t2] w (Pk R) fun t43 w =>
 Ld P 28 t9 w fun t45 w =>
 Cl P 24 #[t45, t43] w (Pk R) fun t47 w =>
 Ex t47 0 w fun t48 w =>
 Ex t47 1 w fun t49 w =>
 Ex t47 2 w fun t50 w =>
 Al P 28 w fun t12 w =>
 Sto P 28 t12 t48 w fun w =>
 Un P .not t41 w fun t52 w =>
 Gd t52 false (fun k => k t50 w) w fun t54 w =>
 Gd t52 false (fun k => Bn P .neq 46 true t54 (.int .i64 0) w k) w fun t55 w =>
 Pick t52 (.bool true) t55 w fun t56 w =>
 If t56
 (R (.returned (.bool false)) w)
 (Ld P 28 t9 w fun t57 w =>
 s_law28_AlarmPortions_1 P t57 t3 t43 t12 t49 t9 w R))
theorem u_law28_AlarmPortions {t0 t1 t2 t3 : Value} {w : World} {R : Ending → World → Prop} (h : s_law28_AlarmPortions_0 Tryz.prog t0 t1 t2 t3 w R) : s_law28_AlarmPortions Tryz.prog t0 t1 t2 t3 w R := Eq.mp (by kernel_rfl) h
end Go.Proofs.YtnkmbjedcjcccaaGreatDoor
namespace Go.Proofs.YtnkmbjedcjcccaaGreatDoor
open Go Go.Eng Go.Proofs Go.Num Go.RowKit
open Go.Alm (Ft Wt Sm VW VA dn fct obs obs1 rungs obsN fresh sumW RgI D60)
set_option maxRecDepth 100000
def PwF (l : List Ft) : Prop := l.Pairwise fun x y => x.tr < y.tr
theorem fcts_pw (l : List I3) (n : Nat) : PwF (fcts l n) := by
 refine List.pairwise_iff_getElem.2 fun i j hi hj hij => ?_
 obtain ⟨_, a, _, e1⟩ := fcts_get (List.getElem?_eq_getElem hi)
 obtain ⟨_, c, _, e2⟩ := fcts_get (List.getElem?_eq_getElem hj)
 rw [e1, e2]
 show (i : Int) < (j : Int)
 omega
theorem pw_VFs {l : List Ft} (h : PwF l) (hl : l.length ≤ 400) (hv : ∀ f ∈ l, VF f) : VFs l := by
 refine ⟨hl, hv, fun i a b ha hb => .inl ?_⟩
 obtain ⟨h1, rfl⟩ := List.getElem?_eq_some_iff.1 ha
 obtain ⟨h2, rfl⟩ := List.getElem?_eq_some_iff.1 hb
 exact List.pairwise_iff_getElem.1 h i (i + 1) h1 h2 (by omega)
theorem take_part {fl : List Ft} {i j : Nat} (h : i ≤ j) : fl.take j = fl.take i ++ part fl i j := by
 unfold part
 have := List.take_append_drop i (fl.take j)
 rw [List.take_take, show min i j = i by omega] at this
 exact this.symm
theorem obs_step {fl : List Ft} (hp : PwF fl) (ws : List Wt) {i j : Nat} (h : i ≤ j) : obs ws (fl.take j) = obs (obs ws (fl.take i)) (part fl i j) := by
 rw [take_part h]
 exact Alm.obs_append (by rw [← take_part h]; exact hp.sublist (List.take_sublist j fl))
theorem take_VFs {fl : List Ft} (h : VFs fl) (j : Nat) : VFs (fl.take j) := by
 have := part_VFs h 0 j
 unfold part at this
 exact this
abbrev slk (ks : List Nat) (v : Value) (n : Nat) (xs : List Value) : Et := ⟨ks, fun w => SlC w 15 v n xs⟩
theorem ro_slk {w0 W : World} {L : List Et} {e : TypeId} {n : Nat} {v : Value} {xs : List Value} (h : Hp [] w0 W (ro e 15 v n xs :: L)) : Hp [] w0 W (slk v.ownBlock.toList v n xs :: L) := by
 have hnd := List.pairwise_cons.1 h.nd
 have hks := h.ks _ List.mem_cons_self
 have sv := h.sl (i := 0) rfl
 refine (h.drop 1).nw (e := slk v.ownBlock.toList v n xs) (fun w' _ hb => sv.mv fun i hi hl => hb i hl (.inl (by simp [hi]))) (fun k hk => hks k hk) fun x hx k hk => hnd.1 x hx k hk
theorem slk_0 {w0 W : World} {L : List Et} {n : Nat} {v : Value} {xs : List Value} (h : Hp [] w0 W L) (hv : SlC w0 15 v n xs) (hl : ∀ k, v.ownBlock = some k → k < w0.heap.size) : Hp [] w0 W (slk [] v n xs :: L) := by
 refine h.nw (e := slk [] v n xs) (fun w' _ hb => ?_) (fun k hk => by cases hk) fun x hx k hk => by cases hk
 exact (hv.hp h).mv fun i hi hw => hb i hw (.inr ⟨hl i hi, by simp⟩)
section
variable {w0 : World} {R : Ending → World → Prop} {n : Int} {B : Rat} {fv : Value} {fl : List Ft} {cs : List Wt} {t j g15 : Nat} {tot : Int} {k1 : Value → Value → Value → World → Prop} {t21 : Value}
section
variable {g20 : Nat} {p20 : Option Addr} {q20 r20 : Nat} (hE : En w0) (hC : VB n B cs) (hn : 0 ≤ n ∧ n ≤ 1000) (b20 : Blk w0 g20 tAl [str (tx B).1, str (tx B).2, .slice p20 q20 r20]) (sc : SlC w0 15 (.slice p20 q20 r20) cs.length ((cs.map wr).flatMap fW))
 (hk : ∀ W, Ext w0 W → s_law28_AlarmPortions_5 Tryz.prog (pr g15 0) (.agg #[str (tx B).1, str (tx B).2, .slice p20 q20 r20]) t21 (.int .i64 tot) (.int .i64 (j : Int)) (.int .i64 (t : Int)) k1 W R)
include hE hC hn b20 sc hk
theorem pt_4 {g23 : Nat} {p23 : Option Addr} {q23 r23 : Nat} {p24 : Option Addr} {q24 r24 : Nat} (b23 : Blk w0 g23 tAl [str (tx B).1, str (tx B).2, .slice p23 q23 r23]) (sd : SlC w0 15 (.slice p23 q23 r23) cs.length ((cs.map wr).flatMap fW)) (s24 : SlC w0 1 (.slice p24 q24 r24) 0 []) :
 s_law28_AlarmPortions_4 Tryz.prog (.int .i64 0) (.int .i64 0) (pr g20 0) (pr g23 0) (.slice p24 q24 r24) (pr g15 0) t21 (.int .i64 tot) (.int .i64 (j : Int)) (.int .i64 (t : Int)) k1 w0 R := by
 have ccs : ∀ {W : World}, Ext w0 W → Calls Tryz.prog 15 #[vA (tx B) (.slice p20 q20 r20), vA (tx B) (.slice p23 q23 r23)] W (Ret fun r w' => Ext W w' ∧ r = .bool true) := fun {W} e => by
  have := c_aSame (hC.ak (by omega) (sc.ext e)) (hC.ak (by omega) (sd.ext e))
  rw [smA_t] at this
  exact this
 unfold s_law28_AlarmPortions_4
 have h := Hp.init [] w0
 refine Bn_neF (by omega) (Gd_F (Gd_F (Bn_neF (by omega) (Pick_F (Gd_F (lgA h ‹_› (by rfl) ?_))))))
 refine Gd_F (lgA h ‹_› (by rfl) ?_)
 refine Gd_F (cl1 h n_alarm_Same (ccs h.ext) fun w h => ?_)
 refine Gd_F (Un_T (Pick_F (Gd_F (Gd_F (leS (s24.hp h) ?_)))))
 refine Gd_F (Bn_gtF (by omega) (Pick_F (If_F (lgA h ‹_› (by rfl) ?_))))
 exact hk _ h.ext
set_option maxHeartbeats 16000000 in
theorem pt_3 (sF : SlC w0 10 fv fl.length (fl.flatMap fF)) (hV : VFs fl) (hfn : fl.length ≤ 30) (ht : t ≤ fl.length) (hcs : obs cs (fl.take t) = cs) :
 s_law28_AlarmPortions_3 Tryz.prog (pr g20 0) fv (.int .i64 (t : Int)) (.int .i64 0) (pr g15 0) t21 (.int .i64 tot) (.int .i64 (j : Int)) k1 w0 R := by
 have hVt := take_VFs hV t
 have hlt : (fl.take t).length = t := by rw [List.length_take]; omega
 have ccO : ∀ {W : World} {v1 : Value}, Ext w0 W → Fk W v1 (fl.take t) → Calls Tryz.prog 24 #[vA (tx B) (.slice p20 q20 r20), v1] W
  (Ret fun o w' => ∃ a b c a' b' c', o = .tuple #[vA (tx B) (.slice a b c), .slice a' b' c', .int .i64 0] ∧ Hp [] W w' [ro tWc 15 (.slice a b c) cs.length ((cs.map wr).flatMap fW), ro 3 1 (.slice a' b' c') 0 []]) := fun {W} {v1} e hF => by
  have := c_ObsK (w0 := W) hC (by omega) (sc.ext e) (hE.ext e) hF hVt (by omega)
  rw [hcs, Alm.rungs_same] at this
  exact this
 unfold s_law28_AlarmPortions_3
 have h := Hp.init [] w0
 skip
 refine Jn3.mk fun K lf => ?_
 have lf1 : ∀ {W : World} {g : Nat} {a : Option Addr} {b c : Nat} {a2 : Option Addr} {b2 c2 : Nat}, Hp [] w0 W [bx g tAl [str (tx B).1, str (tx B).2, .slice a b c], ro tWc 15 (.slice a b c) cs.length ((cs.map wr).flatMap fW), ro 3 1 (.slice a2 b2 c2) 0 []] → K (pr g 0) (.slice a2 b2 c2) (.int .i64 0) W := fun {W} {g} {a} {b} {c} {a2} {b2} {c2} h => lf _ _ _ W (by
  exact pt_4 (hE.ext h.ext) hC hn (b20.ext h.ext) (sc.ext h.ext) (fun W e => hk W (h.ext.tr e)) (h.get (i := 0) rfl) (qZ 1 h rfl) (qZ 2 h rfl))
 clear lf hk
 have hpF : ∀ {W : World} {v1 : Value}, Part 10 fv fl.length (fl.flatMap fF) v1 t ((fl.flatMap fF).take (t * 10)) → Ext w0 W → Fk W v1 (fl.take t) := fun {W} {v1} p1 e => ⟨by
  have := p1.2 _ (sF.ext e)
  rw [take_flat (c := 10) (f := fF) (fun _ => rfl)] at this
  rw [hlt]
  exact this, vfs_fi hVt, by omega⟩
 replace h := h.dr
 refine dgA h ‹_› (by rfl) ?_
 refine dscH (sF.hp h) (by omega) fun v1 p1 => ?_
 refine ⟨?_, ?_⟩
 ·refine Cl_i n_alarm_Observe (ccO h.ext (hpF p1 h.ext)) ?_
  rintro _ W2 ⟨a, b, c, a', b', c', rfl, h1⟩
  have h := h.cat2 h1 ro_sm ro_sm
  clear h1 ccO hpF
  refine ExP3x (alS h fun g1 w h => ?_)
  refine kgA h ‹_› (by rfl) ?_
  refine stA h 0 rfl rfl rfl rfl fun w h => ?_
  exact lf1 h
 ·refine alS h fun g1 w h => ?_
  refine kgA h ‹_› (by rfl) ?_
  refine Cl_i n_alarm_Observe (ccO h.ext (hpF p1 h.ext)) ?_
  rintro _ W2 ⟨a, b, c, a', b', c', rfl, h1⟩
  have h := h.cat2 h1 ro_sm ro_sm
  clear h1 ccO hpF
  refine ExP3x (stA h 2 rfl rfl rfl rfl fun w h => ?_)
  exact lf1 (h.pick [2, 0, 1] (by decide) rfl)
end
set_option maxHeartbeats 16000000 in
theorem pt_2 {W : World} {bs : List Wt} {at0 : Nat} {ks : List Nat} {p15 : Option Addr} {q15 r15 : Nat} (hE : En w0) (hB : VB n B bs) (hn : 0 ≤ n ∧ n ≤ 100) (sF : SlC w0 10 fv fl.length (fl.flatMap fF)) (hV : VFs fl) (hfn : fl.length ≤ 30) (hat : at0 ≤ t) (ht : t ≤ fl.length) (hj : j ≤ 10) (htot : 0 ≤ tot ∧ tot ≤ 1000)
 (hcs : obs bs (part fl at0 t) = cs) (hag : obs cs (fl.take t) = cs)
 (hk : ∀ {W' : World} {a : Option Addr} {b c : Nat}, Hp [] w0 W' [ro tWc 15 (.slice a b c) cs.length ((cs.map wr).flatMap fW), bx g15 tAl [str (tx B).1, str (tx B).2, .slice a b c]] → k1 (.int .i64 (t : Int)) (.int .i64 (tot + ((rungs bs cs 0).length : Nat))) (.int .i64 ((j : Int) + 1)) W')
 (h : Hp [] w0 W [slk ks (.slice p15 q15 r15) bs.length ((bs.map wr).flatMap fW), bx g15 tAl [str (tx B).1, str (tx B).2, .slice p15 q15 r15]]) :
 s_law28_AlarmPortions_2 Tryz.prog (pr g15 0) fv (.int .i64 (at0 : Int)) (.int .i64 (t : Int)) (.int .i64 tot) (.int .i64 (j : Int)) k1 W R := by
 have hVt := part_VFs hV at0 t
 have hlt := part_n (fl := fl) hat ht
 have hpf := part_flat fl hat
 have hrl := Alm.rungs_len bs cs 0
 have hbl := hB.len
 have hC : VB 200 B cs := by rw [← hcs]; exact (hB.obs hVt).mono (by omega)
 have ccO : ∀ {W : World} {v1 : Value}, Ext w0 W → SlC W 15 (.slice p15 q15 r15) bs.length ((bs.map wr).flatMap fW) → Fk W v1 (part fl at0 t) → Calls Tryz.prog 24 #[vA (tx B) (.slice p15 q15 r15), v1] W
  (Ret fun o w' => ∃ a b c a' b' c', o = .tuple #[vA (tx B) (.slice a b c), .slice a' b' c', .int .i64 0] ∧ Hp [] W w' [ro tWc 15 (.slice a b c) cs.length ((cs.map wr).flatMap fW), ro 3 1 (.slice a' b' c') (rungs bs cs 0).length ((rungs bs cs 0).flatMap fN)]) := fun {W} {v1} e sb hF => by
  have := c_ObsK (w0 := W) hB (by omega) sb (hE.ext e) hF hVt (by omega)
  rw [hcs] at this
  exact this
 unfold s_law28_AlarmPortions_2
 skip
 refine Jn3.mk fun K lf => ?_
 have lf1 : ∀ {W : World} {g : Nat} {a : Option Addr} {b c : Nat} {a2 : Option Addr} {b2 c2 : Nat}, Hp [] w0 W [bx g tAl [str (tx B).1, str (tx B).2, .slice a b c], ro tWc 15 (.slice a b c) cs.length ((cs.map wr).flatMap fW), ro 3 1 (.slice a2 b2 c2) (rungs bs cs 0).length ((rungs bs cs 0).flatMap fN), bx g15 tAl [str (tx B).1, str (tx B).2, .slice p15 q15 r15]] → K (pr g 0) (.slice a2 b2 c2) (.int .i64 0) W := fun {W} {g} {a} {b} {c} {a2} {b2} {c2} h => lf _ _ _ W (by
  refine pt_3 (hE.ext h.ext) hC (by decide) (h.get (i := 0) rfl) (qZ 1 h rfl) (fun W e => ?_) (sF.ext h.ext) hV hfn ht hag
  have h := h.x e
  unfold s_law28_AlarmPortions_5
  refine stA h 3 rfl rfl rfl rfl fun w h => ?_
  refine leS (qZ 2 h rfl) ?_
  refine Bn_ad (by omega) (by omega) (Bn_ad (by omega) (by omega) ?_)
  dsimp only [List.set] at h
  exact hk (h.pick [1, 3] (by decide) rfl))
 clear lf hk
 replace h := h.dr
 refine dlA h 1 rfl rfl ?_
 refine dscB (sF.hp h) hat ht fun v1 p1 => ?_
 have hpF : ∀ {W : World}, Ext w0 W → Fk W v1 (part fl at0 t) := fun {W} e => ⟨by
  have := p1.2 _ (sF.ext e)
  rw [hpf, ← hlt] at this
  exact this, vfs_fi hVt, by omega⟩
 clear p1
 refine ⟨?_, ?_⟩
 ·refine Cl_i n_alarm_Observe (ccO h.ext (h.get (i := 0) rfl) (hpF h.ext)) ?_
  rintro _ W2 ⟨a, b, c, a', b', c', rfl, h1⟩
  have h := (h.cat2 h1 ro_sm ro_sm).pick [0, 1, 3] (by decide) rfl
  clear h1 ccO
  refine ExP3x (alS h fun g1 w h => ?_)
  refine klA h 3 rfl rfl ?_
  refine stA h 0 rfl rfl rfl rfl fun w h => ?_
  exact lf1 h
 ·refine alS h fun g1 w h => ?_
  refine klA h 2 rfl rfl ?_
  refine Cl_i n_alarm_Observe (ccO h.ext (h.get (i := 1) rfl) (hpF h.ext)) ?_
  rintro _ W2 ⟨a, b, c, a', b', c', rfl, h1⟩
  have h := (h.cat2 h1 ro_sm ro_sm).pick [2, 0, 1, 4] (by decide) rfl
  clear h1 ccO
  refine ExP3x (stA h 0 rfl rfl rfl rfl fun w h => ?_)
  exact lf1 h
end
def ownF (w : Wt) (f : Ft) : Bool := (f.op == w.op) && (f.ve == w.ve)
def ownL (w : Wt) (fl : List Ft) : List Ft := fl.filter (ownF w)
theorem ownL_snoc {w : Wt} {fl : List Ft} {i : Nat} {f : Ft} (h : fl[i]? = some f) : ownL w (fl.take (i + 1)) = ownL w (fl.take i) ++ (if ownF w f then [f] else []) := by
 unfold ownL
 rw [List.take_add_one, h, List.filter_append]
 congr 1
 show List.filter (ownF w) [f] = _
 rw [List.filter_cons]
 split <;> rfl
theorem ownL_VFs {w : Wt} {fl : List Ft} (hp : PwF fl) (hV : VFs fl) : VFs (ownL w fl) :=
 pw_VFs (hp.sublist List.filter_sublist) (Nat.le_trans (List.length_filter_le _ _) hV.1) fun f hf => hV.2.1 f (List.mem_filter.1 hf).1
theorem own_eq {w : Wt} {fl : List Ft} : ∃ t, obs1 w.th w (ownL w fl) = { obs1 w.th w fl with th := t } := by
 have h := Alm.obs1_own w.th fl w w rfl
 have h : { obs1 w.th w fl with th := 0 } = { obs1 w.th w (ownL w fl) with th := 0 } := h
 obtain ⟨u, hu⟩ : ∃ u, obs1 w.th w (ownL w fl) = u := ⟨_, rfl⟩
 obtain ⟨v, hv⟩ : ∃ v, obs1 w.th w fl = v := ⟨_, rfl⟩
 rw [hu, hv] at h ⊢
 refine ⟨u.th, ?_⟩
 cases u
 cases v
 simp only [Alm.Wt.mk.injEq] at h ⊢
 obtain ⟨h1, h2, h3, h4, h5, h6, h7, _, h8, h9, h10⟩ := h
 exact ⟨h1.symm, h2.symm, h3.symm, h4.symm, h5.symm, h6.symm, h7.symm, trivial, h8.symm, h9.symm, h10.symm⟩
section
variable {w0 : World} {R : Ending → World → Prop} {B : Rat} {fv : Value} {fl : List Ft} {ws : List Wt} {g9 g12 i : Nat} {p9 : Option Addr} {q9 r9 : Nat} {p12 : Option Addr} {q12 r12 : Nat} {k5 : Value → World → Prop} {z : Wt}
variable (hE : En w0) (hB : VB 0 B ws) (sF : SlC w0 10 fv fl.length (fl.flatMap fF)) (hV : VFs fl) (hP : PwF fl) (hfn : fl.length ≤ 30) (sa : SlC w0 15 (.slice p9 q9 r9) ws.length ((ws.map wr).flatMap fW)) (b12 : Blk w0 g12 tAl [str (tx B).1, str (tx B).2, .slice p12 q12 r12]) (sw : SlC w0 15 (.slice p12 q12 r12) ws.length (((obs ws fl).map wr).flatMap fW))
 (hw : ws[i]? = some z) (hk : ∀ W, Ext w0 W → k5 (.int .i64 ((i : Int) + 1)) W)
include hE hB sF hV hP hfn sa b12 sw hw hk
set_option maxHeartbeats 16000000 in
theorem pt_9 {t28 : Value} (so : SlC w0 10 t28 (ownL z fl).length ((ownL z fl).flatMap fF)) :
 s_law28_AlarmPortions_9 Tryz.prog (.agg #[str (tx B).1, str (tx B).2, .slice p9 q9 r9]) t28 (.int .i64 (i : Int)) (pr g12 0) k5 w0 R := by
 have hi := (List.getElem?_eq_some_iff.1 hw).1
 have hlen := hB.len
 have hoV := ownL_VFs (w := z) hP hV
 obtain ⟨ol, hol⟩ : ∃ ol, ownL z fl = ol := ⟨_, rfl⟩
 have hou : (obs ws ol)[i]? = some (obs1 z.th z ol) := Alm.obs_get hw
 have how : (obs ws fl)[i]? = some (obs1 z.th z fl) := Alm.obs_get hw
 obtain ⟨t, heq⟩ := own_eq (w := z) (fl := fl)
 rw [hol] at heq so hoV
 obtain ⟨v, hv⟩ : ∃ v, obs1 z.th z fl = v := ⟨_, rfl⟩
 rw [hv] at heq how
 rw [heq] at hou
 have hol2 : ol.length ≤ 30 := by rw [← hol]; exact Nat.le_trans (List.length_filter_le _ _) hfn
 have hcl := Alm.obs_len ws ol
 have sv : Seg (((obs ws fl).map wr).flatMap fW) (i * 15) (cT v) := flat_seg (f := fW) (fun _ => rfl) (l := (obs ws fl).map wr) (a := wr v) (by rw [List.getElem?_map, how]; rfl)
 have su : Seg (((obs ws ol).map wr).flatMap fW) (i * 15) (cW v.op v.ve v.lim (tx v.mu) (tx v.al) (tx v.bet) v.st t v.sn (tx v.we) v.ru) := flat_seg (f := fW) (fun _ => rfl) (l := (obs ws ol).map wr) (a := wr { v with th := t }) (by rw [List.getElem?_map, hou]; rfl)
 have ccO := fun {W : World} (e : Ext w0 W) => c_ObsK (w0 := W) (fl := ol) hB (by decide) (sa.ext e) (hE.ext e) (Fk.of (so.ext e) hoV) hoV (by omega)
 clear hol hou how heq hv
 unfold s_law28_AlarmPortions_9
 have h := Hp.init [] w0
 refine Cl_i n_alarm_Observe (ccO h.ext) ?_
 rintro _ W2 ⟨a, b, c, a', b', c', rfl, h1⟩
 have h := h.cat2 h1 ro_sm ro_sm
 rw [hcl] at h
 clear h1 ccO
 refine Ex3 (alS h fun g1 w h => ?_)
 refine stA h 0 rfl rfl rfl rfl fun w h => ?_
 refine Bn_neF (by omega) (Gd_F (Gd_F (faS (Gd_F (Eng.ld1 h 0 rfl rfl (Gd_F (leS (qZ 1 h rfl) ?_)))))))
 refine Gd_F (Bn_geF (by omega) (Pick_F (Gd_F (Gd_F (faS (Gd_F (lg1 h ‹_› (by rfl) ?_)))))))
 refine Gd_F (leS (sw.hp h) ?_)
 refine Gd_F (Bn_geF (by omega) (Pick_F (If_F (faS (Eng.ld1 h 0 rfl rfl (iaR h 1 rfl (by omega) fun zg zk zv => ?_))))))
 refine lrA h 1 rfl ‹_› ‹_› (by rfl) ?_
 refine alS h fun g2 w h => ?_
 refine stA h 0 rfl rfl rfl rfl fun w h => ?_
 refine faS (lg1 h ‹_› (by rfl) ?_)
 refine iaH h ‹_› (by omega) fun zb zo zk zv zc => ?_
 refine faS (lh1 h ‹_› ‹_› (by rfl) ?_)
 refine faS (st1 h 0 rfl rfl rfl rfl fun w h => ?_)
 replace h := h.dr
 refine dlA h 0 rfl rfl ?_
 refine dfS (dg1 h ‹_› (by rfl) ?_)
 refine diH h ‹_› (by omega) fun zb zo zk zv zc => ?_
 refine dhA h ‹_› ‹_› (by rfl) ?_
 dsimp only [List.set] at h
 refine dwNeF ?_
 refine If_F (Bn_ad (by omega) (by omega) ?_)
 exact hk _ h.ext
set_option maxHeartbeats 16000000 in
theorem pt_7 (b9 : Blk w0 g9 tAl [str (tx B).1, str (tx B).2, .slice p9 q9 r9]) : s_law28_AlarmPortions_7 Tryz.prog (pr g9 0) (.int .i64 (i : Int)) fv (pr g12 0) k5 w0 R := by
 have hi := (List.getElem?_eq_some_iff.1 hw).1
 have hlen := hB.len
 have s1 : Seg ((ws.map wr).flatMap fW) (i * 15) (cT z) := flat_seg (f := fW) (fun _ => rfl) (l := ws.map wr) (a := wr z) (by rw [List.getElem?_map, hw]; rfl)
 have vw := hB.ok z (List.mem_of_getElem? hw)
 have w1 := vw.op
 have w2 := vw.ve
 unfold s_law28_AlarmPortions_7
 have h := Hp.init [] w0
 refine faS (lg1 h ‹_› (by rfl) ?_)
 refine leS (sa.hp h) ?_
 refine Bn_ltT (by omega) (If_T (faS (lg1 h ‹_› (by rfl) ?_)))
 refine iaH h ‹_› (by omega) fun zb zo zk zv zc => ?_
 refine lhA h ‹_› ‹_› (by rfl) ?_
 refine alS h fun g1 w h => ?_
 refine stA h 0 rfl rfl rfl rfl fun w h => ?_
 dsimp only [List.set] at h
 have h := h.nil tFc 10
 refine Lp2.mk (fun p q W => ∃ j : Nat, j ≤ fl.length ∧ q = .int .i64 j ∧ Hp [] w0 W [ro tFc 10 p (ownL z (fl.take j)).length ((ownL z (fl.take j)).flatMap fF), bx g1 tWc (cT z)])
  (fun _ q _ => match q with | .int _ i' => fl.length - i'.toNat | _ => 0) ⟨0, by omega, rfl, h⟩ ?_
 clear h
 rintro p _ W ⟨j, hj, rfl, h⟩
 unfold s_law28_AlarmPortions_8
 by_cases hjl : j < fl.length
 ·refine Exists.elim (p := fun x => fl[j]? = some x) ⟨_, List.getElem?_eq_getElem hjl⟩ fun f hf => ?_
  have sf : Seg (fl.flatMap fF) (j * 10) (fF f) := flat_seg (f := fF) (fun _ => rfl) hf
  have hfi := vfs_fi hV f (List.mem_of_getElem? hf)
  have f4 := hfi.ve
  have f5 := hfi.op
  have cs := ownL_snoc (w := z) hf
  have hol : (ownL z (fl.take j)).length ≤ 30 := by
   have h1 : (ownL z (fl.take j)).length ≤ (fl.take j).length := List.length_filter_le _ _
   rw [List.length_take] at h1
   omega
  by_cases ho : f.op = z.op
  rotate_left
  ·have hc : ownF z f = false := by unfold ownF; rw [beq_eq_false_iff_ne.2 ho]; rfl
   rw [hc, if_neg (by decide), List.append_nil] at cs
   refine leS (sF.hp h) ?_
   refine Bn_ltT (by omega) (If_T ?_)
   replace h := h.dr
   refine diH h ‹_› (by omega) fun zb zo zk zv zc => ?_
   refine dfS (dh1 h ‹_› ‹_› (by rfl) ?_)
   refine dfS (dl1 h 1 rfl rfl (Dv_eqF (by omega) (GdP_FT (GdP_FT (GdP_FT (GdP_FT (GdP_FT (GdP_FT (GdP_FT (GdP_FT (PickP_F (If_F (Bn_ad (by omega) (by omega) ?_)))))))))))))
   exact ⟨⟨j + 1, by omega, rfl, by rw [cs]; exact h⟩, by show fl.length - ((j : Int) + 1).toNat < fl.length - (j : Int).toNat; omega⟩
  by_cases hv : f.ve = z.ve
  rotate_left
  ·have hc : ownF z f = false := by unfold ownF; rw [beq_eq_false_iff_ne.2 hv, Bool.and_false]
   rw [hc, if_neg (by decide), List.append_nil] at cs
   refine leS (sF.hp h) ?_
   refine Bn_ltT (by omega) (If_T ?_)
   replace h := h.dr
   refine diH h ‹_› (by omega) fun zb zo zk zv zc => ?_
   refine dfS (dh1 h ‹_› ‹_› (by rfl) ?_)
   refine dfS (dl1 h 1 rfl rfl (Dv_eqT (by omega) (GdP_T (GdP_T (GdP_T (diH h ‹_› (by omega) fun zb zo zk zv zc => ?_))))))
   refine GdP_T (dfS (GdP_T (dh1 h ‹_› ‹_› (by rfl) ?_)))
   refine GdP_T (dfS (GdP_T (dl1 h 1 rfl rfl (GdP_T (Dv_eqF (by omega) (PickP_T (If_F (Bn_ad (by omega) (by omega) ?_))))))))
   exact ⟨⟨j + 1, by omega, rfl, by rw [cs]; exact h⟩, by show fl.length - ((j : Int) + 1).toNat < fl.length - (j : Int).toNat; omega⟩
  have hc : ownF z f = true := by unfold ownF; rw [ho, hv, beq_self_eq_true, beq_self_eq_true]; rfl
  rw [hc, if_pos rfl] at cs
  refine leS (sF.hp h) ?_
  refine Bn_ltT (by omega) (If_T ?_)
  replace h := h.dr
  refine diH h ‹_› (by omega) fun zb zo zk zv zc => ?_
  refine dfS (dh1 h ‹_› ‹_› (by rfl) ?_)
  refine dfS (dl1 h 1 rfl rfl (Dv_eqT (by omega) (GdP_T (GdP_T (GdP_T (diH h ‹_› (by omega) fun zb zo zk zv zc => ?_))))))
  refine GdP_T (dfS (GdP_T (dh1 h ‹_› ‹_› (by rfl) ?_)))
  refine GdP_T (dfS (GdP_T (dl1 h 1 rfl rfl (GdP_T (Dv_eqT (by omega) (PickP_T (If_T (iaH h ‹_› (by omega) fun zb zo zk zv zc => ?_))))))))
  refine lhA h ‹_› ‹_› (by rfl) ?_
  refine bs1A h (by rfl) (by decide) (by rfl) (by decide) fun v1 w h => ?_
  refine apR (by rfl) (by decide) h 1 rfl (qZ 0 h rfl) (by first | rfl | assumption) (by omega) fun v2 w h => ?_
  refine Bn_ad (by omega) (by omega) ?_
  dsimp only [List.set] at h
  refine ⟨⟨j + 1, by omega, rfl, ?_⟩, by show fl.length - ((j : Int) + 1).toNat < fl.length - (j : Int).toNat; omega⟩
  rw [cs, List.length_append, List.flatMap_append]
  exact h.drop 1
 ·have e : fl.take j = fl := List.take_of_length_le (by omega)
  rw [e] at h
  refine leS (sF.hp h) ?_
  refine Bn_ltF (by omega) (If_F (lgA h ‹_› (by rfl) ?_))
  exact pt_9 (hE.ext h.ext) hB (sF.ext h.ext) hV hP hfn (sa.ext h.ext) (b12.ext h.ext) (sw.ext h.ext) hw (fun W e => hk W (h.ext.tr e)) (qZ 0 h rfl)
omit hw hk
set_option maxHeartbeats 16000000 in
theorem pt_6 {p15 : Option Addr} {q15 r15 : Nat} {p49 : Option Addr} {q49 r49 : Nat} {tot : Nat} (b9 : Blk w0 g9 tAl [str (tx B).1, str (tx B).2, .slice p9 q9 r9]) (hR : ∀ W, Ext w0 W → R (.returned (.bool true)) W)
 (sb : SlC w0 15 (.slice p15 q15 r15) ws.length (((obs ws fl).map wr).flatMap fW)) (s49 : SlC w0 1 (.slice p49 q49 r49) tot ((rungs ws (obs ws fl) 0).flatMap fN)) (ht : tot ≤ 12) :
 s_law28_AlarmPortions_6 Tryz.prog (pr g12 0) (.agg #[str (tx B).1, str (tx B).2, .slice p15 q15 r15]) (.int .i64 (tot : Int)) (.slice p49 q49 r49) (pr g9 0) fv w0 R := by
 have hlen := hB.len
 have hO := hB.obs hV
 have hOl := Alm.obs_len ws fl
 have ccs : ∀ {W : World}, Ext w0 W → Calls Tryz.prog 15 #[vA (tx B) (.slice p15 q15 r15), vA (tx B) (.slice p12 q12 r12)] W (Ret fun r w' => Ext W w' ∧ r = .bool true) := fun {W} e => by
  have := c_aSame (hO.ak (w := W) (v := .slice p15 q15 r15) (by omega) (by rw [hOl]; exact sb.ext e)) (hO.ak (w := W) (v := .slice p12 q12 r12) (by omega) (by rw [hOl]; exact sw.ext e))
  rw [smA_t] at this
  exact this
 unfold s_law28_AlarmPortions_6
 have h := Hp.init [] w0
 refine lgA h ‹_› (by rfl) ?_
 refine cl1 h n_alarm_Same (ccs h.ext) fun w h => ?_
 refine Un_T (Gd_F (Gd_F (Gd_F (leS (s49.hp h) ?_))))
 refine Gd_F (Bn_neF (by omega) (Pick_F (If_F ?_)))
 clear ccs
 refine Lp1.mk (fun i W => ∃ j : Nat, j ≤ ws.length ∧ i = .int .i64 j ∧ Hp [] w0 W []) (fun i _ => match i with | .int _ i' => ws.length - i'.toNat | _ => 0) ⟨0, by omega, rfl, h⟩ ?_
 clear h
 rintro _ W ⟨j, hj, rfl, h⟩
 by_cases hjl : j < ws.length
 ·refine Exists.elim (p := fun x => ws[j]? = some x) ⟨_, List.getElem?_eq_getElem hjl⟩ fun z hz => ?_
  refine pt_7 (hE.ext h.ext) hB (sF.ext h.ext) hV hP hfn (sa.ext h.ext) (b12.ext h.ext) (sw.ext h.ext) hz (fun W' e => ?_) (b9.ext h.ext)
  exact ⟨⟨j + 1, by omega, rfl, h.x e⟩, by show ws.length - ((j : Int) + 1).toNat < ws.length - (j : Int).toNat; omega⟩
 ·have hje : j = ws.length := by omega
  unfold s_law28_AlarmPortions_7
  refine faS (lg1 h ‹_› (by rfl) ?_)
  refine leS (sa.hp h) ?_
  refine Bn_ltF (by omega) (If_F ?_)
  exact hR _ h.ext
end
abbrev fZ (c : Int) : List Value := [.int .i64 c]
theorem obs_nil (ws : List Wt) : obs ws [] = ws := by
 unfold Alm.obs
 show ws.map (fun w => w) = ws
 exact List.map_id' ws
theorem rungs_step {fl : List Ft} (hp : PwF fl) (ws : List Wt) {i j : Nat} (h : i ≤ j) : (rungs ws (obs ws (fl.take i)) 0).length + (rungs (obs ws (fl.take i)) (obs ws (fl.take j)) 0).length = (rungs ws (obs ws (fl.take j)) 0).length := by
 rw [obs_step hp ws h]
 exact Alm.rungs_add _ _ ws 0
section
variable {w0 : World} {R : Ending → World → Prop} {B : Rat} {fv v3 : Value} {fl : List Ft} {cl : List Int} {ws : List Wt} {g9 g12 : Nat} {p9 : Option Addr} {q9 r9 : Nat} {p12 : Option Addr} {q12 r12 : Nat} {p49 : Option Addr} {q49 r49 : Nat}
variable (hE : En w0) (hB : VB 0 B ws) (sF : SlC w0 10 fv fl.length (fl.flatMap fF)) (hV : VFs fl) (hP : PwF fl) (hfn : fl.length ≤ 30) (sa : SlC w0 15 (.slice p9 q9 r9) ws.length ((ws.map wr).flatMap fW)) (b12 : Blk w0 g12 tAl [str (tx B).1, str (tx B).2, .slice p12 q12 r12]) (sw : SlC w0 15 (.slice p12 q12 r12) ws.length (((obs ws fl).map wr).flatMap fW))
 (b9 : Blk w0 g9 tAl [str (tx B).1, str (tx B).2, .slice p9 q9 r9]) (hR : ∀ W, Ext w0 W → R (.returned (.bool true)) W) (s49 : SlC w0 1 (.slice p49 q49 r49) (rungs ws (obs ws fl) 0).length ((rungs ws (obs ws fl) 0).flatMap fN))
 (h3 : SlC w0 1 v3 cl.length (cl.flatMap fZ)) (oc : ∀ c ∈ cl, I64 c) (nc : cl.length ≤ 9223372036854775807) (hsa : ∀ k, (Value.slice p9 q9 r9).ownBlock = some k → k < w0.heap.size)
include hE hB sF hV hP hfn sa b12 sw b9 hR s49 h3 oc nc hsa
set_option maxHeartbeats 16000000 in
theorem pt_1 : s_law28_AlarmPortions_1 Tryz.prog (.agg #[str (tx B).1, str (tx B).2, .slice p9 q9 r9]) v3 fv (pr g12 0) (.slice p49 q49 r49) (pr g9 0) w0 R := by
 have hlen := hB.len
 unfold s_law28_AlarmPortions_1
 have h := Hp.init [] w0
 refine alS h fun g1 w h => ?_
 refine stA h 0 rfl rfl rfl rfl fun w h => ?_
 dsimp only [List.set] at h
 have h := slk_0 h sa hsa
 refine Lp3.mk (fun p q i W => ∃ (j at0 : Nat) (ks : List Nat) (x : Option Addr) (y z : Nat), j ≤ cl.length + 1 ∧ j ≤ 10 ∧ at0 ≤ fl.length ∧ ((j = 10 ∨ j = cl.length + 1) → at0 = fl.length) ∧ p = .int .i64 at0 ∧ q = .int .i64 ((rungs ws (obs ws (fl.take at0)) 0).length : Nat) ∧ i = .int .i64 j ∧
  Hp [] w0 W [slk ks (.slice x y z) ws.length (((obs ws (fl.take at0)).map wr).flatMap fW), bx g1 tAl [str (tx B).1, str (tx B).2, .slice x y z]])
  (fun _ _ i _ => match i with | .int _ x => 11 - x.toNat | _ => 0) ⟨0, 0, [], _, _, _, by omega, by omega, by omega, by omega, rfl, by rw [List.take_zero, obs_nil, Alm.rungs_same]; rfl, rfl, by rw [List.take_zero, obs_nil]; exact h⟩ ?_
 clear h
 rintro _ _ _ W ⟨j, at0, ks, x, y, z, hj, hj10, hat, hfin, rfl, rfl, rfl, h⟩
 have hrl := Alm.rungs_len ws (obs ws (fl.take at0)) 0
 have hexit : (j = 10 ∨ j = cl.length + 1) → ∀ {W' : World}, Hp [] w0 W' [slk ks (.slice x y z) ws.length (((obs ws (fl.take at0)).map wr).flatMap fW), bx g1 tAl [str (tx B).1, str (tx B).2, .slice x y z]] → s_law28_AlarmPortions_6 Tryz.prog (pr g12 0) (.agg #[str (tx B).1, str (tx B).2, .slice x y z]) (.int .i64 ((rungs ws (obs ws (fl.take at0)) 0).length : Nat)) (.slice p49 q49 r49) (pr g9 0) fv W' R := fun hc {W'} h => by
  have e := hfin hc
  subst e
  rw [List.take_length] at h ⊢
  exact pt_6 (hE.ext h.ext) hB (sF.ext h.ext) hV hP hfn (sa.ext h.ext) (b12.ext h.ext) (sw.ext h.ext) (b9.ext h.ext) (fun W' e => hR W' (h.ext.tr e)) (h.get (i := 0) rfl) (s49.ext h.ext) (by rw [List.take_length] at hrl; omega)
 by_cases hj1 : j ≤ cl.length
 rotate_left
 ·refine leS (h3.hp h) ?_
  refine Bn_leF (by omega) (Gd_FT (Gd_FT (Pick_F (If_F (ldA h 1 rfl rfl ?_)))))
  exact hexit (.inr (by omega)) h
 by_cases hj2 : j < 10
 rotate_left
 ·refine leS (h3.hp h) ?_
  refine Bn_leT (by omega) (Gd_T (Gd_T (Bn_ltF (by omega) (Pick_T (If_F (ldA h 1 rfl rfl ?_))))))
  exact hexit (.inl (by omega)) h
 clear hexit hR
 refine Exists.elim (p := fun t : Nat => at0 ≤ t ∧ t ≤ fl.length ∧ (∀ c, cl[j]? = some c → j < 9 → (t : Int) = at0 + pickZ c ((fl.length : Int) - at0 + 1)) ∧ (¬ (j < cl.length ∧ j < 9) → t = fl.length)) ?_ fun t ht => ?_
 ·by_cases hc : j < cl.length ∧ j < 9
  ·have hcj := List.getElem?_eq_getElem hc.1
   have pb := pickZ_bd (c := cl[j]'hc.1) (n := (fl.length : Int) - at0 + 1) (by omega)
   refine ⟨at0 + (pickZ (cl[j]'hc.1) ((fl.length : Int) - at0 + 1)).toNat, by omega, by omega, fun c h1 _ => ?_, fun hn => absurd hc hn⟩
   rw [hcj] at h1
   obtain rfl := Option.some.inj h1
   omega
  ·exact ⟨fl.length, hat, by omega, fun c h1 h2 => absurd ⟨(List.getElem?_eq_some_iff.1 h1).1, h2⟩ hc, fun _ => rfl⟩
 obtain ⟨ht1, ht2, ht3, ht4⟩ := ht
 refine leS (h3.hp h) ?_
 refine Bn_leT (by omega) (Gd_T (Gd_T (Bn_ltT (by omega) (Pick_T (If_T (leS (sF.hp h) ?_))))))
 refine Jn1.lf (.int .i64 (t : Nat)) h (fun K lf1 => ?_) (fun W1 h => ?_)
 ·by_cases hc1 : j < cl.length
  ·refine Exists.elim (p := fun x => cl[j]? = some x) ⟨_, List.getElem?_eq_getElem hc1⟩ fun c hcj => ?_
   have hci := oc c (List.mem_of_getElem? hcj)
   have sc : Seg (cl.flatMap fZ) (j * 1) (fZ c) := flat_seg (f := fZ) (fun _ => rfl) hcj
   by_cases hc2 : j < 9
   ·have e := ht3 c hcj hc2
    rw [e] at lf1
    have pb := pickZ_bd (c := c) (n := (fl.length : Int) - at0 + 1) (by omega)
    have cc1 := fun {W : World} (_ : Ext w0 W) => c_pickL (w := W) (c := c) (n := (fl.length : Int) - at0 + 1) hci (by omega)
    clear ht3 ht4 e
    refine leS (h3.hp h) ?_
    refine Bn_ltT (by omega) (Gd_T (Gd_T (Bn_ltT (by omega) (Pick_T (If_T (iaH h ‹_› (by omega) fun zb zo zk zv zc => ?_))))))
    refine lh0 h ‹_› ‹_› (by rfl) ?_
    refine leS (sF.hp h) ?_
    refine Bn_su (by omega) (by omega) (Bn_ad (by omega) (by omega) (cl1 h n_law28_pick (cc1 h.ext) fun w h => ?_))
    refine Bn_ad (by omega) (by omega) ?_
    exact lf1 _ h
   ·have e := ht4 (by omega)
    rw [e] at lf1
    clear ht3 ht4 e
    refine leS (h3.hp h) ?_
    refine Bn_ltT (by omega) (Gd_T (Gd_T (Bn_ltF (by omega) (Pick_T (If_F ?_)))))
    exact lf1 _ h
  ·have e := ht4 (by omega)
   rw [e] at lf1
   clear ht3 ht4 e
   refine leS (h3.hp h) ?_
   refine Bn_ltF (by omega) (Gd_FT (Gd_FT (Pick_F (If_F ?_))))
   exact lf1 _ h
 refine pt_2 (n := 50) (bs := obs ws (fl.take at0)) (cs := obs ws (fl.take t)) hE ((hB.obs (take_VFs hV at0)).mono (by rw [List.length_take]; omega)) (by decide) sF hV hfn ht1 ht2 (by omega) (by omega) (obs_step hP ws ht1).symm Alm.obs_again (fun {W'} {a} {b} {c} h => ?_) (by rw [Alm.obs_len]; exact h)
 have hrs := rungs_step hP ws ht1
 have h := ro_slk h
 rw [Alm.obs_len] at h
 exact ⟨⟨j + 1, t, _, _, _, _, by omega, by omega, ht2, fun hc => ht4 (by omega), rfl, by rw [← hrs]; rfl, rfl, h⟩, by show 11 - ((j : Int) + 1).toNat < 11 - (j : Int).toNat; omega⟩
end
section
variable {w0 : World} {b : Int} {v1 v2 v3 : Value} {l : List I6} {l3 : List I3} {cl : List Int} (hE : En w0) (hb : I64 b) (h1 : SlC w0 6 v1 l.length (l.flatMap fX6)) (h2 : SlC w0 3 v2 l3.length (l3.flatMap fT)) (h3 : SlC w0 1 v3 cl.length (cl.flatMap fZ)) (o1 : I6ok l) (o2 : I3ok l3) (o3 : ∀ c ∈ cl, I64 c) (n1 : l.length ≤ 9223372036854775807) (n2 : l3.length ≤ 9223372036854775807) (n3 : cl.length ≤ 9223372036854775807)
include hE hb h1 h2 h3 o1 o2 o3 n1 n2 n3
set_option maxHeartbeats 16000000 in
theorem law_Portions : Calls Tryz.prog 7 #[.int .i64 b, v1, v2, v3] w0 (Ret fun r w' => Ext w0 w' ∧ r = .bool true) := by
 have ccs := fun {W : World} (e : Ext w0 W) => c_sane (w0 := W) (hE.ext e)
 obtain ⟨B, hB⟩ : ∃ B, bud b = B := ⟨_, rfl⟩
 obtain ⟨ws, hws⟩ : ∃ ws, regL (bud b) (l.take 4) = ws := ⟨_, rfl⟩
 obtain ⟨fl, hfl⟩ : ∃ fl, fcts l3 30 = fl := ⟨_, rfl⟩
 have hVB : VB 0 B ws := by rw [← hws, ← hB]; exact regL_VB b _
 have hV : VFs fl := by rw [← hfl]; exact fcts_VFs l3 (by decide)
 have hP : PwF fl := by rw [← hfl]; exact fcts_pw l3 30
 have hfn : fl.length ≤ 30 := by rw [← hfl]; exact fcts_len l3 30
 have ccr := fun {W : World} (e : Ext w0 W) => c_regd (w0 := W) (hE.ext e) hb (h1.ext e) o1 n1
 have ccf := fun {W : World} (e : Ext w0 W) => c_Facts (w0 := W) (h2.ext e) o2 n2
 rw [hws, hB] at ccr
 rw [hfl] at ccf
 clear hws hB hfl
 apply e_law28_AlarmPortions
 apply u_law28_AlarmPortions
 unfold s_law28_AlarmPortions_0
 have h := Hp.init [] w0
 refine cl1 h n_law28_sane (ccs h.ext) fun w h => ?_
 refine Un_T (If_F (Cl_i n_law28_registered (ccr h.ext) ?_))
 rintro _ W1 ⟨x, y, z, rfl, k1⟩
 have e1 := h.ext.tr k1.ext
 have sa : SlC W1 15 (.slice x y z) ws.length ((ws.map wr).flatMap fW) := (k1.get (i := 0) rfl).1
 have la := (sl2_lt k1).1
 clear h k1
 have h := Hp.init [] W1
 refine Ex2 (alS h fun g1 w h => ?_)
 refine stA h 0 rfl rfl rfl rfl fun w h => ?_
 dsimp only [List.set] at h
 refine Cl_i n_ref28_Facts (ccf (e1.tr h.ext)) ?_
 rintro fv W2 k2
 have sF := k2.sl (i := 0) rfl
 have e2 := e1.tr (h.ext.tr k2.ext)
 have la : ∀ k, (Value.slice x y z).ownBlock = some k → k < W2.heap.size := fun k hk => Nat.lt_of_lt_of_le (la k hk) (Nat.le_trans h.mo.size k2.mo.size)
 have sa := (sa.hp h).ext k2.ext
 have ba : Blk W2 g1 tAl [str (tx B).1, str (tx B).2, .slice x y z] := (h.get (i := 0) rfl : Blk _ _ _ _).ext k2.ext
 have s3 := h3.ext e2
 obtain ⟨Q, hQ⟩ : ∃ Q : Value → World → Prop, (fun r w' => Ext w0 w' ∧ r = .bool true) = Q := ⟨_, rfl⟩
 have hR : ∀ W, Ext W2 W → Ret Q (.returned (.bool true)) W := fun W e => by rw [← hQ]; exact Ret.mk ⟨e2.tr e, rfl⟩
 rw [hQ]
 have hE2 := hE.ext e2
 clear h k2 ccf ccr ccs hQ h1 h2 h3 hE e1 e2
 have h := Hp.init [] W2
 refine lgA h ‹_› (by rfl) ?_
 refine Cl_i n_alarm_Observe (c_ObsK (fl := fl) hVB (by decide) (sa.ext h.ext) (hE2.ext h.ext) (Fk.of (sF.ext h.ext) hV) hV (by omega)) ?_
 rintro _ W3 ⟨x3, y3, z3, p3, q3, r3, rfl, k1⟩
 have h := h.cat2 k1 ro_sm ro_sm
 clear k1
 refine Ex3 (alS h fun g2 w h => ?_)
 refine stA h 0 rfl rfl rfl rfl fun w h => ?_
 refine Un_T (Gd_F (Gd_F (Bn_neF (by omega) (Pick_F (If_F (lgA h ‹_› (by rfl) ?_))))))
 dsimp only [List.set] at h
 have sw := h.sl (i := 1) rfl
 rw [Alm.obs_len] at sw
 exact pt_1 (hE2.ext h.ext) hVB (sF.ext h.ext) hV hP hfn (sa.ext h.ext) (h.get (i := 0) rfl) sw (ba.ext h.ext) (fun W e => hR W (h.ext.tr e)) (qZ 2 h rfl) (s3.ext h.ext) o3 n3 (fun k hk => Nat.lt_of_lt_of_le (la k hk) h.mo.size)
end
end Go.Proofs.YtnkmbjedcjcccaaGreatDoor
