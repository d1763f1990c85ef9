/-
  Contracts and plain lemmas. By an AI agent.
-/
import Derived.Test.YtnkmbjedcjcccaaGreatDoorTyp
import Derived.Test.YtnkmbjedcjcccaaGreatDoorDwA
import Derived.Test.YtnkmbjedcjcccaaGreatDoorEsA
import Derived.Test.YtnkmbjedcjcccaaGreatDoorEngW
import Derived.Test.YtnkmbjedcjcccaaGreatDoorPlain
set_option linter.unusedSimpArgs false
set_option linter.unusedVariables false
set_option linter.unusedSectionVars false
namespace Go.Proofs.YtnkmbjedcjcccaaGreatDoor
open Go Go.Eng
set_option maxRecDepth 100000
def s_alarm_fine_3 (P : Program) (t96 : Value) (t1 : Value) (w : World) (R : Ending → World → Prop) : Prop :=
 If t96
 (R (.returned (.bool false)) w)
 (Cl P 78 #[(.int .i64 1000000)] w (Pk R) fun t97 w =>
 Bd P 25 [(0, t97), (1, (str [49]))] w fun t98 w =>
 Al P 25 w fun t7 w =>
 Sto P 25 t7 t98 w fun w =>
 Dv P true (Instr.fieldAt 30 t1 9) w.drew fun t99 =>
 Dv P false (Instr.loadAt 25 t99) w.drew fun t100 =>
 Dv P false (Instr.loadAt 25 (.pointer (some ⟨1, 0, none⟩))) w.drew fun t101 =>
 Cl P 34 #[t100, t101] w.drew (Pk R) fun t102 w =>
 Dv P true (bn .lss 3 true t102 (.int .i64 0)) w fun t103 =>
 GdP t103 false (fun k => Dv P true (Instr.fieldAt 30 t1 9) w k) fun t105 =>
 GdP t103 false (fun k => Dv P false (Instr.loadAt 25 t105) w k) fun t106 =>
 GdP t103 false (fun k => Dv P false (Instr.loadAt 25 t7) w k) fun t107 =>
 Gd t103 false (fun k => Cl P 34 #[t106, t107] w (Pk R) k) w fun t108 w =>
 GdP t103 false (fun k => Dv P true (bn .gtr 3 true t108 (.int .i64 0)) w k) fun t109 =>
 PickP t103 (.bool true) t109 fun t110 =>
 GdP t110 false (fun k => Dv P true (Instr.fieldAt 30 t1 5) w k) fun t112 =>
 GdP t110 false (fun k => Dv P false (Instr.loadAt 25 t112) w k) fun t113 =>
 GdP t110 false (fun k => Dv P true (Instr.fieldAt 30 t1 3) w k) fun t114 =>
 GdP t110 false (fun k => Dv P false (Instr.loadAt 25 t114) w k) fun t115 =>
 GdP t110 false (fun k => Dv P false (Instr.loadAt 25 (.pointer (some ⟨0, 0, none⟩))) w k) fun t120 =>
 Gd t110 false (fun k => Cl P 32 #[t113, t115] w (Pk R) k) w fun t116 w =>
 Kg t110 false P (Instr.loadAt 25 (.pointer (some ⟨0, 0, none⟩))) t120 w <|
 GdP t110 false (fun k => ExP t116 0 k) fun t117 =>
 GdP t110 false (fun k => ExP t116 1 k) fun t118 =>
 Gd t110 false (fun k => Cl P 52 #[t117, t118] w (Pk R) k) w fun t119 w =>
 Kg t110 false P (Instr.loadAt 25 (.pointer (some ⟨0, 0, none⟩))) t120 w <|
 Gd t110 false (fun k => Cl P 34 #[t119, t120] w (Pk R) k) w fun t121 w =>
 GdP t110 false (fun k => Dv P true (bn .gtr 3 true t121 (.int .i64 0)) w k) fun t122 =>
 PickP t110 (.bool true) t122 fun t123 =>
 If t123
 (R (.returned (.bool false)) w)
 (Dv P true (Instr.fieldAt 30 t1 10) w.drew fun t124 =>
 Dv P false (Instr.loadAt 4 t124) w.drew fun t125 =>
 Dv P false (Instr.loadAt 30 t1) w.drew fun t126 =>
 Cl P 61 #[t126] w.drew (Pk R) fun t127 w =>
 Ke P (Instr.loadAt 4 t124) t125 w <|
 Dv P true (bn .eql 4 false t125 t127) w fun t128 =>
 R (.returned t128) w))
def s_alarm_fine_2 (P : Program) (t1 : Value) (t37 : Value) (t68 : Value) (w : World) (R : Ending → World → Prop) : Prop :=
 Fa P 30 t1 9 w fun t70 w =>
 Fa P 25 t70 1 w fun t71 w =>
 Ld P 9 t71 w fun t72 w =>
 Cl P 76 #[t72] w (Pk R) fun t73 w =>
 Ex t73 0 w fun t74 w =>
 Ex t73 1 w fun t75 w =>
 Un P .not t37 w fun t77 w =>
 Gd t77 false (fun k => k t68 w) w fun t79 w =>
 Gd t77 false (fun k => Un P .not t79 w k) w fun t80 w =>
 Pick t77 (.bool true) t80 w fun t81 w =>
 Gd t81 false (fun k => k t75 w) w fun t83 w =>
 Gd t81 false (fun k => Bn P .neq 123 true t83 .nilIface w k) w fun t84 w =>
 Pick t81 (.bool true) t84 w fun t85 w =>
 Gd t85 false (fun k => Fa P 30 t1 9 w k) w fun t87 w =>
 Gd t85 false (fun k => Ld P 25 t87 w k) w fun t88 w =>
 Gd t85 false (fun k => Cl P 72 #[t88] w (Pk R) k) w fun t89 w =>
 Gd t85 false (fun k => Un P .not t89 w k) w fun t90 w =>
 Pick t85 (.bool true) t90 w fun t91 w =>
 Gd t91 false (fun k => k t74 w) w fun t93 w =>
 Gd t91 false (fun k => Bn P .rem 3 true (.int .i64 1000000000000) t93 w k) w fun t94 w =>
 Gd t91 false (fun k => Bn P .neq 3 true t94 (.int .i64 0) w k) w fun t95 w =>
 Pick t91 (.bool true) t95 w fun t96 w =>
 s_alarm_fine_3 P t96 t1 w R
def s_alarm_fine_1 (P : Program) (t1 : Value) (t37 : Value) (w : World) (R : Ending → World → Prop) : Prop :=
 Fa P 30 t1 3 w fun t38 w =>
 Ld P 25 t38 w fun t39 w =>
 Cl P 41 #[t39, (str [49])] w (Pk R) fun t40 w =>
 Gd t40 true (fun k => Fa P 30 t1 4 w k) w fun t42 w =>
 Gd t40 true (fun k => Ld P 25 t42 w k) w fun t43 w =>
 Gd t40 true (fun k => Cl P 41 #[t43, (str [49])] w (Pk R) k) w fun t44 w =>
 Pick t40 t44 (.bool false) w fun t45 w =>
 Gd t45 true (fun k => Fa P 30 t1 5 w k) w fun t47 w =>
 Gd t45 true (fun k => Ld P 25 t47 w k) w fun t48 w =>
 Gd t45 true (fun k => Cl P 41 #[t48, (str [49, 48, 48, 48])] w (Pk R) k) w fun t49 w =>
 Pick t45 t49 (.bool false) w fun t50 w =>
 Gd t50 true (fun k => Fa P 30 t1 3 w k) w fun t52 w =>
 Gd t50 true (fun k => Ld P 25 t52 w k) w fun t53 w =>
 Gd t50 true (fun k => Ld P 25 (.pointer (some ⟨1, 0, none⟩)) w k) w fun t54 w =>
 Gd t50 true (fun k => Bn P .neq 25 false t53 t54 w k) w fun t55 w =>
 Pick t50 t55 (.bool false) w fun t56 w =>
 Gd t56 true (fun k => Fa P 30 t1 3 w k) w fun t58 w =>
 Gd t56 true (fun k => Ld P 25 t58 w k) w fun t59 w =>
 Gd t56 true (fun k => Ld P 25 (.pointer (some ⟨0, 0, none⟩)) w k) w fun t60 w =>
 Gd t56 true (fun k => Bn P .neq 25 false t59 t60 w k) w fun t61 w =>
 Pick t56 t61 (.bool false) w fun t62 w =>
 Gd t62 true (fun k => Fa P 30 t1 4 w k) w fun t64 w =>
 Gd t62 true (fun k => Ld P 25 t64 w k) w fun t65 w =>
 Gd t62 true (fun k => Ld P 25 (.pointer (some ⟨1, 0, none⟩)) w k) w fun t66 w =>
 Gd t62 true (fun k => Bn P .neq 25 false t65 t66 w k) w fun t67 w =>
 Pick t62 t67 (.bool false) w fun t68 w =>
 s_alarm_fine_2 P t1 t37 t68 w R
def s_alarm_fine_0 (P : Program) (t0 : Value) (w : World) (R : Ending → World → Prop) : Prop :=
 Bx P 30 t0 w fun t1 w =>
 Fa P 30 t1 0 w fun t8 w =>
 Ld P 3 t8 w fun t9 w =>
 Cl P 64 #[t9, (.int .i64 0), (.int .i64 11)] w (Pk R) fun t10 w =>
 Gd t10 true (fun k => Fa P 30 t1 1 w k) w fun t12 w =>
 Gd t10 true (fun k => Ld P 3 t12 w k) w fun t13 w =>
 Gd t10 true (fun k => Cl P 64 #[t13, (.int .i64 0), (.int .i64 9)] w (Pk R) k) w fun t14 w =>
 Pick t10 t14 (.bool false) w fun t15 w =>
 Gd t15 true (fun k => Fa P 30 t1 2 w k) w fun t17 w =>
 Gd t15 true (fun k => Ld P 3 t17 w k) w fun t18 w =>
 Gd t15 true (fun k => Cl P 64 #[t18, (.int .i64 0), (.int .i64 4398046511104)] w (Pk R) k) w fun t19 w =>
 Pick t15 t19 (.bool false) w fun t20 w =>
 Gd t20 true (fun k => Fa P 30 t1 6 w k) w fun t22 w =>
 Gd t20 true (fun k => Ld P 3 t22 w k) w fun t23 w =>
 Gd t20 true (fun k => Cl P 64 #[t23, (.int .i64 (-1)), (.int .i64 999)] w (Pk R) k) w fun t24 w =>
 Pick t20 t24 (.bool false) w fun t25 w =>
 Gd t25 true (fun k => Fa P 30 t1 7 w k) w fun t27 w =>
 Gd t25 true (fun k => Ld P 3 t27 w k) w fun t28 w =>
 Gd t25 true (fun k => Fa P 30 t1 6 w k) w fun t29 w =>
 Gd t25 true (fun k => Ld P 3 t29 w k) w fun t30 w =>
 Gd t25 true (fun k => Cl P 64 #[t28, t30, (.int .i64 999)] w (Pk R) k) w fun t31 w =>
 Pick t25 t31 (.bool false) w fun t32 w =>
 Gd t32 true (fun k => Fa P 30 t1 8 w k) w fun t34 w =>
 Gd t32 true (fun k => Ld P 3 t34 w k) w fun t35 w =>
 Gd t32 true (fun k => Cl P 64 #[t35, (.int .i64 0), (.int .i64 1000000)] w (Pk R) k) w fun t36 w =>
 Pick t32 t36 (.bool false) w fun t37 w =>
 s_alarm_fine_1 P t1 t37 w R
theorem u_alarm_fine {t0 : Value} {w : World} {R : Ending → World → Prop} (h : s_alarm_fine_0 Tryz.prog t0 w R) : s_alarm_fine Tryz.prog t0 w R := Eq.mp (by kernel_rfl) h
end Go.Proofs.YtnkmbjedcjcccaaGreatDoor
namespace Go.Proofs.YtnkmbjedcjcccaaGreatDoor
open Go Go.Eng Go.Proofs Go.Num Go.RowKit
open Go.Alm (Ft Wt Sm VW VA)
set_option maxRecDepth 100000
abbrev RS := List UInt8 × List UInt8
abbrev tx (x : Rat) : RS := (Lib.itoa x.num, Lib.itoa (x.den : Int))
abbrev fR (p : RS) : List Value := [str p.1, str p.2]
abbrev fO (o : Option Rat) : List Value := [str (eN o), str (eD o)]
theorem tx_inj {x y : Rat} (h : tx x = tx y) : x = y := by
 unfold tx at h
 simp only [Prod.mk.injEq] at h
 have h1 := itoa_inj h.1
 have h2 := itoa_inj h.2
 exact Rat.ext h1 (by omega)
theorem ok_ex {p : RS} (h : okR p.1 p.2) : ∃ x, p = tx x ∧ RB x := by
 obtain ⟨x, h1, h2, h3⟩ := h
 exact ⟨x, Prod.ext h1 h2, h3⟩
theorem ok_tx {x : Rat} (h : RB x) : okR (tx x).1 (tx x).2 := ⟨x, rfl, rfl, h⟩
theorem take_snoc {α : Type} {l : List α} {j : Nat} {a : α} (h : l[j]? = some a) : l.take (j + 1) = l.take j ++ [a] := by
 rw [List.take_add_one, h]; rfl
theorem take_len {α : Type} {l : List α} {j : Nat} (h : j ≤ l.length) : (l.take j).length = j := by rw [List.length_take]; omega
abbrev RSk (p : RS) : Prop := p.1.length ≤ 1000000 ∧ p.2.length ≤ 1000000
theorem Sml.one : Sml (1 : Rat) := ⟨by unfold Sz; decide, by unfold Sz; decide⟩
theorem Sml.zero : Sml (0 : Rat) := ⟨by unfold Sz; decide, by unfold Sz; decide⟩
theorem rb0 : RB (0 : Rat) := Sml.rb Sml.zero
theorem rb1 : RB (1 : Rat) := Sml.rb Sml.one
abbrev I64 (z : Int) : Prop := -9223372036854775808 ≤ z ∧ z ≤ 9223372036854775807
abbrev qI (n : Int) : Rat := (n : Rat)
theorem rb_int {n : Int} (h : I64 n) : RB (qI n) := ⟨by rw [Rat.num_intCast]; exact i64M h.1 h.2, by rw [Rat.den_intCast]; exact i64M (n := ((1 : Nat) : Int)) (by decide) (by decide)⟩
structure En (w : World) : Prop where
 hT : Tab w
 hE : ErrV w
 z0 : Blk w 1 25 [str [48], str [49]]
 z1 : Blk w 0 25 [str [49], str [49]]
theorem En.ext {w w' : World} (h : En w) (x : Ext w w') : En w' := ⟨h.hT.ext x, h.hE.ext x, h.z0.ext x, h.z1.ext x⟩
abbrev tWc : TypeId := 30
theorem o_cmp {x y : Rat} {w : World} (hx : RB x) (hy : RB y) (hT : Tab w) : Calls Tryz.prog 34 #[ov (some x), ov (some y)] w (Ret fun r w' => Ext w w' ∧ r = .int .i64 (cmpQ x y)) := by
 have := c_qCmp (w := w) (itoa_ok hx.n) (itoa_ok hx.d) (itoa_ok hy.n) (itoa_ok hy.d) hT
 rw [ans2_ok hx hy] at this; exact this
theorem cmp_le (x y : Rat) : cmpQ x y ≤ 0 ↔ x ≤ y := by
 rcases cmpQ_cases x y with ⟨h, e⟩ | ⟨h, e⟩ | ⟨h, e⟩ <;> rw [e]
 ·exact ⟨fun _ => Rat.le_of_lt h, fun _ => by decide⟩
 ·exact ⟨fun _ => by rw [h]; exact Rat.le_refl, fun _ => by decide⟩
 ·exact ⟨fun h1 => absurd h1 (by decide), fun h1 => absurd h (Rat.not_lt.2 h1)⟩
theorem cmp_lt (x y : Rat) : cmpQ x y < 0 ↔ x < y := by
 rcases cmpQ_cases x y with ⟨h, e⟩ | ⟨h, e⟩ | ⟨h, e⟩ <;> rw [e]
 ·exact ⟨fun _ => h, fun _ => by decide⟩
 ·exact ⟨fun h1 => absurd h1 (by decide), fun h1 => absurd h1 (by rw [h]; exact Rat.lt_irrefl)⟩
 ·exact ⟨fun h1 => absurd h1 (by decide), fun h1 => absurd h1 (Rat.not_lt.2 (Rat.le_of_lt h))⟩
theorem cmp_ge (x y : Rat) : 0 ≤ cmpQ x y ↔ y ≤ x := by
 rw [← Rat.not_lt, ← cmp_lt]; omega
theorem itoa1 : Lib.itoa ((1 : Nat) : Int) = [49] := by
 unfold Lib.itoa; rw [if_neg (by decide)]; exact dec_lt (u := 1) (by decide)
theorem ov_int (n : Int) : ov (some (qI n)) = .agg #[str (Lib.itoa n), str [49]] := by
 show Value.agg #[str (Lib.itoa (n : Rat).num), str (Lib.itoa (((n : Rat).den : Nat) : Int))] = _
 rw [Rat.num_intCast, Rat.den_intCast, itoa1]
theorem ov_0 : ov (some 0) = .agg #[str [48], str [49]] := by
 have := ov_int 0
 rw [itoa0] at this; exact this
theorem ov_1 : ov (some 1) = .agg #[str [49], str [49]] := by
 have := ov_int 1
 rw [show Lib.itoa 1 = [49] from itoa1] at this; exact this
theorem f_0 : fO (some 0) = [str [48], str [49]] := by
 have := ov_0
 simp only [ov, Value.agg.injEq] at this
 simpa using congrArg Array.toList this
theorem f_1 : fO (some 1) = [str [49], str [49]] := by
 have := ov_1
 simp only [ov, Value.agg.injEq] at this
 simpa using congrArg Array.toList this
theorem mul_some {a b c d : Nat} {x y : Rat} (hx : SR a b x) (hy : SR c d y) (ha : a + c ≤ 200) (hb : b + d ≤ 200) : oMul (some x) (some y) = some (x * y) := by
 show (if (mulQ x y).2.2 = 0 then some (x * y) else none) = _
 rw [qmul_ok hx hy ha hb]; rfl
theorem add_some {a b c d k : Nat} {x y : Rat} (hx : SR a b x) (hy : SR c d y) (h1 : a + d ≤ k) (h2 : c + b ≤ k) (hk : k ≤ 199) (hb : b + d ≤ 200) : oAdd (some x) (some y) = some (x + y) := by
 show (if (addQ x y).2.2 = 0 then some (x + y) else none) = _
 rw [qadd_ok hx hy h1 h2 hk hb]; rfl
theorem sub_some {a b c d k : Nat} {x y : Rat} (hx : SR a b x) (hy : SR c d y) (h1 : a + d ≤ k) (h2 : c + b ≤ k) (hk : k ≤ 199) (hb : b + d ≤ 200) : oSub (some x) (some y) = some (x - y) := by
 show (if (subQ x y).2.2 = 0 then some (x - y) else none) = _
 rw [qsub_ok hx hy h1 h2 hk hb]; rfl
theorem pos_num {x c : Rat} {m : Int} {D : Nat} (h0 : 0 ≤ x) (h1 : x ≤ (m : Rat)) (hm : 0 ≤ m) (hd : x.den ≤ D) : x.num.natAbs ≤ m.toNat * D := by
 have h2 := (Rat.le_iff x (m : Rat)).1 h1
 rw [Rat.num_intCast, Rat.den_intCast] at h2
 have h3 := Rat.num_nonneg.2 h0
 have h4 : m * (x.den : Int) ≤ m * (D : Int) := Int.mul_le_mul_of_nonneg_left (by omega) hm
 have h5 : (m.toNat : Int) * (D : Int) = m * (D : Int) := by rw [Int.toNat_of_nonneg hm]
 have h6 : ((m.toNat * D : Nat) : Int) = m * (D : Int) := by rw [← h5]; push_cast; rfl
 have h7 : x.num * ((1 : Nat) : Int) = x.num := by omega
 rw [h7] at h2
 omega
theorem Sm.sr1 {x : Rat} (h : Sm 1 x) : SR 4 4 x := by
 have h1 := pos_num (c := 0) h.ge h.le (by decide) h.dn
 have h2 := h.dn
 constructor
 ·unfold Sz; have : (1 : Int).toNat * 1000 = 1000 := rfl; omega
 ·unfold Sz; omega
theorem Sm.sr3 {x : Rat} (h : Sm 1000 x) : SR 7 4 x := by
 have h1 := pos_num (c := 0) h.ge h.le (by decide) h.dn
 have h2 := h.dn
 constructor
 ·unfold Sz; have : (1000 : Int).toNat * 1000 = 1000000 := rfl; omega
 ·unfold Sz; omega
theorem we_sr {x : Rat} (h0 : 0 ≤ x) (h1 : x ≤ ((1000000 : Int) : Rat)) (hd : x.den ∣ 1000000000000) : SR 19 13 x := by
 have h2 := Nat.le_of_dvd (by decide) hd
 have h3 := pos_num (c := 0) h0 h1 (by decide) h2
 constructor
 ·unfold Sz; have : (1000000 : Int).toNat * 1000000000000 = 1000000000000000000 := rfl; omega
 ·unfold Sz; omega
theorem Sm.rb {m : Int} {x : Rat} (h : Sm m x) (hm : m = 1 ∨ m = 1000) : RB x := by
 rcases hm with rfl | rfl
 ·exact (Sm.sr1 h).rb (by decide) (by decide)
 ·exact (Sm.sr3 h).rb (by decide) (by decide)
abbrev vR (p : RS) : Value := .agg #[str p.1, str p.2]
theorem tx0 : tx 0 = ([48], [49]) := by
 have := f_0
 simp only [fO, List.cons.injEq, and_true] at this
 have a : eN (some 0) = [48] := by simpa using this.1
 have b : eD (some 0) = [49] := by simpa using this.2
 exact Prod.ext a b
theorem tx1 : tx 1 = ([49], [49]) := by
 have := f_1
 simp only [fO, List.cons.injEq, and_true] at this
 have a : eN (some 1) = [49] := by simpa using this.1
 have b : eD (some 1) = [49] := by simpa using this.2
 exact Prod.ext a b
theorem txI (n : Int) : tx (qI n) = (Lib.itoa n, [49]) := by
 unfold tx
 rw [Rat.num_intCast, Rat.den_intCast, itoa1]
section
variable {w : World} {x y : Rat}
theorem k_cmp (hx : RB x) (hy : RB y) (hT : Tab w) : Calls Tryz.prog 34 #[vR (tx x), vR (tx y)] w (Ret fun r w' => Ext w w' ∧ r = .int .i64 (cmpQ x y)) := o_cmp hx hy hT
theorem k_cmp0 (hx : RB x) (hT : Tab w) : Calls Tryz.prog 34 #[vR (tx x), .agg #[str [48], str [49]]] w (Ret fun r w' => Ext w w' ∧ r = .int .i64 (cmpQ x 0)) := by
 have := k_cmp hx rb0 hT
 rw [tx0] at this; exact this
theorem k_cmp1 (hx : RB x) (hT : Tab w) : Calls Tryz.prog 34 #[vR (tx x), .agg #[str [49], str [49]]] w (Ret fun r w' => Ext w w' ∧ r = .int .i64 (cmpQ x 1)) := by
 have := k_cmp hx rb1 hT
 rw [tx1] at this; exact this
theorem k_cmpI {n : Int} {ms : List UInt8} (hx : RB x) (hn : I64 n) (hms : Lib.itoa n = ms) (hT : Tab w) : Calls Tryz.prog 34 #[vR (tx x), .agg #[str ms, str [49]]] w (Ret fun r w' => Ext w w' ∧ r = .int .i64 (cmpQ x (qI n))) := by
 have := k_cmp hx (rb_int hn) hT
 rw [txI, hms] at this; exact this
section
variable {a b c d k : Nat}
theorem k_mul (hx : SR a b x) (hy : SR c d y) (h1 : a + c ≤ 200) (h2 : b + d ≤ 200) (hT : Tab w) : Calls Tryz.prog 32 #[vR (tx x), vR (tx y)] w (Ret fun r w' => Ext w w' ∧ r = .tuple #[vR (tx (x * y)), .int .i64 0]) := by
 have := o_mul (w := w) (o := some x) (p := some y) (.some (hx.rb (by omega) (by omega))) (.some (hy.rb (by omega) (by omega))) hT
 rw [mul_some hx hy h1 h2] at this
 exact this
theorem k_add (hx : SR a b x) (hy : SR c d y) (h1 : a + d ≤ k) (h2 : c + b ≤ k) (hk : k ≤ 199) (hb : b + d ≤ 200) (hT : Tab w) : Calls Tryz.prog 35 #[vR (tx x), vR (tx y)] w (Ret fun r w' => Ext w w' ∧ r = .tuple #[vR (tx (x + y)), .int .i64 0]) := by
 have := o_add (w := w) (o := some x) (p := some y) (.some (hx.rb (by omega) (by omega))) (.some (hy.rb (by omega) (by omega))) hT
 rw [add_some hx hy h1 h2 hk hb] at this
 exact this
theorem k_sub (hx : SR a b x) (hy : SR c d y) (h1 : a + d ≤ k) (h2 : c + b ≤ k) (hk : k ≤ 199) (hb : b + d ≤ 200) (hT : Tab w) : Calls Tryz.prog 31 #[vR (tx x), vR (tx y)] w (Ret fun r w' => Ext w w' ∧ r = .tuple #[vR (tx (x - y)), .int .i64 0]) := by
 have := o_sub (w := w) (o := some x) (p := some y) (.some (hx.rb (by omega) (by omega))) (.some (hy.rb (by omega) (by omega))) hT
 rw [sub_some hx hy h1 h2 hk hb] at this
 exact this
end
end
section
variable {w : World} {c n : Int} (hc : I64 c) (hn : 0 < n)
include hc hn
def pickZ (c n : Int) : Int := if c < 0 then (-(c + 1)) % n else c % n
omit hc in
theorem pickZ_bd : 0 ≤ pickZ c n ∧ pickZ c n < n := by
 unfold pickZ
 split
 ·exact ⟨Int.emod_nonneg _ (by omega), Int.emod_lt_of_pos _ hn⟩
 ·exact ⟨Int.emod_nonneg _ (by omega), Int.emod_lt_of_pos _ hn⟩
theorem c_pickR : Calls Tryz.prog 54 #[.int .i64 c, .int .i64 n] w (Ret fun r w' => Ext w w' ∧ r = .int .i64 (pickZ c n)) := by
 apply e_ref28_pick
 unfold s_ref28_pick
 have h := Hp.init [] w
 by_cases h0 : c < 0
 ·have e : pickZ c n = (-(c + 1)) % n := by unfold pickZ; rw [if_pos h0]
  rw [e]
  refine Bn_ltT (by omega) (If_T (Bn_ad (by omega) (by omega) (Eng.Un_ng (by omega) (by omega) (Bn_rm (by omega) (by omega) ?_))))
  exact Ret.mk ⟨h.ext, rfl⟩
 ·have e : pickZ c n = c % n := by unfold pickZ; rw [if_neg h0]
  rw [e]
  refine Bn_ltF (by omega) (If_F (Bn_rm (by omega) (by omega) ?_))
  exact Ret.mk ⟨h.ext, rfl⟩
theorem c_pickL : Calls Tryz.prog 27 #[.int .i64 c, .int .i64 n] w (Ret fun r w' => Ext w w' ∧ r = .int .i64 (pickZ c n)) := by
 apply e_law28_pick
 unfold s_law28_pick
 have h := Hp.init [] w
 by_cases h0 : c < 0
 ·have e : pickZ c n = (-(c + 1)) % n := by unfold pickZ; rw [if_pos h0]
  rw [e]
  refine Bn_ltT (by omega) (If_T (Bn_ad (by omega) (by omega) (Eng.Un_ng (by omega) (by omega) (Bn_rm (by omega) (by omega) ?_))))
  exact Ret.mk ⟨h.ext, rfl⟩
 ·have e : pickZ c n = c % n := by unfold pickZ; rw [if_neg h0]
  rw [e]
  refine Bn_ltF (by omega) (If_F (Bn_rm (by omega) (by omega) ?_))
  exact Ret.mk ⟨h.ext, rfl⟩
end
section
variable {w : World} {n lo hi : Int}
theorem c_inT (h : lo ≤ n ∧ n ≤ hi) : Calls Tryz.prog 64 #[.int .i64 n, .int .i64 lo, .int .i64 hi] w (Ret fun r w' => Ext w w' ∧ r = .bool true) := by
 have h1 := h.1
 have h2 := h.2
 apply e_alarm_in
 unfold s_alarm_in
 have h := Hp.init [] w
 refine Bn_geT (by omega) (Gd_T (Gd_T (Gd_T (Bn_leT (by omega) (Pick_T ?_)))))
 exact Ret.mk ⟨h.ext, rfl⟩
theorem c_inF (h : ¬ (lo ≤ n ∧ n ≤ hi)) : Calls Tryz.prog 64 #[.int .i64 n, .int .i64 lo, .int .i64 hi] w (Ret fun r w' => Ext w w' ∧ r = .bool false) := by
 apply e_alarm_in
 unfold s_alarm_in
 by_cases h1 : lo ≤ n
 ·have h2 : hi < n := by omega
  have h := Hp.init [] w
  refine Bn_geT (by omega) (Gd_T (Gd_T (Gd_T (Bn_leF (by omega) (Pick_T ?_)))))
  exact Ret.mk ⟨h.ext, rfl⟩
 ·have h := Hp.init [] w
  refine Bn_geF (by omega) (Gd_FT (Gd_FT (Gd_FT (Pick_F ?_))))
  exact Ret.mk ⟨h.ext, rfl⟩
theorem c_tinT (h : lo ≤ n ∧ n ≤ hi) : Calls Tryz.prog 133 #[.int .i64 n, .int .i64 lo, .int .i64 hi] w (Ret fun r w' => Ext w w' ∧ r = .bool true) := by
 have h1 := h.1
 have h2 := h.2
 apply e_trace_within
 unfold s_trace_within
 have h := Hp.init [] w
 refine Bn_geT (by omega) (Gd_T (Gd_T (Gd_T (Bn_leT (by omega) (Pick_T ?_)))))
 exact Ret.mk ⟨h.ext, rfl⟩
theorem c_tinF (h : ¬ (lo ≤ n ∧ n ≤ hi)) : Calls Tryz.prog 133 #[.int .i64 n, .int .i64 lo, .int .i64 hi] w (Ret fun r w' => Ext w w' ∧ r = .bool false) := by
 apply e_trace_within
 unfold s_trace_within
 by_cases h1 : lo ≤ n
 ·have h2 : hi < n := by omega
  have h := Hp.init [] w
  refine Bn_geT (by omega) (Gd_T (Gd_T (Gd_T (Bn_leF (by omega) (Pick_T ?_)))))
  exact Ret.mk ⟨h.ext, rfl⟩
 ·have h := Hp.init [] w
  refine Bn_geF (by omega) (Gd_FT (Gd_FT (Gd_FT (Pick_F ?_))))
  exact Ret.mk ⟨h.ext, rfl⟩
end
theorem c_must {w : World} {p : RS} : Calls Tryz.prog 52 #[vR p, .int .i64 0] w (Ret fun r w' => Ext w w' ∧ r = vR p) := by
 apply e_alarm_must
 unfold s_alarm_must
 have h := Hp.init [] w
 refine bxA h fun g1 w h => ?_
 refine alS h fun g2 w h => ?_
 refine Bn_neF (by omega) (If_F (ldA h 1 rfl rfl ?_))
 refine stA h 0 rfl rfl rfl rfl fun w h => ?_
 refine rcA h 0 rfl rfl ?_
 dsimp only [List.set] at h
 exact Ret.mk ⟨h.ext, rfl⟩
theorem ofQ {n d : Int} (hd : d ≠ 0) : rv (makeQ n d) = .tuple #[ov (some ((n : Rat) / d)), .int .i64 0] := by
 unfold makeQ; rw [if_neg hd]; rfl
theorem c_of {w : World} {n d : Int} (hT : Tab w) (hn : I64 n) (hd : I64 d) (h0 : d ≠ 0) : Calls Tryz.prog 30 #[.int .i64 n, .int .i64 d] w (Ret fun r w' => Ext w w' ∧ r = vR (tx ((n : Rat) / d))) := by
 have cc1 : ∀ {W : World}, Ext w W → Calls Tryz.prog 66 #[.int .i64 n, .int .i64 d] W (Ret fun r w' => Ext W w' ∧ r = .tuple #[vR (tx ((n : Rat) / d)), .int .i64 0]) := fun {W} x => by
  have := c_Of (w := W) (x := n) (y := d) (hT.ext x) hn.1 hn.2 hd.1 hd.2
  rw [ofQ h0] at this
  exact this
 apply e_law28_of
 unfold s_law28_of
 have h := Hp.init [] w
 refine alS h fun g1 w h => ?_
 refine cl1 h n_rational_Of (cc1 h.ext) fun w h => ?_
 refine Ex2 (alS h fun g2 w h => ?_)
 refine stA h 0 rfl rfl rfl rfl fun w h => ?_
 refine Bn_neF (by omega) (If_F (ldA h 0 rfl rfl ?_))
 refine stA h 1 rfl rfl rfl rfl fun w h => ?_
 refine rcA h 1 rfl rfl ?_
 dsimp only [List.set] at h
 exact Ret.mk ⟨h.ext, rfl⟩
theorem c_fofN {w : World} {n d : Int} (hn : I64 n) (hd : I64 d) (h0 : d ≠ 0) : Calls Tryz.prog 55 #[.int .i64 n, .int .i64 d] w (Ret fun r w' => Ext w w' ∧ r = vR (tx ((n : Rat) / d))) := by
 have cc1 : ∀ {W : World}, Ext w W → Calls Tryz.prog 89 #[.int .i64 n, .int .i64 d] W (Ret fun r w' => Ext W w' ∧ r = .tuple #[vR (tx ((n : Rat) / d)), .int .i64 0]) := fun {W} x => by
  have := c_fOf (w := W) (x := n) (y := d) hn.1 hn.2 hd.1 hd.2
  rw [ofQ h0] at this
  exact this
 apply e_ref28_of
 unfold s_ref28_of
 have h := Hp.init [] w
 refine alS h fun g1 w h => ?_
 refine cl1 h n_ref04_Of (cc1 h.ext) fun w h => ?_
 refine Ex2 (alS h fun g2 w h => ?_)
 refine stA h 0 rfl rfl rfl rfl fun w h => ?_
 refine Bn_neF (by omega) (If_F (ldA h 0 rfl rfl ?_))
 refine stA h 1 rfl rfl rfl rfl fun w h => ?_
 refine rcA h 1 rfl rfl ?_
 dsimp only [List.set] at h
 exact Ret.mk ⟨h.ext, rfl⟩
theorem eqI_f {t : TypeId} {a : Addr} {w : World} {K : Value → World → Prop} (hk : K (.bool false) w) : Bn Tryz.prog .eql 123 true (.iface t (.pointer (some a))) .nilIface w K := by ((try simp -dsimp [go_sem]); repeat (simp -dsimp (disch := omega) only [gL, gI]; try simp -dsimp [go_sem])); exact hk
theorem eqI_t {w : World} {K : Value → World → Prop} (hk : K (.bool true) w) : Bn Tryz.prog .eql 123 true .nilIface .nilIface w K := by ((try simp -dsimp [go_sem]); repeat (simp -dsimp (disch := omega) only [gL, gI]; try simp -dsimp [go_sem])); exact hk
theorem neI_f {w : World} {K : Value → World → Prop} (hk : K (.bool false) w) : Bn Tryz.prog .neq 123 true .nilIface .nilIface w K := by ((try simp -dsimp [go_sem]); repeat (simp -dsimp (disch := omega) only [gL, gI]; try simp -dsimp [go_sem])); exact hk
theorem neI_t {t : TypeId} {a : Addr} {w : World} {K : Value → World → Prop} (hk : K (.bool true) w) : Bn Tryz.prog .neq 123 true (.iface t (.pointer (some a))) .nilIface w K := by ((try simp -dsimp [go_sem]); repeat (simp -dsimp (disch := omega) only [gL, gI]; try simp -dsimp [go_sem])); exact hk
section
variable {w0 : World} {p : RS} {m : Int} {ms : List UInt8} (hE : En w0) (hm : m = 1 ∨ m = 1000) (hms : Lib.itoa m = ms)
include hE hm hms
theorem c_smallT {x : Rat} (h : Sm m x) : Calls Tryz.prog 41 #[vR (tx x), str ms] w0 (Ret fun r w' => Ext w0 w' ∧ r = .bool true) := by
 have hB := Sm.rb h hm
 have hI : I64 m := by omega
 have z1 := hE.z0
 have cc1 : ∀ {W : World}, Ext w0 W → Calls Tryz.prog 76 #[str (tx x).2] W (Ret fun r w' => Ext W w' ∧ r = .tuple #[.int .i64 (x.den : Int), .nilIface]) := fun {W} e => by
  refine (c_AtoiAll (w := W) (itoa_ok hB.d) (hE.hE.ext e)).mono ?_
  have hat : Lib.atoiAll (Lib.itoa (x.den : Int)) = .ok (x.den : Int) := by
   have hd := h.dn
   rw [atoiAll_itoa, if_pos (by omega)]
  rintro _ w' ⟨_, rfl, x1, ⟨v, h1, rfl⟩ | ⟨n, b, h1, rfl⟩⟩
  ·rw [hat] at h1
   cases h1
   exact Ret.mk ⟨x1, rfl⟩
  ·exact absurd hat (h1 _)
 have cc2 : ∀ {W : World}, Ext w0 W → Calls Tryz.prog 72 #[vR (tx x)] W (Ret fun r w' => Ext W w' ∧ r = .bool true) := fun {W} e => o_valid (w := W) (o := some x) (.some hB) (hE.hT.ext e)
 have cc3 := fun {W : World} (e : Ext w0 W) => k_cmp0 (w := W) hB (hE.hT.ext e)
 have cc4 := fun {W : World} (e : Ext w0 W) => k_cmpI (w := W) hB hI hms (hE.hT.ext e)
 have q1 := (cmp_ge x 0).2 h.ge
 have q2 := (cmp_le x (qI m)).2 h.le
 have q3 := h.dn
 apply e_alarm_small
 unfold s_alarm_small
 have h := Hp.init [] w0
 refine bxA h fun g1 w h => ?_
 refine faS (Eng.ld1 h 0 rfl rfl (cl1 h n_strconv_Atoi (cc1 h.ext) fun w h => ?_))
 refine Ex2 (eqI_t ?_)
 refine Gd_T (ldA h 0 rfl rfl ?_)
 refine Gd_T (cl1 h n_rational_Valid (cc2 h.ext) fun w h => ?_)
 refine Pick_T (Gd_T (Gd_T (Bn_leT (by omega) (Pick_T (Gd_T (ldA h 0 rfl rfl ?_))))))
 refine Gd_T (lgA h ‹_› (by rfl) ?_)
 refine Gd_T (cl1 h n_rational_Compare (cc3 h.ext) fun w h => ?_)
 refine Gd_T (Bn_geT (by omega) (Pick_T (Gd_T (ldA h 0 rfl rfl ?_))))
 refine Gd_T (Gd_T (bdS (PC.cons (by rfl) (PC.cons (by rfl) PC.nil)) (by rfl) ?_))
 refine Gd_T (cl1 h n_rational_Compare (cc4 h.ext) fun w h => ?_)
 refine Gd_T (Bn_leT (by omega) (Pick_T ?_))
 exact Ret.mk ⟨h.ext, rfl⟩
theorem c_smallF (hk : RSk p) (hno : ¬ ∃ x, p = tx x ∧ Sm m x) : Calls Tryz.prog 41 #[vR p, str ms] w0 (Ret fun r w' => Ext w0 w' ∧ r = .bool false) := by
 have hI : I64 m := by omega
 have z1 := hE.z0
 have hA := fun {W : World} (e : Ext w0 W) => c_AtoiAll (w := W) hk.2 (hE.hE.ext e)
 have hv := fun {W : World} (e : Ext w0 W) => c_qValid (w := W) hk.1 hk.2 (hE.hT.ext e)
 by_cases ho : okR p.1 p.2
 rotate_left
 ·have cc2 : ∀ {W : World}, Ext w0 W → Calls Tryz.prog 72 #[.agg #[str p.1, str p.2]] W (Ret fun r w' => Ext W w' ∧ r = .bool false) := fun {W} e => by
   have := hv e
   rw [okB_f ho] at this; exact this
  apply e_alarm_small
  unfold s_alarm_small
  have h := Hp.init [] w0
  refine bxA h fun g1 w h => ?_
  refine faS (Eng.ld1 h 0 rfl rfl (Cl_i n_strconv_Atoi (hA h.ext) ?_))
  rintro _ w' ⟨x1, ⟨v, h1, rfl⟩ | ⟨n, b, h1, rfl⟩⟩
  ·have h := h.x x1
   refine Ex2 (eqI_t ?_)
   refine Gd_T (ldA h 0 rfl rfl ?_)
   refine Gd_T (cl1 h n_rational_Valid (cc2 h.ext) fun w h => ?_)
   refine Pick_T (Gd_FT (Gd_FT (Pick_F (Gd_FT (Gd_FT (Gd_FT (Gd_FT (Pick_F (Gd_FT (Gd_FT (Gd_FT (Gd_FT (Gd_FT (Pick_F ?_))))))))))))))
   exact Ret.mk ⟨h.ext, rfl⟩
  ·have h := h.x x1
   refine Ex2 (eqI_f ?_)
   refine Gd_FT (Gd_FT (Pick_F (Gd_FT (Gd_FT (Pick_F (Gd_FT (Gd_FT (Gd_FT (Gd_FT (Pick_F (Gd_FT (Gd_FT (Gd_FT (Gd_FT (Gd_FT (Pick_F ?_))))))))))))))))
   exact Ret.mk ⟨h.ext, rfl⟩
 obtain ⟨x, rfl, hB⟩ := ok_ex ho
 have cc2 : ∀ {W : World}, Ext w0 W → Calls Tryz.prog 72 #[.agg #[str (tx x).1, str (tx x).2]] W (Ret fun r w' => Ext W w' ∧ r = .bool true) := fun {W} e => by
  have := hv e
  rw [okB_t ho] at this; exact this
 have hat := atoiAll_itoa (x.den : Int)
 have cc3 := fun {W : World} (e : Ext w0 W) => k_cmp0 (w := W) hB (hE.hT.ext e)
 have cc4 := fun {W : World} (e : Ext w0 W) => k_cmpI (w := W) hB hI hms (hE.hT.ext e)
 by_cases hd : x.den ≤ 1000
 rotate_left
 ·apply e_alarm_small
  unfold s_alarm_small
  have h := Hp.init [] w0
  refine bxA h fun g1 w h => ?_
  refine faS (Eng.ld1 h 0 rfl rfl (Cl_i n_strconv_Atoi (hA h.ext) ?_))
  rintro _ w' ⟨x1, ⟨v, h1, rfl⟩ | ⟨n, b, h1, rfl⟩⟩
  ·have h := h.x x1
   have hv : v = (x.den : Int) := by
    have h1 : Lib.atoiAll (Lib.itoa (x.den : Int)) = .ok v := h1
    rw [hat] at h1
    split at h1
    ·cases h1; rfl
    ·cases h1
   subst hv
   refine Ex2 (eqI_t ?_)
   refine Gd_T (ldA h 0 rfl rfl ?_)
   refine Gd_T (cl1 h n_rational_Valid (cc2 h.ext) fun w h => ?_)
   refine Pick_T (Gd_T (Gd_T (Bn_leF (by omega) (Pick_T (Gd_FT (Gd_FT (Gd_FT (Gd_FT (Pick_F (Gd_FT (Gd_FT (Gd_FT (Gd_FT (Gd_FT (Pick_F ?_)))))))))))))))
   exact Ret.mk ⟨h.ext, rfl⟩
  ·have h := h.x x1
   refine Ex2 (eqI_f ?_)
   refine Gd_FT (Gd_FT (Pick_F (Gd_FT (Gd_FT (Pick_F (Gd_FT (Gd_FT (Gd_FT (Gd_FT (Pick_F (Gd_FT (Gd_FT (Gd_FT (Gd_FT (Gd_FT (Pick_F ?_))))))))))))))))
   exact Ret.mk ⟨h.ext, rfl⟩
 rw [if_pos (by omega)] at hat
 have cc1 : ∀ {W : World}, Ext w0 W → Calls Tryz.prog 76 #[str (tx x).2] W (Ret fun r w' => Ext W w' ∧ r = .tuple #[.int .i64 (x.den : Int), .nilIface]) := fun {W} e => by
  refine (hA e).mono ?_
  rintro _ w' ⟨_, rfl, x1, ⟨v, h1, rfl⟩ | ⟨n, b, h1, rfl⟩⟩
  ·have h1 : Lib.atoiAll (Lib.itoa (x.den : Int)) = .ok v := h1
   rw [hat] at h1
   cases h1
   exact Ret.mk ⟨x1, rfl⟩
  ·exact absurd hat (h1 _)
 by_cases q1 : 0 ≤ cmpQ x 0
 rotate_left
 ·apply e_alarm_small
  unfold s_alarm_small
  have h := Hp.init [] w0
  refine bxA h fun g1 w h => ?_
  refine faS (Eng.ld1 h 0 rfl rfl (cl1 h n_strconv_Atoi (cc1 h.ext) fun w h => ?_))
  refine Ex2 (eqI_t ?_)
  refine Gd_T (ldA h 0 rfl rfl ?_)
  refine Gd_T (cl1 h n_rational_Valid (cc2 h.ext) fun w h => ?_)
  refine Pick_T (Gd_T (Gd_T (Bn_leT (by omega) (Pick_T (Gd_T (ldA h 0 rfl rfl ?_))))))
  refine Gd_T (lgA h ‹_› (by rfl) ?_)
  refine Gd_T (cl1 h n_rational_Compare (cc3 h.ext) fun w h => ?_)
  refine Gd_T (Bn_geF (by omega) (Pick_T (Gd_FT (Gd_FT (Gd_FT (Gd_FT (Gd_FT (Pick_F ?_))))))))
  exact Ret.mk ⟨h.ext, rfl⟩
 by_cases q2 : cmpQ x (qI m) ≤ 0
 ·exact absurd ⟨x, rfl, ⟨(cmp_ge x 0).1 q1, (cmp_le x (qI m)).1 q2, hd⟩⟩ hno
 ·apply e_alarm_small
  unfold s_alarm_small
  have h := Hp.init [] w0
  refine bxA h fun g1 w h => ?_
  refine faS (Eng.ld1 h 0 rfl rfl (cl1 h n_strconv_Atoi (cc1 h.ext) fun w h => ?_))
  refine Ex2 (eqI_t ?_)
  refine Gd_T (ldA h 0 rfl rfl ?_)
  refine Gd_T (cl1 h n_rational_Valid (cc2 h.ext) fun w h => ?_)
  refine Pick_T (Gd_T (Gd_T (Bn_leT (by omega) (Pick_T (Gd_T (ldA h 0 rfl rfl ?_))))))
  refine Gd_T (lgA h ‹_› (by rfl) ?_)
  refine Gd_T (cl1 h n_rational_Compare (cc3 h.ext) fun w h => ?_)
  refine Gd_T (Bn_geT (by omega) (Pick_T (Gd_T (ldA h 0 rfl rfl ?_))))
  refine Gd_T (Gd_T (bdS (PC.cons (by rfl) (PC.cons (by rfl) PC.nil)) (by rfl) ?_))
  refine Gd_T (cl1 h n_rational_Compare (cc4 h.ext) fun w h => ?_)
  refine Gd_T (Bn_leF (by omega) (Pick_T ?_))
  exact Ret.mk ⟨h.ext, rfl⟩
end
structure WR where
 op : Int
 ve : Int
 lim : Int
 m : RS
 a : RS
 b : RS
 st : Int
 th : Int
 sn : Int
 we : RS
 ru : Bool
abbrev fW (r : WR) : List Value := [.int .i64 r.op, .int .i64 r.ve, .int .i64 r.lim, str r.m.1, str r.m.2, str r.a.1, str r.a.2, str r.b.1, str r.b.2, .int .i64 r.st, .int .i64 r.th, .int .i64 r.sn, str r.we.1, str r.we.2, .bool r.ru]
abbrev vW (r : WR) : Value := .agg #[.int .i64 r.op, .int .i64 r.ve, .int .i64 r.lim, str r.m.1, str r.m.2, str r.a.1, str r.a.2, str r.b.1, str r.b.2, .int .i64 r.st, .int .i64 r.th, .int .i64 r.sn, str r.we.1, str r.we.2, .bool r.ru]
structure WRk (r : WR) : Prop where
 op : I64 r.op
 ve : I64 r.ve
 lim : I64 r.lim
 m : RSk r.m
 a : RSk r.a
 b : RSk r.b
 st : I64 r.st
 th : I64 r.th
 sn : I64 r.sn
 we : RSk r.we
abbrev wr (w : Wt) : WR := ⟨w.op, w.ve, w.lim, tx w.mu, tx w.al, tx w.bet, w.st, w.th, w.sn, tx w.we, w.ru⟩
def OkW (r : WR) : Prop := ∃ w, VW 1000000 w ∧ r = wr w
def Nums (r : WR) : Prop := (0 ≤ r.op ∧ r.op ≤ 11) ∧ (0 ≤ r.ve ∧ r.ve ≤ 9) ∧ (0 ≤ r.lim ∧ r.lim ≤ 4398046511104) ∧ (-1 ≤ r.st ∧ r.st ≤ 999) ∧ (r.st ≤ r.th ∧ r.th ≤ 999) ∧ (0 ≤ r.sn ∧ r.sn ≤ 1000000)
def Parts (r : WR) : Prop := ∃ m a b, r.m = tx m ∧ r.a = tx a ∧ r.b = tx b ∧ Sm 1 m ∧ Sm 1 a ∧ Sm 1000 b ∧ m ≠ 0 ∧ m ≠ 1 ∧ a ≠ 0
theorem OkW.nums {r : WR} (h : OkW r) : Nums r := by
 obtain ⟨w, h, rfl⟩ := h
 exact ⟨h.op, h.ve, h.lim, h.st, h.th, h.sn⟩
theorem OkW.parts {r : WR} (h : OkW r) : Parts r := by
 obtain ⟨w, h, rfl⟩ := h
 exact ⟨_, _, _, rfl, rfl, rfl, h.mu, h.al, h.bet, h.mu0, h.mu1, h.al0⟩
theorem VW.wrb {n : Int} {w : Wt} (h : VW n w) : RB w.we := (we_sr h.we0 h.we1 h.wd).rb (by decide) (by decide)
theorem OkW.wealth {r : WR} (h : OkW r) : ∃ x, r.we = tx x ∧ RB x ∧ x.den ∣ 1000000000000 := by
 obtain ⟨w, h, rfl⟩ := h
 exact ⟨_, rfl, VW.wrb h, h.wd⟩
theorem okW_iff {r : WR} {m a b x : Rat} (h1 : r.m = tx m) (h2 : r.a = tx a) (h3 : r.b = tx b) (h4 : r.we = tx x) : OkW r ↔ VW 1000000 ⟨r.op, r.ve, r.lim, m, a, b, r.st, r.th, r.sn, x, r.ru⟩ := by
 constructor
 ·rintro ⟨w, h, rfl⟩
  obtain rfl := tx_inj h1
  obtain rfl := tx_inj h2
  obtain rfl := tx_inj h3
  obtain rfl := tx_inj h4
  exact h
 ·intro h
  refine ⟨_, h, ?_⟩
  obtain ⟨op, ve, lim, m', a', b', st, th, sn, we, ru⟩ := r
  simp only at h1 h2 h3 h4
  subst h1 h2 h3 h4
  rfl
theorem eq0 (x : Rat) : ((tx x).1 == [48] && (tx x).2 == [49]) = decide (x = 0) := by
 by_cases h : x = 0
 ·subst h
  rw [tx0]; rfl
 ·rw [decide_eq_false h]
  refine Bool.eq_false_iff.2 fun hc => h (tx_inj ?_)
  rw [Bool.and_eq_true, beq_iff_eq, beq_iff_eq] at hc
  rw [tx0]
  exact Prod.ext hc.1 hc.2
theorem eq1 (x : Rat) : ((tx x).1 == [49] && (tx x).2 == [49]) = decide (x = 1) := by
 by_cases h : x = 1
 ·subst h
  rw [tx1]; rfl
 ·rw [decide_eq_false h]
  refine Bool.eq_false_iff.2 fun hc => h (tx_inj ?_)
  rw [Bool.and_eq_true, beq_iff_eq, beq_iff_eq] at hc
  rw [tx1]
  exact Prod.ext hc.1 hc.2
section
variable {w0 : World} {x a : Rat} (hE : En w0) (sx : SR 19 13 x) (sa : SR 4 4 a)
include hE sx sa
theorem c_won {r : WR} (h1 : r.we = tx x) (h2 : r.a = tx a) : Calls Tryz.prog 61 #[vW r] w0 (Ret fun v w' => Ext w0 w' ∧ v = .bool (Alm.won x a)) := by
 obtain ⟨op, ve, lim, m', a', b', st, th, sn, we, ru⟩ := r
 simp only at h1 h2
 subst h1 h2
 have z1 := hE.z1
 have cc1 := fun {W : World} (e : Ext w0 W) => k_mul (w := W) sx sa (by decide) (by decide) (hE.hT.ext e)
 have cc2 := fun {W : World} (_ : Ext w0 W) => c_must (w := W) (p := tx (x * a))
 have hp : RB (x * a) := (SR.mul sx sa).rb (by decide) (by decide)
 have cc3 := fun {W : World} (e : Ext w0 W) => k_cmp1 (w := W) hp (hE.hT.ext e)
 by_cases q : 0 ≤ cmpQ (x * a) 1
 ·have e : Alm.won x a = true := decide_eq_true ((cmp_ge _ _).1 q)
  rw [e]
  apply e_alarm_won
  unfold s_alarm_won
  have h := Hp.init [] w0
  refine bxA h fun g1 w h => ?_
  replace h := h.dr
  refine dfS (dlA h 0 rfl rfl ?_)
  refine dfS (dlA h 0 rfl rfl ?_)
  refine dgA h ‹_› (by rfl) ?_
  refine cl1 h n_rational_Mul (cc1 h.ext) fun w h => ?_
  refine kgA h ‹_› (by rfl) ?_
  refine ExP2 (cl1 h n_alarm_must (cc2 h.ext) fun w h => ?_)
  refine kgA h ‹_› (by rfl) ?_
  refine cl1 h n_rational_Compare (cc3 h.ext) fun w h => ?_
  refine Dv_geT (by omega) ?_
  exact Ret.mk ⟨h.ext, rfl⟩
 ·have e : Alm.won x a = false := decide_eq_false fun h => q ((cmp_ge _ _).2 h)
  rw [e]
  apply e_alarm_won
  unfold s_alarm_won
  have h := Hp.init [] w0
  refine bxA h fun g1 w h => ?_
  replace h := h.dr
  refine dfS (dlA h 0 rfl rfl ?_)
  refine dfS (dlA h 0 rfl rfl ?_)
  refine dgA h ‹_› (by rfl) ?_
  refine cl1 h n_rational_Mul (cc1 h.ext) fun w h => ?_
  refine kgA h ‹_› (by rfl) ?_
  refine ExP2 (cl1 h n_alarm_must (cc2 h.ext) fun w h => ?_)
  refine kgA h ‹_› (by rfl) ?_
  refine cl1 h n_rational_Compare (cc3 h.ext) fun w h => ?_
  refine Dv_geF (by omega) ?_
  exact Ret.mk ⟨h.ext, rfl⟩
end
open Classical in
noncomputable def okB1 (r : WR) : Bool := decide (OkW r)
theorem okB1_t {r : WR} (h : OkW r) : okB1 r = true := by unfold okB1; simp [h]
theorem okB1_f {r : WR} (h : ¬ OkW r) : okB1 r = false := by unfold okB1; simp [h]
theorem itoa6 : Lib.itoa 1000000 = [49, 48, 48, 48, 48, 48, 48] := lit_pos _ (by decide) (by decide)
theorem itoa3 : Lib.itoa 1000 = [49, 48, 48, 48] := lit_pos _ (by decide) (by decide)
theorem l1' : Lib.itoa 1 = [49] := itoa1
section
variable {w0 w : World} {r : WR} {g : Nat} (hE : En w0)
include hE
abbrev PoW (w0 : World) (r : WR) : Ending → World → Prop := Ret fun v w' => Ext w0 w' ∧ v = .bool (okB1 r)
omit hE in
theorem fine_3F (h : Hp [] w0 w [bx g tWc (fW r)]) (hn : ¬ OkW r) : s_alarm_fine_3 Tryz.prog (.bool true) (pr g 0) w (PoW w0 r) := by
 unfold s_alarm_fine_3
 refine If_T ?_
 exact Ret.mk ⟨h.ext, by rw [okB1_f hn]⟩
theorem fine_3 (h : Hp [] w0 w [bx g tWc (fW r)]) (hn : Nums r) (hp : Parts r) {x : Rat} (hx : r.we = tx x) (hB : RB x) (hd : x.den ∣ 1000000000000) : s_alarm_fine_3 Tryz.prog (.bool false) (pr g 0) w (PoW w0 r) := by
 obtain ⟨m, a, b, e1, e2, e3, sm, sa, sb, m0, m1, a0⟩ := hp
 have hiff := okW_iff e1 e2 e3 hx
 obtain ⟨op, ve, lim, m', a', b', st, th, sn, we, ru⟩ := r
 obtain ⟨n1, n2, n3, n4, n5, n6⟩ := hn
 simp only at e1 e2 e3 hx n1 n2 n3 n4 n5 n6
 subst e1 e2 e3 hx
 have z0 := hE.z0
 have z1 := hE.z1
 have ccI : ∀ {W : World}, Ext w0 W → Calls Tryz.prog 78 #[.int .i64 1000000] W (Ret fun r w' => Ext W w' ∧ r = str [49, 48, 48, 48, 48, 48, 48]) := fun {W} e => by
  refine (c_Itoa (w := W) (n := 1000000) (by decide) (by decide) (hE.hT.ext e)).mono ?_
  rintro _ w' ⟨_, rfl, h1, h2⟩
  rw [itoa6] at h1
  exact Ret.mk ⟨h2, h1⟩
 have cc1 := fun {W : World} (e : Ext w0 W) => k_cmp0 (w := W) hB (hE.hT.ext e)
 have cc2 := fun {W : World} (e : Ext w0 W) => k_cmpI (w := W) (n := 1000000) hB (by decide) itoa6 (hE.hT.ext e)
 have cc3 := fun {W : World} (e : Ext w0 W) => k_mul (w := W) (Sm.sr3 sb) (Sm.sr1 sm) (by decide) (by decide) (hE.hT.ext e)
 have cc4 := fun {W : World} (_ : Ext w0 W) => c_must (w := W) (p := tx (b * m))
 have hbm : RB (b * m) := (SR.mul (Sm.sr3 sb) (Sm.sr1 sm)).rb (by decide) (by decide)
 have cc5 := fun {W : World} (e : Ext w0 W) => k_cmp1 (w := W) hbm (hE.hT.ext e)
 have no : ∀ {c : Prop}, (VW 1000000 ⟨op, ve, lim, m, a, b, st, th, sn, x, ru⟩ → c) → ¬ c → ¬ OkW ⟨op, ve, lim, tx m, tx a, tx b, st, th, sn, tx x, ru⟩ := fun h1 h2 h3 => h2 (h1 (hiff.1 h3))
 have h := h
 by_cases q1 : cmpQ x 0 < 0
 ·have hno := no (fun h => h.we0) (fun h => absurd ((cmp_ge x 0).2 h) (by omega))
  unfold s_alarm_fine_3
  refine If_F (cl1 h n_strconv_Itoa (ccI h.ext) fun w h => ?_)
  refine bdS (PC.cons (by rfl) (PC.cons (by rfl) PC.nil)) (by rfl) ?_
  refine alS h fun g1 w h => ?_
  refine stA h 0 rfl rfl rfl rfl fun w h => ?_
  replace h := h.dr
  refine dfS (dlA h 1 rfl rfl ?_)
  refine dgA h ‹_› (by rfl) ?_
  refine cl1 h n_rational_Compare (cc1 h.ext) fun w h => ?_
  refine Dv_ltT (by omega) (GdP_TF (GdP_TF (GdP_TF (Gd_TF (GdP_TF (PickP_T (GdP_TF (GdP_TF (GdP_TF (GdP_TF (GdP_TF (Gd_TF (Kg_TF ?_)))))))))))))
  refine GdP_TF (GdP_TF (Gd_TF (Kg_TF ?_)))
  refine Gd_TF (GdP_TF (PickP_T (If_T ?_)))
  dsimp only [List.set] at h
  exact Ret.mk ⟨h.ext, by rw [okB1_f hno]⟩
 by_cases q2 : 0 < cmpQ x (qI 1000000)
 ·have hno := no (fun h => h.we1) (fun h => absurd ((cmp_le x (qI 1000000)).2 h) (by omega))
  unfold s_alarm_fine_3
  refine If_F (cl1 h n_strconv_Itoa (ccI h.ext) fun w h => ?_)
  refine bdS (PC.cons (by rfl) (PC.cons (by rfl) PC.nil)) (by rfl) ?_
  refine alS h fun g1 w h => ?_
  refine stA h 0 rfl rfl rfl rfl fun w h => ?_
  replace h := h.dr
  refine dfS (dlA h 1 rfl rfl ?_)
  refine dgA h ‹_› (by rfl) ?_
  refine cl1 h n_rational_Compare (cc1 h.ext) fun w h => ?_
  refine Dv_ltF (by omega) (GdP_F (dfS (GdP_F (dlA h 1 rfl rfl ?_))))
  refine GdP_F (dlA h 0 rfl rfl ?_)
  refine Gd_F (cl1 h n_rational_Compare (cc2 h.ext) fun w h => ?_)
  refine GdP_F (Dv_gtT (by omega) (PickP_F (GdP_TF (GdP_TF (GdP_TF (GdP_TF (GdP_TF (Gd_TF (Kg_TF ?_)))))))))
  refine GdP_TF (GdP_TF (Gd_TF (Kg_TF ?_)))
  refine Gd_TF (GdP_TF (PickP_T (If_T ?_)))
  dsimp only [List.set] at h
  exact Ret.mk ⟨h.ext, by rw [okB1_f hno]⟩
 by_cases q3 : 0 < cmpQ (b * m) 1
 ·have hno := no (fun h => h.bm) (fun h => absurd ((cmp_le (b * m) 1).2 h) (by omega))
  unfold s_alarm_fine_3
  refine If_F (cl1 h n_strconv_Itoa (ccI h.ext) fun w h => ?_)
  refine bdS (PC.cons (by rfl) (PC.cons (by rfl) PC.nil)) (by rfl) ?_
  refine alS h fun g1 w h => ?_
  refine stA h 0 rfl rfl rfl rfl fun w h => ?_
  replace h := h.dr
  refine dfS (dlA h 1 rfl rfl ?_)
  refine dgA h ‹_› (by rfl) ?_
  refine cl1 h n_rational_Compare (cc1 h.ext) fun w h => ?_
  refine Dv_ltF (by omega) (GdP_F (dfS (GdP_F (dlA h 1 rfl rfl ?_))))
  refine GdP_F (dlA h 0 rfl rfl ?_)
  refine Gd_F (cl1 h n_rational_Compare (cc2 h.ext) fun w h => ?_)
  refine GdP_F (Dv_gtF (by omega) (PickP_F (GdP_F (dfS (GdP_F (dlA h 1 rfl rfl ?_))))))
  refine GdP_F (dfS (GdP_F (dlA h 1 rfl rfl ?_)))
  refine GdP_F (dgA h ‹_› (by rfl) ?_)
  refine Gd_F (cl1 h n_rational_Mul (cc3 h.ext) fun w h => ?_)
  refine Kg_F ?_
  refine kgA h ‹_› (by rfl) ?_
  refine GdP_F (ExP20 (GdP_F (ExP21 (Gd_F (cl1 h n_alarm_must (cc4 h.ext) fun w h => ?_)))))
  refine Kg_F ?_
  refine kgA h ‹_› (by rfl) ?_
  refine Gd_F (cl1 h n_rational_Compare (cc5 h.ext) fun w h => ?_)
  refine GdP_F (Dv_gtT (by omega) (PickP_F (If_T ?_)))
  dsimp only [List.set] at h
  exact Ret.mk ⟨h.ext, by rw [okB1_f hno]⟩
 have p1 := (cmp_ge x 0).1 (by omega)
 have p2 := (cmp_le x (qI 1000000)).1 (by omega)
 have p3 := (cmp_le (b * m) 1).1 (by omega)
 have sx := we_sr p1 p2 hd
 have cc6 := fun {W : World} (e : Ext w0 W) => c_won (w0 := W) (hE.ext e) sx (Sm.sr1 sa) (r := ⟨op, ve, lim, tx m, tx a, tx b, st, th, sn, tx x, ru⟩) rfl rfl
 have fin : ∀ c : Bool, Alm.won x a = c → okB1 ⟨op, ve, lim, tx m, tx a, tx b, st, th, sn, tx x, ru⟩ = (ru == c) := fun c hc => by
  by_cases e : ru = c
  ·rw [okB1_t (hiff.2 ⟨n1, n2, n3, n4, n5, n6, sm, sa, sb, m0, m1, a0, p1, p2, hd, p3, e.trans hc.symm⟩), e, beq_self_eq_true]
  ·rw [okB1_f (no (fun h => h.ru) fun h => e (h.trans hc))]
   exact (beq_eq_false_iff_ne.2 e).symm
 have hB : Tryz.prog.underlying 4 = some .bool := Tryz.underlying4
 rcases hw : Alm.won x a with _ | _
 ·rw [hw] at cc6
  have fin := fin _ hw
  unfold s_alarm_fine_3
  refine If_F (cl1 h n_strconv_Itoa (ccI h.ext) fun w h => ?_)
  refine bdS (PC.cons (by rfl) (PC.cons (by rfl) PC.nil)) (by rfl) ?_
  refine alS h fun g1 w h => ?_
  refine stA h 0 rfl rfl rfl rfl fun w h => ?_
  replace h := h.dr
  refine dfS (dlA h 1 rfl rfl ?_)
  refine dgA h ‹_› (by rfl) ?_
  refine cl1 h n_rational_Compare (cc1 h.ext) fun w h => ?_
  refine Dv_ltF (by omega) (GdP_F (dfS (GdP_F (dlA h 1 rfl rfl ?_))))
  refine GdP_F (dlA h 0 rfl rfl ?_)
  refine Gd_F (cl1 h n_rational_Compare (cc2 h.ext) fun w h => ?_)
  refine GdP_F (Dv_gtF (by omega) (PickP_F (GdP_F (dfS (GdP_F (dlA h 1 rfl rfl ?_))))))
  refine GdP_F (dfS (GdP_F (dlA h 1 rfl rfl ?_)))
  refine GdP_F (dgA h ‹_› (by rfl) ?_)
  refine Gd_F (cl1 h n_rational_Mul (cc3 h.ext) fun w h => ?_)
  refine Kg_F ?_
  refine kgA h ‹_› (by rfl) ?_
  refine GdP_F (ExP20 (GdP_F (ExP21 (Gd_F (cl1 h n_alarm_must (cc4 h.ext) fun w h => ?_)))))
  refine Kg_F ?_
  refine kgA h ‹_› (by rfl) ?_
  refine Gd_F (cl1 h n_rational_Compare (cc5 h.ext) fun w h => ?_)
  refine GdP_F (Dv_gtF (by omega) (PickP_F (If_F ?_)))
  replace h := h.dr
  refine dfS (dl1 h 1 rfl rfl (dlA h 1 rfl rfl ?_))
  refine cl1 h n_alarm_won (cc6 h.ext) fun w h => ?_
  refine kl1 h 1 rfl rfl ?_
  dsimp only [List.set] at h
  refine Dv_eqB hB (d := ru == false) rfl ?_
  exact Ret.mk ⟨h.ext, by rw [fin]⟩
 ·rw [hw] at cc6
  have fin := fin _ hw
  unfold s_alarm_fine_3
  refine If_F (cl1 h n_strconv_Itoa (ccI h.ext) fun w h => ?_)
  refine bdS (PC.cons (by rfl) (PC.cons (by rfl) PC.nil)) (by rfl) ?_
  refine alS h fun g1 w h => ?_
  refine stA h 0 rfl rfl rfl rfl fun w h => ?_
  replace h := h.dr
  refine dfS (dlA h 1 rfl rfl ?_)
  refine dgA h ‹_› (by rfl) ?_
  refine cl1 h n_rational_Compare (cc1 h.ext) fun w h => ?_
  refine Dv_ltF (by omega) (GdP_F (dfS (GdP_F (dlA h 1 rfl rfl ?_))))
  refine GdP_F (dlA h 0 rfl rfl ?_)
  refine Gd_F (cl1 h n_rational_Compare (cc2 h.ext) fun w h => ?_)
  refine GdP_F (Dv_gtF (by omega) (PickP_F (GdP_F (dfS (GdP_F (dlA h 1 rfl rfl ?_))))))
  refine GdP_F (dfS (GdP_F (dlA h 1 rfl rfl ?_)))
  refine GdP_F (dgA h ‹_› (by rfl) ?_)
  refine Gd_F (cl1 h n_rational_Mul (cc3 h.ext) fun w h => ?_)
  refine Kg_F ?_
  refine kgA h ‹_› (by rfl) ?_
  refine GdP_F (ExP20 (GdP_F (ExP21 (Gd_F (cl1 h n_alarm_must (cc4 h.ext) fun w h => ?_)))))
  refine Kg_F ?_
  refine kgA h ‹_› (by rfl) ?_
  refine Gd_F (cl1 h n_rational_Compare (cc5 h.ext) fun w h => ?_)
  refine GdP_F (Dv_gtF (by omega) (PickP_F (If_F ?_)))
  replace h := h.dr
  refine dfS (dl1 h 1 rfl rfl (dlA h 1 rfl rfl ?_))
  refine cl1 h n_alarm_won (cc6 h.ext) fun w h => ?_
  refine kl1 h 1 rfl rfl ?_
  dsimp only [List.set] at h
  refine Dv_eqB hB (d := ru == true) rfl ?_
  exact Ret.mk ⟨h.ext, by rw [fin]⟩
theorem fine_2 (hk : WRk r) {b1 b2 : Bool} (h1 : b1 = true ↔ Nums r) (h2 : b2 = true ↔ Parts r) (h : Hp [] w0 w [bx g tWc (fW r)]) : s_alarm_fine_2 Tryz.prog (pr g 0) (.bool b1) (.bool b2) w (PoW w0 r) := by
 have lfF := fun {w : World} (h : Hp [] w0 w [bx g tWc (fW r)]) (hn : ¬ OkW r) => fine_3F (r := r) h hn
 have hA := fun {W : World} (e : Ext w0 W) => c_AtoiAll (w := W) hk.we.2 (hE.hE.ext e)
 have hv := fun {W : World} (e : Ext w0 W) => c_qValid (w := W) hk.we.1 hk.we.2 (hE.hT.ext e)
 cases b1 with
 | false =>
  have hno : ¬ OkW r := fun h => absurd (h1.2 h.nums) (by decide)
  unfold s_alarm_fine_2
  refine faS (faS (Eng.ld1 h 0 rfl rfl (Cl_i n_strconv_Atoi (hA h.ext) ?_)))
  rintro _ w' ⟨x1, ⟨v, h3, rfl⟩ | ⟨n, b, h3, rfl⟩⟩
  ·have h := h.x x1
   refine Ex2 (Un_F (Gd_TF (Gd_TF (Pick_T (Gd_TF (Gd_TF (Pick_T (Gd_TF (Gd_TF (Gd_TF (Gd_TF (Pick_T (Gd_TF (Gd_TF (Gd_TF (Pick_T ?_))))))))))))))))
   exact lfF h hno
  ·have h := h.x x1
   refine Ex2 (Un_F (Gd_TF (Gd_TF (Pick_T (Gd_TF (Gd_TF (Pick_T (Gd_TF (Gd_TF (Gd_TF (Gd_TF (Pick_T (Gd_TF (Gd_TF (Gd_TF (Pick_T ?_))))))))))))))))
   exact lfF h hno
 | true =>
 cases b2 with
 | false =>
  have hno : ¬ OkW r := fun h => absurd (h2.2 h.parts) (by decide)
  unfold s_alarm_fine_2
  refine faS (faS (Eng.ld1 h 0 rfl rfl (Cl_i n_strconv_Atoi (hA h.ext) ?_)))
  rintro _ w' ⟨x1, ⟨v, h3, rfl⟩ | ⟨n, b, h3, rfl⟩⟩
  ·have h := h.x x1
   refine Ex2 (Un_T (Gd_F (Gd_F (Un_F (Pick_F (Gd_TF (Gd_TF (Pick_T (Gd_TF (Gd_TF (Gd_TF (Gd_TF (Pick_T (Gd_TF (Gd_TF (Gd_TF (Pick_T ?_)))))))))))))))))
   exact lfF h hno
  ·have h := h.x x1
   refine Ex2 (Un_T (Gd_F (Gd_F (Un_F (Pick_F (Gd_TF (Gd_TF (Pick_T (Gd_TF (Gd_TF (Gd_TF (Gd_TF (Pick_T (Gd_TF (Gd_TF (Gd_TF (Pick_T ?_)))))))))))))))))
   exact lfF h hno
 | true =>
 have hN := h1.1 rfl
 have hP := h2.1 rfl
 by_cases ho : okR r.we.1 r.we.2
 rotate_left
 ·have hno : ¬ OkW r := fun h => by
   obtain ⟨x, hx, hB, _⟩ := h.wealth
   exact ho (by rw [hx]; exact ok_tx hB)
  have cc2 : ∀ {W : World}, Ext w0 W → Calls Tryz.prog 72 #[vR r.we] W (Ret fun r w' => Ext W w' ∧ r = .bool false) := fun {W} e => by
   have := hv e
   rw [okB_f ho] at this; exact this
  unfold s_alarm_fine_2
  refine faS (faS (Eng.ld1 h 0 rfl rfl (Cl_i n_strconv_Atoi (hA h.ext) ?_)))
  rintro _ w' ⟨x1, ⟨v, h3, rfl⟩ | ⟨n, b, h3, rfl⟩⟩
  ·have h := h.x x1
   refine Ex2 (Un_T (Gd_F (Gd_F (Un_T (Pick_F (Gd_F (Gd_F (neI_f ?_))))))))
   refine Pick_F (Gd_F (faS (Gd_F (ldA h 0 rfl rfl ?_))))
   refine Gd_F (cl1 h n_rational_Valid (cc2 h.ext) fun w h => ?_)
   refine Gd_F (Un_F (Pick_F (Gd_TF (Gd_TF (Gd_TF (Pick_T ?_))))))
   exact lfF h hno
  ·have h := h.x x1
   refine Ex2 (Un_T (Gd_F (Gd_F (Un_T (Pick_F (Gd_F (Gd_F (neI_t ?_))))))))
   refine Pick_F (Gd_TF (Gd_TF (Gd_TF (Gd_TF (Pick_T (Gd_TF (Gd_TF (Gd_TF (Pick_T ?_)))))))))
   exact lfF h hno
 have cc2 : ∀ {W : World}, Ext w0 W → Calls Tryz.prog 72 #[vR r.we] W (Ret fun r w' => Ext W w' ∧ r = .bool true) := fun {W} e => by
  have := hv e
  rw [okB_t ho] at this; exact this
 refine Exists.elim (ok_ex ho) fun x ⟨hx, hB⟩ => ?_
 have hdp := x.den_pos
 by_cases hd : x.den ∣ 1000000000000
 ·have hd1 := Nat.le_of_dvd (by decide) hd
  have hat := atoiAll_itoa (x.den : Int)
  rw [if_pos (by omega)] at hat
  have hrem : (1000000000000 : Int) % (x.den : Int) = 0 := by
   have : ((x.den : Nat) : Int) ∣ ((1000000000000 : Nat) : Int) := Int.natCast_dvd_natCast.2 hd
   exact Int.emod_eq_zero_of_dvd this
  unfold s_alarm_fine_2
  refine faS (faS (Eng.ld1 h 0 rfl rfl (Cl_i n_strconv_Atoi (hA h.ext) ?_)))
  rintro _ w' ⟨x1, ⟨v, h3, rfl⟩ | ⟨n, b, h3, rfl⟩⟩
  ·have h := h.x x1
   have hv : v = (x.den : Int) := by
    rw [hx] at h3
    have h3 : Lib.atoiAll (Lib.itoa (x.den : Int)) = .ok v := h3
    rw [hat] at h3
    cases h3; rfl
   subst hv
   refine Ex2 (Un_T (Gd_F (Gd_F (Un_T (Pick_F (Gd_F (Gd_F (neI_f ?_))))))))
   refine Pick_F (Gd_F (faS (Gd_F (ldA h 0 rfl rfl ?_))))
   refine Gd_F (cl1 h n_rational_Valid (cc2 h.ext) fun w h => ?_)
   refine Gd_F (Un_T (Pick_F (Gd_F (Gd_F (Bn_rm (by omega) (by omega) (Gd_F (Bn_neF (by omega) (Pick_F ?_))))))))
   exact fine_3 hE h hN hP hx hB hd
  ·rw [hx] at h3
   exact absurd hat (h3 _)
 ·have hno : ¬ OkW r := fun h => by
   obtain ⟨y, hy, _, hyd⟩ := h.wealth
   obtain rfl := tx_inj (hx.symm.trans hy)
   exact hd hyd
  have hat := atoiAll_itoa (x.den : Int)
  unfold s_alarm_fine_2
  refine faS (faS (Eng.ld1 h 0 rfl rfl (Cl_i n_strconv_Atoi (hA h.ext) ?_)))
  rintro _ w' ⟨x1, ⟨v, h3, rfl⟩ | ⟨n, b, h3, rfl⟩⟩
  ·have h := h.x x1
   have hv : v = (x.den : Int) ∧ (x.den : Int) ≤ 9223372036854775807 := by
    rw [hx] at h3
    have h3 : Lib.atoiAll (Lib.itoa (x.den : Int)) = .ok v := h3
    rw [hat] at h3
    split at h3
    ·next hh => cases h3; exact ⟨rfl, hh.2⟩
    ·cases h3
   have hv2 := hv.2
   have hv := hv.1
   subst hv
   have hrem : ¬ (1000000000000 : Int) % (x.den : Int) = 0 := fun hc => hd (by
    have : ((x.den : Nat) : Int) ∣ ((1000000000000 : Nat) : Int) := Int.dvd_of_emod_eq_zero hc
    exact Int.natCast_dvd_natCast.1 this)
   refine Ex2 (Un_T (Gd_F (Gd_F (Un_T (Pick_F (Gd_F (Gd_F (neI_f ?_))))))))
   refine Pick_F (Gd_F (faS (Gd_F (ldA h 0 rfl rfl ?_))))
   refine Gd_F (cl1 h n_rational_Valid (cc2 h.ext) fun w h => ?_)
   refine Gd_F (Un_T (Pick_F (Gd_F (Gd_F (Bn_rm (by omega) (by omega) (Gd_F (Bn_neT (by omega) (Pick_F ?_))))))))
   exact lfF h hno
  ·have h := h.x x1
   refine Ex2 (Un_T (Gd_F (Gd_F (Un_T (Pick_F (Gd_F (Gd_F (neI_t ?_))))))))
   refine Pick_F (Gd_TF (Gd_TF (Gd_TF (Gd_TF (Pick_T (Gd_TF (Gd_TF (Gd_TF (Pick_T ?_)))))))))
   exact lfF h hno
end
end Go.Proofs.YtnkmbjedcjcccaaGreatDoor
namespace Go.Proofs.YtnkmbjedcjcccaaGreatDoor
open Go Go.Eng Go.Proofs Go.Num Go.RowKit
open Go.Alm (Ft Wt Sm VW VA)
set_option maxRecDepth 100000
theorem smT {p : RS} {m : Int} (h : ∃ x, p = tx x ∧ Sm m x) {w0 : World} {ms : List UInt8} (hE : En w0) (hm : m = 1 ∨ m = 1000) (hms : Lib.itoa m = ms) : Calls Tryz.prog 41 #[vR p, str ms] w0 (Ret fun r w' => Ext w0 w' ∧ r = .bool true) := by
 obtain ⟨x, rfl, h⟩ := h
 exact c_smallT hE hm hms h
section
variable {w0 w : World} {r : WR} {g : Nat} (hE : En w0) (hk : WRk r)
include hE hk
set_option maxHeartbeats 4000000 in
theorem fine_1 {b1 : Bool} (h1 : b1 = true ↔ Nums r) (h : Hp [] w0 w [bx g tWc (fW r)]) : s_alarm_fine_1 Tryz.prog (pr g 0) (.bool b1) w (PoW w0 r) := by
 have z0 := hE.z0
 have z1 := hE.z1
 have go : ∀ {b2 : Bool}, (b2 = true ↔ Parts r) → ∀ {w : World}, Hp [] w0 w [bx g tWc (fW r)] → s_alarm_fine_2 Tryz.prog (pr g 0) (.bool b1) (.bool b2) w (PoW w0 r) := fun {b2} h2 {w} h => fine_2 hE hk h1 h2 h
 by_cases p1 : ∃ x, r.m = tx x ∧ Sm 1 x
 rotate_left
 ·have lfF := fun {w : World} h => go (b2 := false) ⟨fun h => (by cases h), fun ⟨m, a, b, e1, e2, e3, s1, _⟩ => absurd ⟨m, e1, s1⟩ p1⟩ (w := w) h
  have cc1 := fun {W : World} (e : Ext w0 W) => c_smallF (w0 := W) (hE.ext e) (.inl rfl) l1' hk.m p1
  unfold s_alarm_fine_1
  refine faS (ldA h 0 rfl rfl ?_)
  refine cl1 h n_alarm_small (cc1 h.ext) fun w h => ?_
  refine Gd_FT (Gd_FT (Gd_FT (Pick_F (Gd_FT (Gd_FT (Gd_FT (Pick_F (Gd_FT (Gd_FT (Gd_FT (Gd_FT (Pick_F (Gd_FT (Gd_FT (Gd_FT (Gd_FT (Pick_F (Gd_FT (Gd_FT (Gd_FT (Gd_FT (Pick_F ?_))))))))))))))))))))))
  exact lfF h
 have cc1 := fun {W : World} (e : Ext w0 W) => smT (w0 := W) p1 (hE.ext e) (.inl rfl) l1'
 by_cases p2 : ∃ x, r.a = tx x ∧ Sm 1 x
 rotate_left
 ·have lfF := fun {w : World} h => go (b2 := false) ⟨fun h => (by cases h), fun ⟨m, a, b, e1, e2, e3, s1, s2, _⟩ => absurd ⟨a, e2, s2⟩ p2⟩ (w := w) h
  have cc2 := fun {W : World} (e : Ext w0 W) => c_smallF (w0 := W) (hE.ext e) (.inl rfl) l1' hk.a p2
  unfold s_alarm_fine_1
  refine faS (ldA h 0 rfl rfl ?_)
  refine cl1 h n_alarm_small (cc1 h.ext) fun w h => ?_
  refine Gd_T (faS (Gd_T (ldA h 0 rfl rfl ?_)))
  refine Gd_T (cl1 h n_alarm_small (cc2 h.ext) fun w h => ?_)
  refine Pick_T (Gd_FT (Gd_FT (Gd_FT (Pick_F (Gd_FT (Gd_FT (Gd_FT (Gd_FT (Pick_F (Gd_FT (Gd_FT (Gd_FT (Gd_FT (Pick_F (Gd_FT (Gd_FT (Gd_FT (Gd_FT (Pick_F ?_)))))))))))))))))))
  exact lfF h
 have cc2 := fun {W : World} (e : Ext w0 W) => smT (w0 := W) p2 (hE.ext e) (.inl rfl) l1'
 by_cases p3 : ∃ x, r.b = tx x ∧ Sm 1000 x
 rotate_left
 ·have lfF := fun {w : World} h => go (b2 := false) ⟨fun h => (by cases h), fun ⟨m, a, b, e1, e2, e3, s1, s2, s3, _⟩ => absurd ⟨b, e3, s3⟩ p3⟩ (w := w) h
  have cc3 := fun {W : World} (e : Ext w0 W) => c_smallF (w0 := W) (hE.ext e) (.inr rfl) itoa3 hk.b p3
  unfold s_alarm_fine_1
  refine faS (ldA h 0 rfl rfl ?_)
  refine cl1 h n_alarm_small (cc1 h.ext) fun w h => ?_
  refine Gd_T (faS (Gd_T (ldA h 0 rfl rfl ?_)))
  refine Gd_T (cl1 h n_alarm_small (cc2 h.ext) fun w h => ?_)
  refine Pick_T (Gd_T (faS (Gd_T (ldA h 0 rfl rfl ?_))))
  refine Gd_T (cl1 h n_alarm_small (cc3 h.ext) fun w h => ?_)
  refine Pick_T (Gd_FT (Gd_FT (Gd_FT (Gd_FT (Pick_F (Gd_FT (Gd_FT (Gd_FT (Gd_FT (Pick_F (Gd_FT (Gd_FT (Gd_FT (Gd_FT (Pick_F ?_)))))))))))))))
  exact lfF h
 have cc3 := fun {W : World} (e : Ext w0 W) => smT (w0 := W) p3 (hE.ext e) (.inr rfl) itoa3
 obtain ⟨m, hm, sm⟩ := p1
 obtain ⟨a, ha, sa⟩ := p2
 obtain ⟨b, hb, sb⟩ := p3
 have k0 := eq0 m
 have k1 := eq1 m
 have k2 := eq0 a
 rw [← hm] at k0 k1
 rw [← ha] at k2
 by_cases m0 : m = 0
 ·have lfF := fun {w : World} h => go (b2 := false) ⟨fun h => (by cases h), fun ⟨m', a', b', e1, e2, e3, s1, s2, s3, q1, q2, q3⟩ => absurd m0 (by rw [tx_inj (hm.symm.trans e1)]; exact q1)⟩ (w := w) h
  rw [decide_eq_true m0] at k0
  unfold s_alarm_fine_1
  refine faS (ldA h 0 rfl rfl ?_)
  refine cl1 h n_alarm_small (cc1 h.ext) fun w h => ?_
  refine Gd_T (faS (Gd_T (ldA h 0 rfl rfl ?_)))
  refine Gd_T (cl1 h n_alarm_small (cc2 h.ext) fun w h => ?_)
  refine Pick_T (Gd_T (faS (Gd_T (ldA h 0 rfl rfl ?_))))
  refine Gd_T (cl1 h n_alarm_small (cc3 h.ext) fun w h => ?_)
  refine Pick_T (Gd_T (faS (Gd_T (ldA h 0 rfl rfl ?_))))
  refine Gd_T (lgA h ‹_› (by rfl) ?_)
  refine Gd_T (qNeF ‹_› ?_)
  refine Pick_T (Gd_FT (Gd_FT (Gd_FT (Gd_FT (Pick_F (Gd_FT (Gd_FT (Gd_FT (Gd_FT (Pick_F ?_))))))))))
  exact lfF h
 rw [decide_eq_false m0] at k0
 by_cases m1 : m = 1
 ·have lfF := fun {w : World} h => go (b2 := false) ⟨fun h => (by cases h), fun ⟨m', a', b', e1, e2, e3, s1, s2, s3, q1, q2, q3⟩ => absurd m1 (by rw [tx_inj (hm.symm.trans e1)]; exact q2)⟩ (w := w) h
  rw [decide_eq_true m1] at k1
  unfold s_alarm_fine_1
  refine faS (ldA h 0 rfl rfl ?_)
  refine cl1 h n_alarm_small (cc1 h.ext) fun w h => ?_
  refine Gd_T (faS (Gd_T (ldA h 0 rfl rfl ?_)))
  refine Gd_T (cl1 h n_alarm_small (cc2 h.ext) fun w h => ?_)
  refine Pick_T (Gd_T (faS (Gd_T (ldA h 0 rfl rfl ?_))))
  refine Gd_T (cl1 h n_alarm_small (cc3 h.ext) fun w h => ?_)
  refine Pick_T (Gd_T (faS (Gd_T (ldA h 0 rfl rfl ?_))))
  refine Gd_T (lgA h ‹_› (by rfl) ?_)
  refine Gd_T (qNeT ‹_› ?_)
  refine Pick_T (Gd_T (faS (Gd_T (ldA h 0 rfl rfl ?_))))
  refine Gd_T (lgA h ‹_› (by rfl) ?_)
  refine Gd_T (qNeF ‹_› ?_)
  refine Pick_T (Gd_FT (Gd_FT (Gd_FT (Gd_FT (Pick_F ?_)))))
  exact lfF h
 rw [decide_eq_false m1] at k1
 by_cases a0 : a = 0
 ·have lfF := fun {w : World} h => go (b2 := false) ⟨fun h => (by cases h), fun ⟨m', a', b', e1, e2, e3, s1, s2, s3, q1, q2, q3⟩ => absurd a0 (by rw [tx_inj (ha.symm.trans e2)]; exact q3)⟩ (w := w) h
  rw [decide_eq_true a0] at k2
  unfold s_alarm_fine_1
  refine faS (ldA h 0 rfl rfl ?_)
  refine cl1 h n_alarm_small (cc1 h.ext) fun w h => ?_
  refine Gd_T (faS (Gd_T (ldA h 0 rfl rfl ?_)))
  refine Gd_T (cl1 h n_alarm_small (cc2 h.ext) fun w h => ?_)
  refine Pick_T (Gd_T (faS (Gd_T (ldA h 0 rfl rfl ?_))))
  refine Gd_T (cl1 h n_alarm_small (cc3 h.ext) fun w h => ?_)
  refine Pick_T (Gd_T (faS (Gd_T (ldA h 0 rfl rfl ?_))))
  refine Gd_T (lgA h ‹_› (by rfl) ?_)
  refine Gd_T (qNeT ‹_› ?_)
  refine Pick_T (Gd_T (faS (Gd_T (ldA h 0 rfl rfl ?_))))
  refine Gd_T (lgA h ‹_› (by rfl) ?_)
  refine Gd_T (qNeT ‹_› ?_)
  refine Pick_T (Gd_T (faS (Gd_T (ldA h 0 rfl rfl ?_))))
  refine Gd_T (lgA h ‹_› (by rfl) ?_)
  refine Gd_T (qNeF ‹_› ?_)
  refine Pick_T ?_
  exact lfF h
 rw [decide_eq_false a0] at k2
 have lfT := fun {w : World} h => go (b2 := true) ⟨fun _ => ⟨m, a, b, hm, ha, hb, sm, sa, sb, m0, m1, a0⟩, fun _ => rfl⟩ (w := w) h
 unfold s_alarm_fine_1
 refine faS (ldA h 0 rfl rfl ?_)
 refine cl1 h n_alarm_small (cc1 h.ext) fun w h => ?_
 refine Gd_T (faS (Gd_T (ldA h 0 rfl rfl ?_)))
 refine Gd_T (cl1 h n_alarm_small (cc2 h.ext) fun w h => ?_)
 refine Pick_T (Gd_T (faS (Gd_T (ldA h 0 rfl rfl ?_))))
 refine Gd_T (cl1 h n_alarm_small (cc3 h.ext) fun w h => ?_)
 refine Pick_T (Gd_T (faS (Gd_T (ldA h 0 rfl rfl ?_))))
 refine Gd_T (lgA h ‹_› (by rfl) ?_)
 refine Gd_T (qNeT ‹_› ?_)
 refine Pick_T (Gd_T (faS (Gd_T (ldA h 0 rfl rfl ?_))))
 refine Gd_T (lgA h ‹_› (by rfl) ?_)
 refine Gd_T (qNeT ‹_› ?_)
 refine Pick_T (Gd_T (faS (Gd_T (ldA h 0 rfl rfl ?_))))
 refine Gd_T (lgA h ‹_› (by rfl) ?_)
 refine Gd_T (qNeT ‹_› ?_)
 refine Pick_T ?_
 exact lfT h
omit hk in
set_option maxHeartbeats 4000000 in
theorem c_fine (hk : WRk r) : Calls Tryz.prog 44 #[vW r] w0 (PoW w0 r) := by
 apply e_alarm_fine
 apply u_alarm_fine
 have go : ∀ {b1 : Bool}, (b1 = true ↔ Nums r) → ∀ {g : Nat} {w : World}, Hp [] w0 w [bx g tWc (fW r)] → s_alarm_fine_1 Tryz.prog (pr g 0) (.bool b1) w (PoW w0 r) := fun {b1} h1 {g} {w} h => fine_1 hE hk h1 h
 obtain ⟨op, ve, lim, m', a', b', st, th, sn, we, ru⟩ := r
 by_cases n1 : 0 ≤ op ∧ op ≤ 11
 rotate_left
 ·have cc1 := fun {W : World} (_ : Ext w0 W) => c_inF (w := W) n1
  have lfF := fun {g : Nat} {w : World} h => go (b1 := false) ⟨fun h => (by cases h), fun h => absurd h.1 n1⟩ (g := g) (w := w) h
  unfold s_alarm_fine_0
  have h := Hp.init [] w0
  refine bxA h fun g1 w h => ?_
  refine faS (Eng.ld1 h 0 rfl rfl (cl1 h n_alarm_in (cc1 h.ext) fun w h => ?_))
  refine Gd_FT (Gd_FT (Gd_FT (Pick_F (Gd_FT (Gd_FT (Gd_FT (Pick_F (Gd_FT (Gd_FT (Gd_FT (Pick_F (Gd_FT (Gd_FT (Gd_FT (Gd_FT (Gd_FT (Pick_F (Gd_FT (Gd_FT (Gd_FT (Pick_F ?_)))))))))))))))))))))
  exact lfF h
 have cc1 := fun {W : World} (_ : Ext w0 W) => c_inT (w := W) n1
 by_cases n2 : 0 ≤ ve ∧ ve ≤ 9
 rotate_left
 ·have cc2 := fun {W : World} (_ : Ext w0 W) => c_inF (w := W) n2
  have lfF := fun {g : Nat} {w : World} h => go (b1 := false) ⟨fun h => (by cases h), fun h => absurd h.2.1 n2⟩ (g := g) (w := w) h
  unfold s_alarm_fine_0
  have h := Hp.init [] w0
  refine bxA h fun g1 w h => ?_
  refine faS (Eng.ld1 h 0 rfl rfl (cl1 h n_alarm_in (cc1 h.ext) fun w h => ?_))
  refine Gd_T (faS (Gd_T (Eng.ld1 h 0 rfl rfl (Gd_T (cl1 h n_alarm_in (cc2 h.ext) fun w h => ?_)))))
  refine Pick_T (Gd_FT (Gd_FT (Gd_FT (Pick_F (Gd_FT (Gd_FT (Gd_FT (Pick_F (Gd_FT (Gd_FT (Gd_FT (Gd_FT (Gd_FT (Pick_F (Gd_FT (Gd_FT (Gd_FT (Pick_F ?_))))))))))))))))))
  exact lfF h
 have cc2 := fun {W : World} (_ : Ext w0 W) => c_inT (w := W) n2
 by_cases n3 : 0 ≤ lim ∧ lim ≤ 4398046511104
 rotate_left
 ·have cc3 := fun {W : World} (_ : Ext w0 W) => c_inF (w := W) n3
  have lfF := fun {g : Nat} {w : World} h => go (b1 := false) ⟨fun h => (by cases h), fun h => absurd h.2.2.1 n3⟩ (g := g) (w := w) h
  unfold s_alarm_fine_0
  have h := Hp.init [] w0
  refine bxA h fun g1 w h => ?_
  refine faS (Eng.ld1 h 0 rfl rfl (cl1 h n_alarm_in (cc1 h.ext) fun w h => ?_))
  refine Gd_T (faS (Gd_T (Eng.ld1 h 0 rfl rfl (Gd_T (cl1 h n_alarm_in (cc2 h.ext) fun w h => ?_)))))
  refine Pick_T (Gd_T (faS (Gd_T (Eng.ld1 h 0 rfl rfl (Gd_T (cl1 h n_alarm_in (cc3 h.ext) fun w h => ?_))))))
  refine Pick_T (Gd_FT (Gd_FT (Gd_FT (Pick_F (Gd_FT (Gd_FT (Gd_FT (Gd_FT (Gd_FT (Pick_F (Gd_FT (Gd_FT (Gd_FT (Pick_F ?_))))))))))))))
  exact lfF h
 have cc3 := fun {W : World} (_ : Ext w0 W) => c_inT (w := W) n3
 by_cases n4 : -1 ≤ st ∧ st ≤ 999
 rotate_left
 ·have cc4 := fun {W : World} (_ : Ext w0 W) => c_inF (w := W) n4
  have lfF := fun {g : Nat} {w : World} h => go (b1 := false) ⟨fun h => (by cases h), fun h => absurd h.2.2.2.1 n4⟩ (g := g) (w := w) h
  unfold s_alarm_fine_0
  have h := Hp.init [] w0
  refine bxA h fun g1 w h => ?_
  refine faS (Eng.ld1 h 0 rfl rfl (cl1 h n_alarm_in (cc1 h.ext) fun w h => ?_))
  refine Gd_T (faS (Gd_T (Eng.ld1 h 0 rfl rfl (Gd_T (cl1 h n_alarm_in (cc2 h.ext) fun w h => ?_)))))
  refine Pick_T (Gd_T (faS (Gd_T (Eng.ld1 h 0 rfl rfl (Gd_T (cl1 h n_alarm_in (cc3 h.ext) fun w h => ?_))))))
  refine Pick_T (Gd_T (faS (Gd_T (Eng.ld1 h 0 rfl rfl (Gd_T (cl1 h n_alarm_in (cc4 h.ext) fun w h => ?_))))))
  refine Pick_T (Gd_FT (Gd_FT (Gd_FT (Gd_FT (Gd_FT (Pick_F (Gd_FT (Gd_FT (Gd_FT (Pick_F ?_))))))))))
  exact lfF h
 have cc4 := fun {W : World} (_ : Ext w0 W) => c_inT (w := W) n4
 by_cases n5 : st ≤ th ∧ th ≤ 999
 rotate_left
 ·have cc5 := fun {W : World} (_ : Ext w0 W) => c_inF (w := W) n5
  have lfF := fun {g : Nat} {w : World} h => go (b1 := false) ⟨fun h => (by cases h), fun h => absurd h.2.2.2.2.1 n5⟩ (g := g) (w := w) h
  unfold s_alarm_fine_0
  have h := Hp.init [] w0
  refine bxA h fun g1 w h => ?_
  refine faS (Eng.ld1 h 0 rfl rfl (cl1 h n_alarm_in (cc1 h.ext) fun w h => ?_))
  refine Gd_T (faS (Gd_T (Eng.ld1 h 0 rfl rfl (Gd_T (cl1 h n_alarm_in (cc2 h.ext) fun w h => ?_)))))
  refine Pick_T (Gd_T (faS (Gd_T (Eng.ld1 h 0 rfl rfl (Gd_T (cl1 h n_alarm_in (cc3 h.ext) fun w h => ?_))))))
  refine Pick_T (Gd_T (faS (Gd_T (Eng.ld1 h 0 rfl rfl (Gd_T (cl1 h n_alarm_in (cc4 h.ext) fun w h => ?_))))))
  refine Pick_T (Gd_T (faS (Gd_T (Eng.ld1 h 0 rfl rfl (Gd_T (faS (Gd_T (Eng.ld1 h 0 rfl rfl (Gd_T (cl1 h n_alarm_in (cc5 h.ext) fun w h => ?_))))))))))
  refine Pick_T (Gd_FT (Gd_FT (Gd_FT (Pick_F ?_))))
  exact lfF h
 have cc5 := fun {W : World} (_ : Ext w0 W) => c_inT (w := W) n5
 by_cases n6 : 0 ≤ sn ∧ sn ≤ 1000000
 rotate_left
 ·have cc6 := fun {W : World} (_ : Ext w0 W) => c_inF (w := W) n6
  have lfF := fun {g : Nat} {w : World} h => go (b1 := false) ⟨fun h => (by cases h), fun h => absurd h.2.2.2.2.2 n6⟩ (g := g) (w := w) h
  unfold s_alarm_fine_0
  have h := Hp.init [] w0
  refine bxA h fun g1 w h => ?_
  refine faS (Eng.ld1 h 0 rfl rfl (cl1 h n_alarm_in (cc1 h.ext) fun w h => ?_))
  refine Gd_T (faS (Gd_T (Eng.ld1 h 0 rfl rfl (Gd_T (cl1 h n_alarm_in (cc2 h.ext) fun w h => ?_)))))
  refine Pick_T (Gd_T (faS (Gd_T (Eng.ld1 h 0 rfl rfl (Gd_T (cl1 h n_alarm_in (cc3 h.ext) fun w h => ?_))))))
  refine Pick_T (Gd_T (faS (Gd_T (Eng.ld1 h 0 rfl rfl (Gd_T (cl1 h n_alarm_in (cc4 h.ext) fun w h => ?_))))))
  refine Pick_T (Gd_T (faS (Gd_T (Eng.ld1 h 0 rfl rfl (Gd_T (faS (Gd_T (Eng.ld1 h 0 rfl rfl (Gd_T (cl1 h n_alarm_in (cc5 h.ext) fun w h => ?_))))))))))
  refine Pick_T (Gd_T (faS (Gd_T (Eng.ld1 h 0 rfl rfl (Gd_T (cl1 h n_alarm_in (cc6 h.ext) fun w h => ?_))))))
  refine Pick_T ?_
  exact lfF h
 have cc6 := fun {W : World} (_ : Ext w0 W) => c_inT (w := W) n6
 have lfF := fun {g : Nat} {w : World} h => go (b1 := true) ⟨fun _ => ⟨n1, n2, n3, n4, n5, n6⟩, fun _ => rfl⟩ (g := g) (w := w) h
 unfold s_alarm_fine_0
 have h := Hp.init [] w0
 refine bxA h fun g1 w h => ?_
 refine faS (Eng.ld1 h 0 rfl rfl (cl1 h n_alarm_in (cc1 h.ext) fun w h => ?_))
 refine Gd_T (faS (Gd_T (Eng.ld1 h 0 rfl rfl (Gd_T (cl1 h n_alarm_in (cc2 h.ext) fun w h => ?_)))))
 refine Pick_T (Gd_T (faS (Gd_T (Eng.ld1 h 0 rfl rfl (Gd_T (cl1 h n_alarm_in (cc3 h.ext) fun w h => ?_))))))
 refine Pick_T (Gd_T (faS (Gd_T (Eng.ld1 h 0 rfl rfl (Gd_T (cl1 h n_alarm_in (cc4 h.ext) fun w h => ?_))))))
 refine Pick_T (Gd_T (faS (Gd_T (Eng.ld1 h 0 rfl rfl (Gd_T (faS (Gd_T (Eng.ld1 h 0 rfl rfl (Gd_T (cl1 h n_alarm_in (cc5 h.ext) fun w h => ?_))))))))))
 refine Pick_T (Gd_T (faS (Gd_T (Eng.ld1 h 0 rfl rfl (Gd_T (cl1 h n_alarm_in (cc6 h.ext) fun w h => ?_))))))
 refine Pick_T ?_
 exact lfF h
end
section
variable {w0 : World} {p : RS} {m : Int} (hm : m = 1 ∨ m = 1000)
include hm
end
section
variable {w0 : World} {x y : Rat} {a b c d k : Nat}
end
end Go.Proofs.YtnkmbjedcjcccaaGreatDoor
