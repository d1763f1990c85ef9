/-
  Contracts and plain lemmas. By an AI agent.
-/
import Derived.Test.YtdbcpkihokagkaaGreatDoorEsA
import Derived.Test.YtdbcpkihokagkaaGreatDoorTyp
import Derived.Test.YtdbcpkihokagkaaGreatDoorPrA
set_option linter.unusedSimpArgs false
set_option linter.unusedVariables false
set_option linter.unusedSectionVars false
namespace Go.Proofs.YtdbcpkihokagkaaGreatDoor
open Go Go.Eng Go.Proofs Go.Num Go.RowKit
set_option maxRecDepth 100000
abbrev RS := List UInt8 × List UInt8
abbrev tx (x : Rat) : RS := (Lib.itoa x.num, Lib.itoa (x.den : Int))
abbrev I64 (z : Int) : Prop := -9223372036854775808 ≤ z ∧ z ≤ 9223372036854775807
abbrev U4 := Int × Int × Int × Int
abbrev fU4 (u : U4) : List Value := [.int .i64 u.1, .int .i64 u.2.1, .int .i64 u.2.2.1, .int .i64 u.2.2.2]
abbrev vU (u : U4) : Value := .agg #[.int .i64 u.1, .int .i64 u.2.1, .int .i64 u.2.2.1, .int .i64 u.2.2.2]
abbrev UI (u : U4) : Prop := I64 u.1 ∧ I64 u.2.1 ∧ I64 u.2.2.1 ∧ I64 u.2.2.2
abbrev e3 (n : Int) : Prop := -3 ≤ n ∧ n ≤ 3
abbrev uOk (u : U4) : Prop := e3 u.1 ∧ e3 u.2.1 ∧ e3 u.2.2.1 ∧ e3 u.2.2.2
structure QT where
 p : RS
 u : U4
abbrev vQ (q : QT) : Value := .agg #[str q.p.1, str q.p.2, .int .i64 q.u.1, .int .i64 q.u.2.1, .int .i64 q.u.2.2.1, .int .i64 q.u.2.2.2]
theorem c_exponents {w : World} {u : U4} : Calls Tryz.prog 42 #[vU u] w (Ret fun r w' => Ext w w' ∧ r = vU u) := by
 apply e_unit_exponents
 unfold s_unit_exponents
 have h := Hp.init [] w
 refine bxA h fun g1 w h => ?_
 refine alS h fun g2 w h => ?_
 refine faS (Eng.ld1 h 1 rfl rfl (faS (Eng.ld1 h 1 rfl rfl (faS (Eng.ld1 h 1 rfl rfl (faS (Eng.ld1 h 1 rfl rfl (bdS (PC.cons (by rfl) (PC.cons (by rfl) (PC.cons (by rfl) (PC.cons (by rfl) PC.nil)))) (by rfl) ?_))))))))
 refine stA h 0 rfl rfl rfl rfl fun w h => ?_
 refine rcA h 0 rfl rfl ?_
 dsimp only [List.set] at h
 exact Ret.mk ⟨h.ext, rfl⟩
theorem c_unit {w : World} {u : U4} : Calls Tryz.prog 72 #[vU u] w (Ret fun r w' => Ext w w' ∧ r = vU u) := by
 apply e_unit_unit
 unfold s_unit_unit
 have h := Hp.init [] w
 refine bxA h fun g1 w h => ?_
 refine alS h fun g2 w h => ?_
 refine iaZ (by decide) (by decide) ?_
 refine Eng.ld1 h 1 rfl rfl (iaZ (by decide) (by decide) ?_)
 refine Eng.ld1 h 1 rfl rfl (iaZ (by decide) (by decide) ?_)
 refine Eng.ld1 h 1 rfl rfl (iaZ (by decide) (by decide) ?_)
 refine Eng.ld1 h 1 rfl rfl (bdS (PC.cons (by rfl) (PC.cons (by rfl) (PC.cons (by rfl) (PC.cons (by rfl) PC.nil)))) (by rfl) ?_)
 refine stA h 0 rfl rfl rfl rfl fun w h => ?_
 refine rcA h 0 rfl rfl ?_
 dsimp only [List.set] at h
 exact Ret.mk ⟨h.ext, rfl⟩
abbrev F60 (x : Rat) : Prop := SR 60 60 x
theorem itoa_neg1 {z : Int} (h : z < 0) : Lib.itoa z = 45 :: Lib.decDigits z.natAbs := by
 unfold Lib.itoa; rw [if_pos h]; try (congr 2; omega)
theorem itoa_nn1 {z : Int} (h : 0 ≤ z) : Lib.itoa z = Lib.decDigits z.natAbs := by
 unfold Lib.itoa; rw [if_neg (by omega)]; congr 1
 try omega
theorem dec_head (n : Nat) : ∃ b l, Lib.decDigits n = b :: l ∧ b ≠ 45 := by
 rcases h : Lib.decDigits n with _ | ⟨b, l⟩
 ·exact absurd h (dec_ne n)
 ·refine ⟨b, l, rfl, fun e => ?_⟩
  have := dec_isD n b (by rw [h]; simp)
  subst e
  exact absurd this (by decide)
theorem trim_itoa (z : Int) : Lib.trimPrefix (Lib.itoa z) [45] = Lib.decDigits z.natAbs := by
 by_cases h : z < 0
 ·rw [itoa_neg1 h]
  simp [Lib.trimPrefix, Lib.hasPrefix]
 ·rw [itoa_nn1 (by omega)]
  obtain ⟨b, l, e, hb⟩ := dec_head z.natAbs
  rw [e]
  have hbb : ¬ (45 : UInt8) = b := fun e => hb e.symm
  simp [Lib.trimPrefix, Lib.hasPrefix, hbb]
theorem trim_le {z : Int} : (Lib.trimPrefix (Lib.itoa z) [45]).length ≤ 60 ↔ z.natAbs < 10 ^ 60 := by
 rw [trim_itoa]; exact dec_len (by decide)
theorem c_TrimP {w : World} {s : List UInt8} : Calls Tryz.prog 39 #[str s, str [45]] w (Ret fun r w' => Ext w w' ∧ r = str (Lib.trimPrefix s [45])) := by
 refine (Tryz.strings_TrimPrefix ⟨s.toArray⟩ ⟨([45] : List UInt8).toArray⟩ w).mono ?_
 rintro e w' ⟨rfl, rfl⟩
 exact Ret.mk ⟨.refl _, rfl⟩
open Classical in
noncomputable def qv (p : RS) : Option Rat := if h : okR p.1 p.2 then some (Classical.choose h) else none
theorem qv_none {p : RS} (h : ¬ okR p.1 p.2) : qv p = none := by unfold qv; rw [dif_neg h]
theorem tx_inj {x y : Rat} (h : tx x = tx y) : x = y := by
 unfold tx at h
 simp only [Prod.mk.injEq] at h
 have h1 := itoa_inj h.1
 have h2 := itoa_inj h.2
 exact Rat.ext h1 (by omega)
theorem qv_tx {x : Rat} (h : RB x) : qv (tx x) = some x := by
 have ho : okR (tx x).1 (tx x).2 := ⟨x, rfl, rfl, h⟩
 unfold qv
 rw [dif_pos ho]
 have hs := Classical.choose_spec ho
 have : tx (Classical.choose ho) = tx x := Prod.ext hs.1.symm hs.2.1.symm
 rw [tx_inj this]
theorem qv_ex {p : RS} (h : okR p.1 p.2) : ∃ x, p = tx x ∧ RB x ∧ qv p = some x := by
 obtain ⟨x, h1, h2, h3⟩ := h
 have hp : p = tx x := Prod.ext h1 h2
 exact ⟨x, hp, h3, by rw [hp]; exact qv_tx h3⟩
open Classical in
noncomputable def fitO (p : RS) : Option Rat := (qv p).bind fun x => if F60 x then some x else none
theorem fitO_n {p : RS} (h : ¬ okR p.1 p.2) : fitO p = none := by unfold fitO; rw [qv_none h]; rfl
theorem fitO_y {x : Rat} (hx : RB x) (h : F60 x) : fitO (tx x) = some x := by unfold fitO; rw [qv_tx hx]; simp only [Option.bind_some]; rw [if_pos h]
theorem fitO_f {x : Rat} (hx : RB x) (h : ¬ F60 x) : fitO (tx x) = none := by unfold fitO; rw [qv_tx hx]; simp only [Option.bind_some]; rw [if_neg h]
theorem fitO_some {p : RS} {x : Rat} (h : fitO p = some x) : p = tx x ∧ RB x ∧ F60 x := by
 by_cases ho : okR p.1 p.2
 ·obtain ⟨y, rfl, hy, hq⟩ := qv_ex ho
  by_cases hf : F60 y
  ·rw [fitO_y hy hf] at h; cases h; exact ⟨rfl, hy, hf⟩
  ·rw [fitO_f hy hf] at h; cases h
 ·rw [fitO_n ho] at h; cases h
theorem den_le60 {x : Rat} : (Lib.itoa (x.den : Int)).length ≤ 60 ↔ Sz 60 (x.den : Int) := by
 rw [itoa_nn1 (by omega)]; exact dec_len (by decide)
section
variable {w : World} {a b c d : Int} {K : Value → World → Prop}
theorem ixU0 (hk : K (.int .i64 a) w) : Ix Tryz.prog 28 (.agg #[.int .i64 a, .int .i64 b, .int .i64 c, .int .i64 d]) (.int .i64 0) w K := by
 ((try simp -dsimp [go_sem, Tryz.underlying28]); repeat (simp -dsimp (disch := omega) only [gL, gI]; try simp -dsimp [go_sem, Tryz.underlying28])); exact hk
theorem ixU1 (hk : K (.int .i64 b) w) : Ix Tryz.prog 28 (.agg #[.int .i64 a, .int .i64 b, .int .i64 c, .int .i64 d]) (.int .i64 1) w K := by
 ((try simp -dsimp [go_sem, Tryz.underlying28]); repeat (simp -dsimp (disch := omega) only [gL, gI]; try simp -dsimp [go_sem, Tryz.underlying28])); exact hk
theorem ixU2 (hk : K (.int .i64 c) w) : Ix Tryz.prog 28 (.agg #[.int .i64 a, .int .i64 b, .int .i64 c, .int .i64 d]) (.int .i64 2) w K := by
 ((try simp -dsimp [go_sem, Tryz.underlying28]); repeat (simp -dsimp (disch := omega) only [gL, gI]; try simp -dsimp [go_sem, Tryz.underlying28])); exact hk
theorem ixU3 (hk : K (.int .i64 d) w) : Ix Tryz.prog 28 (.agg #[.int .i64 a, .int .i64 b, .int .i64 c, .int .i64 d]) (.int .i64 3) w K := by
 ((try simp -dsimp [go_sem, Tryz.underlying28]); repeat (simp -dsimp (disch := omega) only [gL, gI]; try simp -dsimp [go_sem, Tryz.underlying28])); exact hk
end
section
variable {w0 : World} {u : U4} {b : Bool}
theorem c_ValidUnit (hb : decide (uOk u) = b) : Calls Tryz.prog 15 #[vU u] w0 (Ret fun r w' => Ext w0 w' ∧ r = .bool b) := by
 have cc1 := fun {W : World} (_ : Ext w0 W) => c_exponents (w := W) (u := u)
 apply e_unit_ValidUnit
 unfold s_unit_ValidUnit
 have h := Hp.init [] w0
 refine bxA h fun g1 w h => ?_
 refine ldA h 0 rfl rfl ?_
 refine cl1 h n_unit_exponents (cc1 h.ext) fun w h => ?_
 refine Lp1.mk (fun i W => (i = .int .i64 0 ∨ (i = .int .i64 1 ∧ e3 u.1) ∨ (i = .int .i64 2 ∧ e3 u.1 ∧ e3 u.2.1) ∨ (i = .int .i64 3 ∧ e3 u.1 ∧ e3 u.2.1 ∧ e3 u.2.2.1) ∨ (i = .int .i64 4 ∧ uOk u)) ∧ Hp [] w0 W [])
  (fun i _ => match i with | .int _ i' => 4 - i'.toNat | _ => 0) ⟨.inl rfl, h.drop 1⟩ ?_
 clear h
 rintro _ W ⟨(rfl | ⟨rfl, q1⟩ | ⟨rfl, q1, q2⟩ | ⟨rfl, q1, q2, q3⟩ | ⟨rfl, q⟩), h⟩
 ·by_cases hx : e3 u.1
  ·have x1 := hx.1
   have x2 := hx.2
   refine Bn_ltT (by omega) (If_T (ixU0 ?_))
   refine Bn_ltF (by omega) (Gd_F (Gd_F (Bn_gtF (by omega) (Pick_F (If_F (Bn_ad (by omega) (by omega) ?_))))))
   refine ⟨?_, ?_⟩
   ·exact ⟨.inr (.inl ⟨rfl, hx⟩), h⟩
   ·decide
  ·have hbf : b = false := hb ▸ decide_eq_false (fun q => hx q.1)
   by_cases x1 : -3 ≤ u.1
   ·have x2 : 3 < u.1 := by omega
    refine Bn_ltT (by omega) (If_T (ixU0 ?_))
    refine Bn_ltF (by omega) (Gd_F (Gd_F (Bn_gtT (by omega) (Pick_F (If_T ?_)))))
    exact Ret.mk ⟨h.ext, by rw [hbf]⟩
   ·refine Bn_ltT (by omega) (If_T (ixU0 ?_))
    refine Bn_ltT (by omega) (Gd_TF (Gd_TF (Pick_T (If_T ?_))))
    exact Ret.mk ⟨h.ext, by rw [hbf]⟩
 ·by_cases hx : e3 u.2.1
  ·have x1 := hx.1
   have x2 := hx.2
   refine Bn_ltT (by omega) (If_T (ixU1 ?_))
   refine Bn_ltF (by omega) (Gd_F (Gd_F (Bn_gtF (by omega) (Pick_F (If_F (Bn_ad (by omega) (by omega) ?_))))))
   refine ⟨?_, ?_⟩
   ·exact ⟨.inr (.inr (.inl ⟨rfl, q1, hx⟩)), h⟩
   ·decide
  ·have hbf : b = false := hb ▸ decide_eq_false (fun q => hx q.2.1)
   by_cases x1 : -3 ≤ u.2.1
   ·have x2 : 3 < u.2.1 := by omega
    refine Bn_ltT (by omega) (If_T (ixU1 ?_))
    refine Bn_ltF (by omega) (Gd_F (Gd_F (Bn_gtT (by omega) (Pick_F (If_T ?_)))))
    exact Ret.mk ⟨h.ext, by rw [hbf]⟩
   ·refine Bn_ltT (by omega) (If_T (ixU1 ?_))
    refine Bn_ltT (by omega) (Gd_TF (Gd_TF (Pick_T (If_T ?_))))
    exact Ret.mk ⟨h.ext, by rw [hbf]⟩
 ·by_cases hx : e3 u.2.2.1
  ·have x1 := hx.1
   have x2 := hx.2
   refine Bn_ltT (by omega) (If_T (ixU2 ?_))
   refine Bn_ltF (by omega) (Gd_F (Gd_F (Bn_gtF (by omega) (Pick_F (If_F (Bn_ad (by omega) (by omega) ?_))))))
   refine ⟨?_, ?_⟩
   ·exact ⟨.inr (.inr (.inr (.inl ⟨rfl, q1, q2, hx⟩))), h⟩
   ·decide
  ·have hbf : b = false := hb ▸ decide_eq_false (fun q => hx q.2.2.1)
   by_cases x1 : -3 ≤ u.2.2.1
   ·have x2 : 3 < u.2.2.1 := by omega
    refine Bn_ltT (by omega) (If_T (ixU2 ?_))
    refine Bn_ltF (by omega) (Gd_F (Gd_F (Bn_gtT (by omega) (Pick_F (If_T ?_)))))
    exact Ret.mk ⟨h.ext, by rw [hbf]⟩
   ·refine Bn_ltT (by omega) (If_T (ixU2 ?_))
    refine Bn_ltT (by omega) (Gd_TF (Gd_TF (Pick_T (If_T ?_))))
    exact Ret.mk ⟨h.ext, by rw [hbf]⟩
 ·by_cases hx : e3 u.2.2.2
  ·have x1 := hx.1
   have x2 := hx.2
   refine Bn_ltT (by omega) (If_T (ixU3 ?_))
   refine Bn_ltF (by omega) (Gd_F (Gd_F (Bn_gtF (by omega) (Pick_F (If_F (Bn_ad (by omega) (by omega) ?_))))))
   refine ⟨?_, ?_⟩
   ·exact ⟨.inr (.inr (.inr (.inr ⟨rfl, q1, q2, q3, hx⟩))), h⟩
   ·decide
  ·have hbf : b = false := hb ▸ decide_eq_false (fun q => hx q.2.2.2)
   by_cases x1 : -3 ≤ u.2.2.2
   ·have x2 : 3 < u.2.2.2 := by omega
    refine Bn_ltT (by omega) (If_T (ixU3 ?_))
    refine Bn_ltF (by omega) (Gd_F (Gd_F (Bn_gtT (by omega) (Pick_F (If_T ?_)))))
    exact Ret.mk ⟨h.ext, by rw [hbf]⟩
   ·refine Bn_ltT (by omega) (If_T (ixU3 ?_))
    refine Bn_ltT (by omega) (Gd_TF (Gd_TF (Pick_T (If_T ?_))))
    exact Ret.mk ⟨h.ext, by rw [hbf]⟩
 ·have hbt : b = true := hb ▸ decide_eq_true q
  refine Bn_ltF (by omega) (If_F ?_)
  exact Ret.mk ⟨h.ext, by rw [hbt]⟩
end
open Classical in
noncomputable def valQ (q : QT) : Option Rat := if uOk q.u then fitO q.p else none
theorem valQ_u {q : QT} (h : ¬ uOk q.u) : (valQ q).isSome = false := by unfold valQ; rw [if_neg h]; rfl
theorem valQ_n {q : QT} (h : ¬ (Lib.trimPrefix q.p.1 [45]).length ≤ 60) : (valQ q).isSome = false := by
 unfold valQ
 split
 ·rcases hf : fitO q.p with _ | x
  ·rfl
  ·obtain ⟨hp, _, h6⟩ := fitO_some hf
   exact absurd (by rw [hp]; exact trim_le.2 h6.1) h
 ·rfl
theorem valQ_d {q : QT} (h : ¬ q.p.2.length ≤ 60) : (valQ q).isSome = false := by
 unfold valQ
 split
 ·rcases hf : fitO q.p with _ | x
  ·rfl
  ·obtain ⟨hp, _, h6⟩ := fitO_some hf
   exact absurd (by rw [hp]; exact den_le60.2 h6.2) h
 ·rfl
theorem valQ_o {q : QT} (h : ¬ okR q.p.1 q.p.2) : (valQ q).isSome = false := by
 unfold valQ
 split
 ·rw [fitO_n h]; rfl
 ·rfl
theorem valQ_y {q : QT} (hu : uOk q.u) (h1 : (Lib.trimPrefix q.p.1 [45]).length ≤ 60) (h2 : q.p.2.length ≤ 60) (ho : okR q.p.1 q.p.2) : (valQ q).isSome = true := by
 unfold valQ
 rw [if_pos hu]
 obtain ⟨x, hp, hx, _⟩ := qv_ex ho
 rw [hp] at h1 h2 ⊢
 rw [fitO_y hx ⟨trim_le.1 h1, den_le60.1 h2⟩]; rfl
theorem valQ_some {q : QT} {x : Rat} (h : valQ q = some x) : uOk q.u ∧ q.p = tx x ∧ RB x ∧ F60 x := by
 unfold valQ at h
 split at h
 ·next hu => exact ⟨hu, fitO_some h⟩
 ·cases h
structure QTk (q : QT) : Prop where
 p1 : q.p.1.length ≤ 1000000
 p2 : q.p.2.length ≤ 1000000
section
variable {w0 : World} {q : QT} {b : Bool} (hk : QTk q) (hb : (valQ q).isSome = b)
include hk hb
theorem c_ValidQ (hT : Tab w0) : Calls Tryz.prog 13 #[vQ q] w0 (Ret fun r w' => Ext w0 w' ∧ r = .bool b) := by
 have k1 := hk.p1
 have k2 := hk.p2
 by_cases hu : uOk q.u
 rotate_left
 ·have cc1 := fun {W : World} (_ : Ext w0 W) => c_ValidUnit (w0 := W) (u := q.u) (decide_eq_false hu)
  have hbf : b = false := hb ▸ valQ_u hu
  apply e_unit_Valid
  unfold s_unit_Valid
  have h := Hp.init [] w0
  refine bxA h fun g1 w h => ?_
  refine faS (ldA h 0 rfl rfl ?_)
  refine cl1 h n_unit_ValidUnit (cc1 h.ext) fun w h => ?_
  refine Gd_FT (Gd_FT (Gd_FT (Gd_FT (Gd_FT (Gd_FT (Pick_F (Gd_FT (Gd_FT (Gd_FT (Gd_FT (Gd_FT (Pick_F (Gd_FT (Gd_FT (Gd_FT (Pick_F ?_))))))))))))))))
  exact Ret.mk ⟨h.ext, by rw [hbf]⟩
 have cc1 := fun {W : World} (_ : Ext w0 W) => c_ValidUnit (w0 := W) (u := q.u) (decide_eq_true hu)
 have cc2 := fun {W : World} (_ : Ext w0 W) => c_TrimP (w := W) (s := q.p.1)
 have htl : (Lib.trimPrefix q.p.1 [45]).length ≤ q.p.1.length := by
  unfold Lib.trimPrefix; split
  ·rw [List.length_drop]; omega
  ·exact Nat.le_refl _
 by_cases h1 : (Lib.trimPrefix q.p.1 [45]).length ≤ 60
 rotate_left
 ·have hbf : b = false := hb ▸ valQ_n h1
  apply e_unit_Valid
  unfold s_unit_Valid
  have h := Hp.init [] w0
  refine bxA h fun g1 w h => ?_
  refine faS (ldA h 0 rfl rfl ?_)
  refine cl1 h n_unit_ValidUnit (cc1 h.ext) fun w h => ?_
  refine Gd_T (faS (Gd_T (faS (Gd_T (Eng.ld1 h 0 rfl rfl (Gd_T (cl1 h n_strings_TrimPrefix (cc2 h.ext) fun w h => ?_)))))))
  refine Gd_T (Bt_lenT ?_)
  refine Gd_T (Bn_leF (by omega) (Pick_T (Gd_FT (Gd_FT (Gd_FT (Gd_FT (Gd_FT (Pick_F (Gd_FT (Gd_FT (Gd_FT (Pick_F ?_))))))))))))
  exact Ret.mk ⟨h.ext, by rw [hbf]⟩
 by_cases h2 : q.p.2.length ≤ 60
 rotate_left
 ·have hbf : b = false := hb ▸ valQ_d h2
  apply e_unit_Valid
  unfold s_unit_Valid
  have h := Hp.init [] w0
  refine bxA h fun g1 w h => ?_
  refine faS (ldA h 0 rfl rfl ?_)
  refine cl1 h n_unit_ValidUnit (cc1 h.ext) fun w h => ?_
  refine Gd_T (faS (Gd_T (faS (Gd_T (Eng.ld1 h 0 rfl rfl (Gd_T (cl1 h n_strings_TrimPrefix (cc2 h.ext) fun w h => ?_)))))))
  refine Gd_T (Bt_lenT ?_)
  refine Gd_T (Bn_leT (by omega) (Pick_T (Gd_T (faS (Gd_T (faS (Gd_T (Eng.ld1 h 0 rfl rfl (Gd_T (Bt_lenT ?_))))))))))
  refine Gd_T (Bn_leF (by omega) (Pick_T (Gd_FT (Gd_FT (Gd_FT (Pick_F ?_))))))
  exact Ret.mk ⟨h.ext, by rw [hbf]⟩
 have hv : ∀ {W : World}, Ext w0 W → Calls Tryz.prog 40 #[.agg #[str q.p.1, str q.p.2]] W (Ret fun r w' => Ext W w' ∧ r = .bool (okB q.p.1 q.p.2)) := fun {W} x => c_qValid (w := W) k1 k2 (hT.ext x)
 by_cases ho : okR q.p.1 q.p.2
 ·have cc3 : ∀ {W : World}, Ext w0 W → Calls Tryz.prog 40 #[.agg #[str q.p.1, str q.p.2]] W (Ret fun r w' => Ext W w' ∧ r = .bool true) := fun {W} x => by
   have := hv x
   rw [okB_t ho] at this; exact this
  have hbt : b = true := hb ▸ valQ_y hu h1 h2 ho
  apply e_unit_Valid
  unfold s_unit_Valid
  have h := Hp.init [] w0
  refine bxA h fun g1 w h => ?_
  refine faS (ldA h 0 rfl rfl ?_)
  refine cl1 h n_unit_ValidUnit (cc1 h.ext) fun w h => ?_
  refine Gd_T (faS (Gd_T (faS (Gd_T (Eng.ld1 h 0 rfl rfl (Gd_T (cl1 h n_strings_TrimPrefix (cc2 h.ext) fun w h => ?_)))))))
  refine Gd_T (Bt_lenT ?_)
  refine Gd_T (Bn_leT (by omega) (Pick_T (Gd_T (faS (Gd_T (faS (Gd_T (Eng.ld1 h 0 rfl rfl (Gd_T (Bt_lenT ?_))))))))))
  refine Gd_T (Bn_leT (by omega) (Pick_T (Gd_T (faS (Gd_T (ldA h 0 rfl rfl ?_))))))
  refine Gd_T (cl1 h n_rational_Valid (cc3 h.ext) fun w h => ?_)
  refine Pick_T ?_
  exact Ret.mk ⟨h.ext, by rw [hbt]⟩
 ·have cc3 : ∀ {W : World}, Ext w0 W → Calls Tryz.prog 40 #[.agg #[str q.p.1, str q.p.2]] W (Ret fun r w' => Ext W w' ∧ r = .bool false) := fun {W} x => by
   have := hv x
   rw [okB_f ho] at this; exact this
  have hbf : b = false := hb ▸ valQ_o ho
  apply e_unit_Valid
  unfold s_unit_Valid
  have h := Hp.init [] w0
  refine bxA h fun g1 w h => ?_
  refine faS (ldA h 0 rfl rfl ?_)
  refine cl1 h n_unit_ValidUnit (cc1 h.ext) fun w h => ?_
  refine Gd_T (faS (Gd_T (faS (Gd_T (Eng.ld1 h 0 rfl rfl (Gd_T (cl1 h n_strings_TrimPrefix (cc2 h.ext) fun w h => ?_)))))))
  refine Gd_T (Bt_lenT ?_)
  refine Gd_T (Bn_leT (by omega) (Pick_T (Gd_T (faS (Gd_T (faS (Gd_T (Eng.ld1 h 0 rfl rfl (Gd_T (Bt_lenT ?_))))))))))
  refine Gd_T (Bn_leT (by omega) (Pick_T (Gd_T (faS (Gd_T (ldA h 0 rfl rfl ?_))))))
  refine Gd_T (cl1 h n_rational_Valid (cc3 h.ext) fun w h => ?_)
  refine Pick_T ?_
  exact Ret.mk ⟨h.ext, by rw [hbf]⟩
end
end Go.Proofs.YtdbcpkihokagkaaGreatDoor
namespace Go.Proofs.YtdbcpkihokagkaaGreatDoor
open Go Go.Eng Go.Proofs Go.Num Go.RowKit
set_option maxRecDepth 100000
section
variable {w0 : World} {p : RS} {b : Bool} (k1 : p.1.length ≤ 1000000) (k2 : p.2.length ≤ 1000000)
include k1 k2
end
section
variable {w0 : World} {q : QT} {b : Bool} (hk : QTk q) (hb : (valQ q).isSome = b)
include hk hb
end
abbrev tUn : TypeId := 25
abbrev tQy : TypeId := 27
theorem gdUn {op : BinOp} {c : Bool} {xs ys : Array Value} {w : World} : (eqG op tUn c (.agg xs) (.agg ys)).run Tryz.prog w = .ok () w := eqG_agg (by kernel_rfl)
section
variable {w : World} {K : Value → World → Prop} {c : Bool} {a b d e a' b' d' e' : Int}
theorem neU_f (hk : K (.bool false) w) : Bn Tryz.prog .neq tUn c (.agg #[.int .i64 a, .int .i64 b, .int .i64 d, .int .i64 e]) (.agg #[.int .i64 a, .int .i64 b, .int .i64 d, .int .i64 e]) w K := by
 ((try simp -dsimp [go_sem, gdUn]); repeat (simp -dsimp (disch := omega) only [gL, gI]; try simp -dsimp [go_sem, gdUn])); exact hk
theorem neU_t (h : a ≠ a' ∨ b ≠ b' ∨ d ≠ d' ∨ e ≠ e') (hk : K (.bool true) w) : Bn Tryz.prog .neq tUn c (.agg #[.int .i64 a, .int .i64 b, .int .i64 d, .int .i64 e]) (.agg #[.int .i64 a', .int .i64 b', .int .i64 d', .int .i64 e']) w K := by
 by_cases h1 : a = a'
 ·subst h1
  by_cases h2 : b = b'
  ·subst h2
   by_cases h3 : d = d'
   ·subst h3
    have h4 : e ≠ e' := by simpa using h
    ((try simp -dsimp [go_sem, gdUn, h4]); repeat (simp -dsimp (disch := omega) only [gL, gI]; try simp -dsimp [go_sem, gdUn, h4])); exact hk
   ·((try simp -dsimp [go_sem, gdUn, h3]); repeat (simp -dsimp (disch := omega) only [gL, gI]; try simp -dsimp [go_sem, gdUn, h3])); exact hk
  ·((try simp -dsimp [go_sem, gdUn, h2]); repeat (simp -dsimp (disch := omega) only [gL, gI]; try simp -dsimp [go_sem, gdUn, h2])); exact hk
 ·((try simp -dsimp [go_sem, gdUn, h1]); repeat (simp -dsimp (disch := omega) only [gL, gI]; try simp -dsimp [go_sem, gdUn, h1])); exact hk
end
end Go.Proofs.YtdbcpkihokagkaaGreatDoor
