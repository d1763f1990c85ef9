/-
  Contracts of functions of the program, and plain lemmas on numbers and strings. By an AI agent.
-/
import Derived.Test.YtocilcjojdjfdaaGreatDoorLaw
set_option linter.unusedSimpArgs false
set_option linter.unusedVariables false
namespace Go.Proofs.YtocilcjojdjfdaaGreatDoor
open Go Go.Eng Go.Proofs Go.Num Go.RowKit
set_option maxRecDepth 100000
set_option linter.unusedVariables false
theorem cmpI_lt {x y : Int} (h : x < y) : cmpI x y = -1 := by unfold cmpI; rw [if_pos h]
theorem cmpI_gt {x y : Int} (h : y < x) : cmpI x y = 1 := by unfold cmpI; rw [if_neg (by omega), if_pos (by omega)]
theorem cmpI_eq {x y : Int} (h : x = y) : cmpI x y = 0 := by unfold cmpI; rw [if_neg (by omega), if_neg (by omega)]
theorem cmpI_ge {x y : Int} (h : y ≤ x) : 0 ≤ cmpI x y := by
  rcases Int.lt_or_eq_of_le h with h | h
  · rw [cmpI_gt h]; decide
  · rw [cmpI_eq h.symm]; decide
theorem cmpI_le {x y : Int} (h : x ≤ y) : cmpI x y ≤ 0 := by
  rcases Int.lt_or_eq_of_le h with h | h
  · rw [cmpI_lt h]; decide
  · rw [cmpI_eq h]; decide
theorem is0 {y : Int} (h : y = 0) : (Lib.itoa y == [48]) = true := by rw [h, itoa0]; rfl
theorem not0 {y : Int} (h : y ≠ 0) : (Lib.itoa y == [48]) = false := by
  rw [beq_eq_false_iff_ne, ← itoa0]
  exact fun hc => h (itoa_inj hc)
theorem Sz.ediv {k : Nat} {x y : Int} (h : Sz k x) : Sz k (x / y) := Nat.lt_of_le_of_lt (Int.natAbs_ediv_le_natAbs x y) h
theorem Sz.emod {k : Nat} {x y : Int} (h : Sz k y) (hy : y ≠ 0) : Sz k (x % y) := by
  have h1 := Int.emod_nonneg x hy
  have h2 := Int.emod_lt x hy
  unfold Sz at *
  omega
theorem itoa_ok {z : Int} (h : z.natAbs < MaxI) : (Lib.itoa z).length ≤ 1000000 := by have := itoa_length h; omega
theorem valid_ok {z : Int} (h : z.natAbs < MaxI) : validB (Lib.itoa z) = true := by rw [valid_itoa]; exact decide_eq_true h
theorem k_Valid {z : Int} {w : World} (h : z.natAbs < MaxI) : Calls Tryz.prog 19 #[str (Lib.itoa z)] w (Ret fun r w' => Ext w w' ∧ r = .bool true) := sanV (itoa_ok h) (valid_ok h)
theorem m0 : (0 : Int).natAbs < MaxI := small_MaxI (by decide)
theorem m1 : (1 : Int).natAbs < MaxI := small_MaxI (by decide)
theorem law_Divided {a b : List UInt8} {w : World} (ht : Tab w) :
    Calls Tryz.prog 4 #[str a, str b] w (Ret fun r w' => Ext w w' ∧ r = .bool true) := by
  apply e_law03_IntegerDivided
  unfold s_law03_IntegerDivided
  refine Cl1 n_law03_sane (c_sane ht) fun w1 x1 => ?_
  refine Cl_i n_ref03_Made (c_Made (m := 90) (by decide)) ?_
  rintro _ w2 ⟨x2, x, zx, rfl⟩
  have x2 := x1.tr x2
  refine Cl_i n_ref03_Made (c_Made (m := 60) (by decide)) ?_
  rintro _ w3 ⟨x3, y, zy, rfl⟩
  have x3 := x2.tr x3
  have zx : Sz 90 x := zx
  have zy : Sz 60 y := zy
  have mx := zx.max (by decide)
  have my := zy.max (by decide)
  by_cases hy : y = 0
  · have h0 := is0 hy
    refine Cl3 n_integer_Div (by rw [hy]; exact c_Div_zero mx) fun w4 x4 => ?_
    have x4 := x3.tr x4
    ((try simp -dsimp [go_sem, h0]); repeat (simp -dsimp (disch := omega) only [w64, wu64, dlt_t, dlt_f, dle_t, dle_f, deq_t, deq_f, beq_t, beq_f, bne_t, bne_f, nlt_t, nlt_f, nle_t, nle_f, neq_t, neq_f, nbeq_t, nbeq_f, nbne_t, nbne_f, it_t, it_f, dit_t, dit_f]; try simp -dsimp [go_sem, h0]))
    exact Ret.mk ⟨x4, rfl⟩
  · have h0 := not0 hy
    have zq : Sz 90 (x / y) := zx.ediv
    have zr : Sz 60 (x % y) := zy.emod hy
    have mq := zq.max (by decide)
    have mr := zr.max (by decide)
    have mqy := (zq.mul zy).max (by decide)
    have mxy := (zx.mul zy).max (by decide)
    have r0 := Int.emod_nonneg x hy
    have r1 := Int.emod_lt x hy
    have hm : ((y.natAbs : Int)).natAbs < MaxI := by rw [Int.natAbs_natCast]; exact my
    refine Cl3 n_integer_Div (k_Div mx my hy (ht.ext x3) rfl rfl) fun w4 x4 => ?_
    have x4 := x3.tr x4
    ((try simp -dsimp [go_sem, h0]); repeat (simp -dsimp (disch := omega) only [w64, wu64, dlt_t, dlt_f, dle_t, dle_f, deq_t, deq_f, beq_t, beq_f, bne_t, bne_f, nlt_t, nlt_f, nle_t, nle_f, neq_t, neq_f, nbeq_t, nbeq_f, nbne_t, nbne_f, it_t, it_f, dit_t, dit_f]; try simp -dsimp [go_sem, h0]))
    refine Cl2 n_integer_Mul (k_Mul (s := x / y * y) mq my mqy (ht.ext x4) rfl) fun w5 x5 => ?_
    have x5 := x4.tr x5
    refine Cl2 n_integer_Add (k_Add (s := x) mqy mr mx (ht.ext x5) (Int.ediv_mul_add_emod x y)) fun w6 x6 => ?_
    have x6 := x5.tr x6
    refine Cl2 n_integer_Mul (l1 ▸ k_Mul (x := y) (y := 1) (s := y) my m1 my (ht.ext x6) (Int.mul_one y)) fun w7 x7 => ?_
    have x7 := x6.tr x7
    refine Jn2.mk fun K hK => ?_
    have g : ∀ W, Ext w W → K (str (Lib.itoa (y.natAbs : Int))) (.int .i64 0) W := by
      intro w8 x8
      refine hK _ _ _ ?_
      refine Cl2 n_integer_Mul (k_Mul (s := x * y) mx my mxy (ht.ext x8) rfl) fun w9 x9 => ?_
      have x9 := x8.tr x9
      refine Cl3 n_integer_Div (k_Div (q := x) (r := 0) mxy my hy (ht.ext x9) (Int.mul_ediv_cancel x hy) (Int.mul_emod_left x y)) fun w10 x10 => ?_
      have x10 := x9.tr x10
      have c1 := cmpI_ge r0
      ((try simp -dsimp [go_sem]); repeat (simp -dsimp (disch := omega) only [w64, wu64, dlt_t, dlt_f, dle_t, dle_f, deq_t, deq_f, beq_t, beq_f, bne_t, bne_f, nlt_t, nlt_f, nle_t, nle_f, neq_t, neq_f, nbeq_t, nbeq_f, nbne_t, nbne_f, it_t, it_f, dit_t, dit_f]; try simp -dsimp [go_sem]))
      refine Cl1 n_integer_Compare (itoa0 ▸ k_Compare (x := x % y) (y := 0) mr m0 rfl) fun w11 x11 => ?_
      have x11 := x10.tr x11
      ((try simp -dsimp [go_sem]); repeat (simp -dsimp (disch := omega) only [w64, wu64, dlt_t, dlt_f, dle_t, dle_f, deq_t, deq_f, beq_t, beq_f, bne_t, bne_f, nlt_t, nlt_f, nle_t, nle_f, neq_t, neq_f, nbeq_t, nbeq_f, nbne_t, nbne_f, it_t, it_f, dit_t, dit_f]; try simp -dsimp [go_sem]))
      refine Cl1 n_integer_Compare (k_Compare mr hm (cmpI_lt (by omega))) fun w12 x12 => ?_
      have x12 := x11.tr x12
      ((try simp -dsimp [go_sem]); repeat (simp -dsimp (disch := omega) only [w64, wu64, dlt_t, dlt_f, dle_t, dle_f, deq_t, deq_f, beq_t, beq_f, bne_t, bne_f, nlt_t, nlt_f, nle_t, nle_f, neq_t, neq_f, nbeq_t, nbeq_f, nbne_t, nbne_f, it_t, it_f, dit_t, dit_f]; try simp -dsimp [go_sem]))
      refine Cl1 n_integer_Valid (k_Valid mr) fun w13 x13 => ?_
      have x13 := x12.tr x13
      ((try simp -dsimp [go_sem, itoa0]); repeat (simp -dsimp (disch := omega) only [w64, wu64, dlt_t, dlt_f, dle_t, dle_f, deq_t, deq_f, beq_t, beq_f, bne_t, bne_f, nlt_t, nlt_f, nle_t, nle_f, neq_t, neq_f, nbeq_t, nbeq_f, nbne_t, nbne_f, it_t, it_f, dit_t, dit_f]; try simp -dsimp [go_sem, itoa0]))
      exact Ret.mk ⟨x13, rfl⟩
    by_cases h1 : y < 0
    · refine Cl1 n_integer_Compare (itoa0 ▸ k_Compare (x := y) (y := 0) my m0 (cmpI_lt h1)) fun w8 x8 => ?_
      have x8 := x7.tr x8
      ((try simp -dsimp [go_sem]); repeat (simp -dsimp (disch := omega) only [w64, wu64, dlt_t, dlt_f, dle_t, dle_f, deq_t, deq_f, beq_t, beq_f, bne_t, bne_f, nlt_t, nlt_f, nle_t, nle_f, neq_t, neq_f, nbeq_t, nbeq_f, nbne_t, nbne_f, it_t, it_f, dit_t, dit_f]; try simp -dsimp [go_sem]))
      refine Cl2 n_integer_Sub (itoa0 ▸ k_Sub (x := 0) (y := y) (s := (y.natAbs : Int)) m0 my hm (ht.ext x8) (by omega)) fun w9 x9 => ?_
      exact g _ (x8.tr x9)
    · have c2 := cmpI_ge (show (0 : Int) ≤ y by omega)
      refine Cl1 n_integer_Compare (itoa0 ▸ k_Compare (x := y) (y := 0) my m0 rfl) fun w8 x8 => ?_
      have x8 := x7.tr x8
      have e : (y.natAbs : Int) = y := by omega
      ((try simp -dsimp [go_sem]); repeat (simp -dsimp (disch := omega) only [w64, wu64, dlt_t, dlt_f, dle_t, dle_f, deq_t, deq_f, beq_t, beq_f, bne_t, bne_f, nlt_t, nlt_f, nle_t, nle_f, neq_t, neq_f, nbeq_t, nbeq_f, nbne_t, nbne_f, it_t, it_f, dit_t, dit_f]; try simp -dsimp [go_sem]))
      rw [e] at g
      exact g _ x8
end Go.Proofs.YtocilcjojdjfdaaGreatDoor
