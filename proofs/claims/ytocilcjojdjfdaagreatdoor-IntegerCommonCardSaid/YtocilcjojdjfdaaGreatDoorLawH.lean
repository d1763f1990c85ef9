/-
  Contracts of functions of the program, and plain lemmas on numbers and strings. By an AI agent.
-/
import Derived.Test.YtocilcjojdjfdaaGreatDoorLawG
set_option linter.unusedSimpArgs false
set_option linter.unusedVariables false
namespace Go.Proofs.YtocilcjojdjfdaaGreatDoor
open Go Go.Eng Go.Proofs Go.Num Go.RowKit
set_option maxRecDepth 100000
set_option linter.unusedVariables false
theorem Sz.gcd {k : Nat} {x y : Int} (hx : Sz k x) (hy : Sz k y) : Sz k (x.gcd y : Int) := by
  unfold Sz at *
  rw [Int.natAbs_natCast]
  by_cases h : x = 0
  · by_cases h2 : y = 0
    · rw [h, h2]; exact Nat.pow_pos (by decide)
    · have := Int.gcd_le_natAbs_right x h2; omega
  · have := Int.gcd_le_natAbs_left y h; omega
theorem law_Common {a b c : List UInt8} {w : World} (ht : Tab w) :
    Calls Tryz.prog 5 #[str a, str b, str c] w (Ret fun r w' => Ext w w' ∧ r = .bool true) := by
  apply e_law03_IntegerCommon
  unfold s_law03_IntegerCommon
  refine Cl1 n_law03_sane (c_sane ht) fun w1 x1 => ?_
  refine Cl_i n_ref03_Made (c_Made (m := 40) (by decide)) ?_
  rintro _ w2 ⟨x2, x, zx, rfl⟩
  have x2 := x1.tr x2
  refine Cl_i n_ref03_Made (c_Made (m := 40) (by decide)) ?_
  rintro _ w3 ⟨x3, y, zy, rfl⟩
  have x3 := x2.tr x3
  refine Cl_i n_ref03_Made (c_Made (m := 40) (by decide)) ?_
  rintro _ w4 ⟨x4, z, zz, rfl⟩
  have x4 := x3.tr x4
  have zx : Sz 40 x := zx
  have zy : Sz 40 y := zy
  have zz : Sz 40 z := zz
  have zg := zx.gcd zy
  have mx := zx.max (by decide)
  have my := zy.max (by decide)
  have mz := zz.max (by decide)
  have mg := zg.max (by decide)
  refine Cl2 n_integer_Gcd (k_Gcd (s := (x.gcd y : Int)) mx my mg (ht.ext x4) rfl) fun w5 x5 => ?_
  have x5 := x4.tr x5
  refine Cl2 n_integer_Gcd (k_Gcd (s := (x.gcd y : Int)) my mx mg (ht.ext x5) (by rw [Int.gcd_comm])) fun w6 x6 => ?_
  have x6 := x5.tr x6
  have c1 := cmpI_ge (show (0 : Int) ≤ (x.gcd y : Int) by omega)
  ((try simp -dsimp [go_sem]); repeat (simp -dsimp (disch := omega) only [w64, wu64, dlt_t, dlt_f, dle_t, dle_f, deq_t, deq_f, beq_t, beq_f, bne_t, bne_f, nlt_t, nlt_f, nle_t, nle_f, neq_t, neq_f, nbeq_t, nbeq_f, nbne_t, nbne_f, it_t, it_f, dit_t, dit_f]; try simp -dsimp [go_sem]))
  refine Cl1 n_integer_Compare (itoa0 ▸ k_Compare (x := (x.gcd y : Int)) (y := 0) mg m0 rfl) fun w7 x7 => ?_
  have x7 := x6.tr x7
  by_cases hx : x = 0
  · have e1 := is0 hx
    by_cases hy : y = 0
    · have e2 := is0 hy
      have e3 : (Lib.itoa (x.gcd y : Int) == [48]) = true := is0 (by rw [hx, hy]; rfl)
      ((try simp -dsimp [go_sem, e1, e2, e3]); repeat (simp -dsimp (disch := omega) only [w64, wu64, dlt_t, dlt_f, dle_t, dle_f, deq_t, deq_f, beq_t, beq_f, bne_t, bne_f, nlt_t, nlt_f, nle_t, nle_f, neq_t, neq_f, nbeq_t, nbeq_f, nbne_t, nbne_f, it_t, it_f, dit_t, dit_f]; try simp -dsimp [go_sem, e1, e2, e3]))
      exact Ret.mk ⟨x7, rfl⟩
    · have e2 := not0 hy
      ((try simp -dsimp [go_sem, e1, e2]); repeat (simp -dsimp (disch := omega) only [w64, wu64, dlt_t, dlt_f, dle_t, dle_f, deq_t, deq_f, beq_t, beq_f, bne_t, bne_f, nlt_t, nlt_f, nle_t, nle_f, neq_t, neq_f, nbeq_t, nbeq_f, nbne_t, nbne_f, it_t, it_f, dit_t, dit_f]; try simp -dsimp [go_sem, e1, e2]))
      have hd : 0 < x.gcd y := Int.gcd_pos_iff.2 (.inr hy)
      have hg0 : (x.gcd y : Int) ≠ 0 := by omega
      have dx : (x.gcd y : Int) ∣ x := Int.gcd_dvd_left x y
      have dy : (x.gcd y : Int) ∣ y := Int.gcd_dvd_right x y
      have mqx := (zx.ediv (y := (x.gcd y : Int))).max (by decide)
      have mqy := (zy.ediv (y := (x.gcd y : Int))).max (by decide)
      have hz1 : ((((x * z).gcd (y * z) : Nat)) : Int) = (((x.gcd y : Int) * z).natAbs : Int) := by rw [Int.gcd_mul_right, Int.natAbs_mul, Int.natAbs_natCast]
      have mgz := (zg.mul zz).max (by decide)
      have mgn : ((((x.gcd y : Int) * z).natAbs : Int)).natAbs < MaxI := by rw [Int.natAbs_natCast]; exact mgz
      have mxz := (zx.mul zz).max (by decide)
      have myz := (zy.mul zz).max (by decide)
      refine Cl3 n_integer_Div (k_Div (r := 0) mx mg hg0 (ht.ext x7) rfl (Int.emod_eq_zero_of_dvd dx)) fun w8 x8 => ?_
      have x8 := x7.tr x8
      refine Cl3 n_integer_Div (k_Div (r := 0) my mg hg0 (ht.ext x8) rfl (Int.emod_eq_zero_of_dvd dy)) fun w9 x9 => ?_
      have x9 := x8.tr x9
      refine Cl2 n_integer_Gcd (k_Gcd (s := 1) mqx mqy m1 (ht.ext x9) (by rw [Int.gcd_ediv_gcd_ediv_gcd hd]; rfl)) fun w10 x10 => ?_
      have x10 := x9.tr x10
      refine Cl2 n_integer_Mul (k_Mul (s := x * z) mx mz mxz (ht.ext x10) rfl) fun w11 x11 => ?_
      have x11 := x10.tr x11
      refine Cl2 n_integer_Mul (k_Mul (s := y * z) my mz myz (ht.ext x11) rfl) fun w12 x12 => ?_
      have x12 := x11.tr x12
      refine Cl2 n_integer_Gcd (k_Gcd (s := (((x.gcd y : Int) * z).natAbs : Int)) mxz myz mgn (ht.ext x12) hz1) fun w13 x13 => ?_
      have x13 := x12.tr x13
      refine Cl2 n_integer_Mul (k_Mul (s := (x.gcd y : Int) * z) mg mz mgz (ht.ext x13) rfl) fun w14 x14 => ?_
      have x14 := x13.tr x14
      refine Jn2.mk fun K hK => ?_
      have g : ∀ W, Ext w W → K (str (Lib.itoa (((x.gcd y : Int) * z).natAbs : Int))) (.int .i64 0) W := by
        intro w15 x15
        refine hK _ _ _ ?_
        ((try simp -dsimp [go_sem, itoa0, l1]); repeat (simp -dsimp (disch := omega) only [w64, wu64, dlt_t, dlt_f, dle_t, dle_f, deq_t, deq_f, beq_t, beq_f, bne_t, bne_f, nlt_t, nlt_f, nle_t, nle_f, neq_t, neq_f, nbeq_t, nbeq_f, nbne_t, nbne_f, it_t, it_f, dit_t, dit_f]; try simp -dsimp [go_sem, itoa0, l1]))
        exact Ret.mk ⟨x15, rfl⟩
      by_cases h1 : (x.gcd y : Int) * z < 0
      · refine Cl1 n_integer_Compare (itoa0 ▸ k_Compare (x := (x.gcd y : Int) * z) (y := 0) mgz m0 (cmpI_lt h1)) fun w15 x15 => ?_
        have x15 := x14.tr x15
        ((try simp -dsimp [go_sem]); repeat (simp -dsimp (disch := omega) only [w64, wu64, dlt_t, dlt_f, dle_t, dle_f, deq_t, deq_f, beq_t, beq_f, bne_t, bne_f, nlt_t, nlt_f, nle_t, nle_f, neq_t, neq_f, nbeq_t, nbeq_f, nbne_t, nbne_f, it_t, it_f, dit_t, dit_f]; try simp -dsimp [go_sem]))
        refine Cl2 n_integer_Sub (itoa0 ▸ k_Sub (x := 0) (y := (x.gcd y : Int) * z) (s := (((x.gcd y : Int) * z).natAbs : Int)) m0 mgz mgn (ht.ext x15) (by omega)) fun w16 x16 => ?_
        exact g _ (x15.tr x16)
      · have c2 := cmpI_ge (show (0 : Int) ≤ (x.gcd y : Int) * z by omega)
        refine Cl1 n_integer_Compare (itoa0 ▸ k_Compare (x := (x.gcd y : Int) * z) (y := 0) mgz m0 rfl) fun w15 x15 => ?_
        have x15 := x14.tr x15
        have e : (((x.gcd y : Int) * z).natAbs : Int) = (x.gcd y : Int) * z := by omega
        ((try simp -dsimp [go_sem]); repeat (simp -dsimp (disch := omega) only [w64, wu64, dlt_t, dlt_f, dle_t, dle_f, deq_t, deq_f, beq_t, beq_f, bne_t, bne_f, nlt_t, nlt_f, nle_t, nle_f, neq_t, neq_f, nbeq_t, nbeq_f, nbne_t, nbne_f, it_t, it_f, dit_t, dit_f]; try simp -dsimp [go_sem]))
        rw [e] at g
        exact g _ x15
  · have e1 := not0 hx
    ((try simp -dsimp [go_sem, e1]); repeat (simp -dsimp (disch := omega) only [w64, wu64, dlt_t, dlt_f, dle_t, dle_f, deq_t, deq_f, beq_t, beq_f, bne_t, bne_f, nlt_t, nlt_f, nle_t, nle_f, neq_t, neq_f, nbeq_t, nbeq_f, nbne_t, nbne_f, it_t, it_f, dit_t, dit_f]; try simp -dsimp [go_sem, e1]))
    have hd : 0 < x.gcd y := Int.gcd_pos_iff.2 (.inl hx)
    have hg0 : (x.gcd y : Int) ≠ 0 := by omega
    have dx : (x.gcd y : Int) ∣ x := Int.gcd_dvd_left x y
    have dy : (x.gcd y : Int) ∣ y := Int.gcd_dvd_right x y
    have mqx := (zx.ediv (y := (x.gcd y : Int))).max (by decide)
    have mqy := (zy.ediv (y := (x.gcd y : Int))).max (by decide)
    have hz1 : ((((x * z).gcd (y * z) : Nat)) : Int) = (((x.gcd y : Int) * z).natAbs : Int) := by rw [Int.gcd_mul_right, Int.natAbs_mul, Int.natAbs_natCast]
    have mgz := (zg.mul zz).max (by decide)
    have mgn : ((((x.gcd y : Int) * z).natAbs : Int)).natAbs < MaxI := by rw [Int.natAbs_natCast]; exact mgz
    have mxz := (zx.mul zz).max (by decide)
    have myz := (zy.mul zz).max (by decide)
    refine Cl3 n_integer_Div (k_Div (r := 0) mx mg hg0 (ht.ext x7) rfl (Int.emod_eq_zero_of_dvd dx)) fun w8 x8 => ?_
    have x8 := x7.tr x8
    refine Cl3 n_integer_Div (k_Div (r := 0) my mg hg0 (ht.ext x8) rfl (Int.emod_eq_zero_of_dvd dy)) fun w9 x9 => ?_
    have x9 := x8.tr x9
    refine Cl2 n_integer_Gcd (k_Gcd (s := 1) mqx mqy m1 (ht.ext x9) (by rw [Int.gcd_ediv_gcd_ediv_gcd hd]; rfl)) fun w10 x10 => ?_
    have x10 := x9.tr x10
    refine Cl2 n_integer_Mul (k_Mul (s := x * z) mx mz mxz (ht.ext x10) rfl) fun w11 x11 => ?_
    have x11 := x10.tr x11
    refine Cl2 n_integer_Mul (k_Mul (s := y * z) my mz myz (ht.ext x11) rfl) fun w12 x12 => ?_
    have x12 := x11.tr x12
    refine Cl2 n_integer_Gcd (k_Gcd (s := (((x.gcd y : Int) * z).natAbs : Int)) mxz myz mgn (ht.ext x12) hz1) fun w13 x13 => ?_
    have x13 := x12.tr x13
    refine Cl2 n_integer_Mul (k_Mul (s := (x.gcd y : Int) * z) mg mz mgz (ht.ext x13) rfl) fun w14 x14 => ?_
    have x14 := x13.tr x14
    refine Jn2.mk fun K hK => ?_
    have g : ∀ W, Ext w W → K (str (Lib.itoa (((x.gcd y : Int) * z).natAbs : Int))) (.int .i64 0) W := by
      intro w15 x15
      refine hK _ _ _ ?_
      ((try simp -dsimp [go_sem, itoa0, l1]); repeat (simp -dsimp (disch := omega) only [w64, wu64, dlt_t, dlt_f, dle_t, dle_f, deq_t, deq_f, beq_t, beq_f, bne_t, bne_f, nlt_t, nlt_f, nle_t, nle_f, neq_t, neq_f, nbeq_t, nbeq_f, nbne_t, nbne_f, it_t, it_f, dit_t, dit_f]; try simp -dsimp [go_sem, itoa0, l1]))
      exact Ret.mk ⟨x15, rfl⟩
    by_cases h1 : (x.gcd y : Int) * z < 0
    · refine Cl1 n_integer_Compare (itoa0 ▸ k_Compare (x := (x.gcd y : Int) * z) (y := 0) mgz m0 (cmpI_lt h1)) fun w15 x15 => ?_
      have x15 := x14.tr x15
      ((try simp -dsimp [go_sem]); repeat (simp -dsimp (disch := omega) only [w64, wu64, dlt_t, dlt_f, dle_t, dle_f, deq_t, deq_f, beq_t, beq_f, bne_t, bne_f, nlt_t, nlt_f, nle_t, nle_f, neq_t, neq_f, nbeq_t, nbeq_f, nbne_t, nbne_f, it_t, it_f, dit_t, dit_f]; try simp -dsimp [go_sem]))
      refine Cl2 n_integer_Sub (itoa0 ▸ k_Sub (x := 0) (y := (x.gcd y : Int) * z) (s := (((x.gcd y : Int) * z).natAbs : Int)) m0 mgz mgn (ht.ext x15) (by omega)) fun w16 x16 => ?_
      exact g _ (x15.tr x16)
    · have c2 := cmpI_ge (show (0 : Int) ≤ (x.gcd y : Int) * z by omega)
      refine Cl1 n_integer_Compare (itoa0 ▸ k_Compare (x := (x.gcd y : Int) * z) (y := 0) mgz m0 rfl) fun w15 x15 => ?_
      have x15 := x14.tr x15
      have e : (((x.gcd y : Int) * z).natAbs : Int) = (x.gcd y : Int) * z := by omega
      ((try simp -dsimp [go_sem]); repeat (simp -dsimp (disch := omega) only [w64, wu64, dlt_t, dlt_f, dle_t, dle_f, deq_t, deq_f, beq_t, beq_f, bne_t, bne_f, nlt_t, nlt_f, nle_t, nle_f, neq_t, neq_f, nbeq_t, nbeq_f, nbne_t, nbne_f, it_t, it_f, dit_t, dit_f]; try simp -dsimp [go_sem]))
      rw [e] at g
      exact g _ x15
end Go.Proofs.YtocilcjojdjfdaaGreatDoor
