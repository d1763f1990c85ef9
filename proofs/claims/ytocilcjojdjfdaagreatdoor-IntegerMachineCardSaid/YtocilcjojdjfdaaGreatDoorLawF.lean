/-
  Contracts of functions of the program, and plain lemmas on numbers and strings. By an AI agent.
-/
import Derived.Test.YtocilcjojdjfdaaGreatDoorLawE
set_option linter.unusedSimpArgs false
set_option linter.unusedVariables false
namespace Go.Proofs.YtocilcjojdjfdaaGreatDoor
open Go Go.Eng Go.Proofs Go.Num Go.RowKit
set_option maxRecDepth 100000
set_option linter.unusedVariables false
theorem tdiv_law {x y : Int} (hy : y ≠ 0) : (0 ≤ x.tmod y ∧ x / y = x.tdiv y ∧ x % y = x.tmod y) ∨ (x.tmod y < 0 ∧ 0 < y ∧ x / y = x.tdiv y - 1 ∧ x % y = x.tmod y + y) ∨ (x.tmod y < 0 ∧ y < 0 ∧ x / y = x.tdiv y + 1 ∧ x % y = x.tmod y - y) := by
  have e := Int.mul_tdiv_add_tmod x y
  have l1 := Int.natAbs_tmod x y
  have l2 : x.natAbs % y.natAbs < y.natAbs := Nat.mod_lt _ (by omega)
  obtain ⟨d, hd⟩ : ∃ d, d = x.tdiv y := ⟨_, rfl⟩
  obtain ⟨r, hr⟩ : ∃ r, r = x.tmod y := ⟨_, rfl⟩
  rw [← hd, ← hr] at e ⊢
  rw [← hr] at l1
  rcases Int.lt_or_gt_of_ne hy with h | h
  · have hn : y = -(y.natAbs : Int) := by omega
    have key : ∀ q s, s + y * q = x → 0 ≤ s → s < y.natAbs → x / y = q ∧ x % y = s := by
      intro q s h1 h2 h3
      have h4 : s + (y.natAbs : Int) * (-q) = x := by
        rw [← h1]
        have : y * q = -(y.natAbs : Int) * q := by rw [← hn]
        rw [this, Int.mul_neg, Int.neg_mul]
      obtain ⟨e1, e2⟩ := (Int.ediv_emod_unique (show (0 : Int) < y.natAbs by omega)).2 ⟨h4, h2, h3⟩
      rw [hn, Int.ediv_neg, Int.emod_neg]
      exact ⟨by rw [e1]; omega, e2⟩
    by_cases h0 : 0 ≤ r
    · left; exact ⟨h0, key d r (by omega) h0 (by omega)⟩
    · right; right; exact ⟨by omega, h, key (d + 1) (r - y) (by rw [Int.mul_add]; omega) (by omega) (by omega)⟩
  · have key : ∀ q s, s + y * q = x → 0 ≤ s → s < y → x / y = q ∧ x % y = s := fun q s h1 h2 h3 => (Int.ediv_emod_unique h).2 ⟨h1, h2, h3⟩
    by_cases h0 : 0 ≤ r
    · left; exact ⟨h0, key d r (by omega) h0 (by omega)⟩
    · right; left; exact ⟨by omega, h, key (d - 1) (r + y) (by rw [Int.mul_sub]; omega) (by omega) (by omega)⟩
theorem law_Machine {x y : Int} {w : World} (hx : -2147483648 ≤ x ∧ x ≤ 2147483647) (hy : -2147483648 ≤ y ∧ y ≤ 2147483647) (ht : Tab w) (he : ErrV w) :
    Calls Tryz.prog 10 #[.int .i32 x, .int .i32 y] w (Ret fun r w' => Ext w w' ∧ r = .bool true) := by
  obtain ⟨hx0, hx1⟩ := hx
  obtain ⟨hy0, hy1⟩ := hy
  have mx := i64_MaxI (n := x) (by omega) (by omega)
  have my := i64_MaxI (n := y) (by omega) (by omega)
  obtain ⟨p, hp⟩ : ∃ p, p = x * y := ⟨_, rfl⟩
  have hpb : p.natAbs ≤ 2147483648 * 2147483648 := by rw [hp, Int.natAbs_mul]; exact Nat.mul_le_mul (by omega) (by omega)
  have hp0 : -4611686018427387904 ≤ p := by omega
  have hp1 : p ≤ 4611686018427387904 := by omega
  clear hpb
  by_cases hy : y = 0
  · have hz := hy
    apply e_law03_IntegerMachine
    unfold s_law03_IntegerMachine
    refine Cl1 n_law03_sane (c_sane ht) fun w1 x1 => ?_
    ((try simp -dsimp [go_sem]); repeat (simp -dsimp (disch := omega) only [w64, wu64, dlt_t, dlt_f, dle_t, dle_f, deq_t, deq_f, beq_t, beq_f, bne_t, bne_f, nlt_t, nlt_f, nle_t, nle_f, neq_t, neq_f, nbeq_t, nbeq_f, nbne_t, nbne_f, it_t, it_f, dit_t, dit_f]; try simp -dsimp [go_sem]))
    refine Cl1 n_integer_FromInt (c_FromInt (n := x) (by omega) (by omega) (ht.ext x1)) fun w2 x2 => ?_
    have x2 := x1.tr x2
    ((try simp -dsimp [go_sem]); repeat (simp -dsimp (disch := omega) only [w64, wu64, dlt_t, dlt_f, dle_t, dle_f, deq_t, deq_f, beq_t, beq_f, bne_t, bne_f, nlt_t, nlt_f, nle_t, nle_f, neq_t, neq_f, nbeq_t, nbeq_f, nbne_t, nbne_f, it_t, it_f, dit_t, dit_f]; try simp -dsimp [go_sem]))
    refine Cl1 n_integer_FromInt (c_FromInt (n := y) (by omega) (by omega) (ht.ext x2)) fun w3 x3 => ?_
    have x3 := x2.tr x3
    refine Cl2 n_integer_ToInt (k_ToInt (n := x) (by omega) (by omega) (he.ext x3)) fun w4 x4 => ?_
    have x4 := x3.tr x4
    refine Cl2 n_integer_Add (k_Add (s := x + y) mx my (i64_MaxI (by omega) (by omega)) (ht.ext x4) rfl) fun w5 x5 => ?_
    have x5 := x4.tr x5
    refine Cl2 n_integer_Sub (k_Sub (s := x - y) mx my (i64_MaxI (by omega) (by omega)) (ht.ext x5) rfl) fun w6 x6 => ?_
    have x6 := x5.tr x6
    refine Cl2 n_integer_Mul (k_Mul (s := p) mx my (i64_MaxI (by omega) (by omega)) (ht.ext x6) hp.symm) fun w7 x7 => ?_
    have x7 := x6.tr x7
    ((try simp -dsimp [go_sem, ← hp]); repeat (simp -dsimp (disch := omega) only [w64, wu64, dlt_t, dlt_f, dle_t, dle_f, deq_t, deq_f, beq_t, beq_f, bne_t, bne_f, nlt_t, nlt_f, nle_t, nle_f, neq_t, neq_f, nbeq_t, nbeq_f, nbne_t, nbne_f, it_t, it_f, dit_t, dit_f]; try simp -dsimp [go_sem, ← hp]))
    refine Cl1 n_integer_FromInt (c_FromInt (n := x + y) (by omega) (by omega) (ht.ext x7)) fun w8 x8 => ?_
    have x8 := x7.tr x8
    ((try simp -dsimp [go_sem, ← hp]); repeat (simp -dsimp (disch := omega) only [w64, wu64, dlt_t, dlt_f, dle_t, dle_f, deq_t, deq_f, beq_t, beq_f, bne_t, bne_f, nlt_t, nlt_f, nle_t, nle_f, neq_t, neq_f, nbeq_t, nbeq_f, nbne_t, nbne_f, it_t, it_f, dit_t, dit_f]; try simp -dsimp [go_sem, ← hp]))
    refine Cl1 n_integer_FromInt (c_FromInt (n := x - y) (by omega) (by omega) (ht.ext x8)) fun w9 x9 => ?_
    have x9 := x8.tr x9
    ((try simp -dsimp [go_sem, ← hp]); repeat (simp -dsimp (disch := omega) only [w64, wu64, dlt_t, dlt_f, dle_t, dle_f, deq_t, deq_f, beq_t, beq_f, bne_t, bne_f, nlt_t, nlt_f, nle_t, nle_f, neq_t, neq_f, nbeq_t, nbeq_f, nbne_t, nbne_f, it_t, it_f, dit_t, dit_f]; try simp -dsimp [go_sem, ← hp]))
    refine Cl1 n_integer_FromInt (c_FromInt (n := p) (by omega) (by omega) (ht.ext x9)) fun w10 x10 => ?_
    have x10 := x9.tr x10
    ((try simp -dsimp [go_sem]); repeat (simp -dsimp (disch := omega) only [w64, wu64, dlt_t, dlt_f, dle_t, dle_f, deq_t, deq_f, beq_t, beq_f, bne_t, bne_f, nlt_t, nlt_f, nle_t, nle_f, neq_t, neq_f, nbeq_t, nbeq_f, nbne_t, nbne_f, it_t, it_f, dit_t, dit_f]; try simp -dsimp [go_sem]))
    refine Jn1.mk fun K hK => ?_
    have g : ∀ o : Int, o = (if x < y then (-1 : Int) else 0) → K (.int .i64 o) w10 := by
      intro o ho
      refine hK _ _ ?_
      ((try simp -dsimp [go_sem]); repeat (simp -dsimp (disch := omega) only [w64, wu64, dlt_t, dlt_f, dle_t, dle_f, deq_t, deq_f, beq_t, beq_f, bne_t, bne_f, nlt_t, nlt_f, nle_t, nle_f, neq_t, neq_f, nbeq_t, nbeq_f, nbne_t, nbne_f, it_t, it_f, dit_t, dit_f]; try simp -dsimp [go_sem]))
      refine Jn1.mk fun K2 hK2 => ?_
      have g2 : K2 (.int .i64 (cmpI x y)) w10 := by
        refine hK2 _ _ ?_
        ((try simp -dsimp [go_sem]); repeat (simp -dsimp (disch := omega) only [w64, wu64, dlt_t, dlt_f, dle_t, dle_f, deq_t, deq_f, beq_t, beq_f, bne_t, bne_f, nlt_t, nlt_f, nle_t, nle_f, neq_t, neq_f, nbeq_t, nbeq_f, nbne_t, nbne_f, it_t, it_f, dit_t, dit_f]; try simp -dsimp [go_sem]))
        refine Cl1 n_integer_Compare (k_Compare mx my rfl) fun w11 x11 => ?_
        have x11 := x10.tr x11
        ((try simp -dsimp [go_sem]); repeat (simp -dsimp (disch := omega) only [w64, wu64, dlt_t, dlt_f, dle_t, dle_f, deq_t, deq_f, beq_t, beq_f, bne_t, bne_f, nlt_t, nlt_f, nle_t, nle_f, neq_t, neq_f, nbeq_t, nbeq_f, nbne_t, nbne_f, it_t, it_f, dit_t, dit_f]; try simp -dsimp [go_sem]))
        refine Cl3 n_integer_Div (by rw [hy]; exact c_Div_zero mx) fun w12 x12 => ?_
        have x12 := x11.tr x12
        ((try simp -dsimp [go_sem]); repeat (simp -dsimp (disch := omega) only [w64, wu64, dlt_t, dlt_f, dle_t, dle_f, deq_t, deq_f, beq_t, beq_f, bne_t, bne_f, nlt_t, nlt_f, nle_t, nle_f, neq_t, neq_f, nbeq_t, nbeq_f, nbne_t, nbne_f, it_t, it_f, dit_t, dit_f]; try simp -dsimp [go_sem]))
        exact Ret.mk ⟨x12, rfl⟩
      rcases Int.lt_trichotomy x y with h | h | h
      · ((try simp -dsimp [go_sem]); repeat (simp -dsimp (disch := omega) only [w64, wu64, dlt_t, dlt_f, dle_t, dle_f, deq_t, deq_f, beq_t, beq_f, bne_t, bne_f, nlt_t, nlt_f, nle_t, nle_f, neq_t, neq_f, nbeq_t, nbeq_f, nbne_t, nbne_f, it_t, it_f, dit_t, dit_f]; try simp -dsimp [go_sem]))
        rw [ho, if_pos h]; rw [show cmpI x y = -1 from by unfold cmpI; rw [if_pos h]] at g2; exact g2
      · ((try simp -dsimp [go_sem]); repeat (simp -dsimp (disch := omega) only [w64, wu64, dlt_t, dlt_f, dle_t, dle_f, deq_t, deq_f, beq_t, beq_f, bne_t, bne_f, nlt_t, nlt_f, nle_t, nle_f, neq_t, neq_f, nbeq_t, nbeq_f, nbne_t, nbne_f, it_t, it_f, dit_t, dit_f]; try simp -dsimp [go_sem]))
        rw [ho, if_neg (by omega)]; rw [show cmpI x y = 0 from by unfold cmpI; rw [if_neg (by omega), if_neg (by omega)]] at g2; exact g2
      · ((try simp -dsimp [go_sem]); repeat (simp -dsimp (disch := omega) only [w64, wu64, dlt_t, dlt_f, dle_t, dle_f, deq_t, deq_f, beq_t, beq_f, bne_t, bne_f, nlt_t, nlt_f, nle_t, nle_f, neq_t, neq_f, nbeq_t, nbeq_f, nbne_t, nbne_f, it_t, it_f, dit_t, dit_f]; try simp -dsimp [go_sem]))
        rw [show cmpI x y = 1 from by unfold cmpI; rw [if_neg (by omega), if_pos (by omega)]] at g2; exact g2
    by_cases h : x < y
    · ((try simp -dsimp [go_sem]); repeat (simp -dsimp (disch := omega) only [w64, wu64, dlt_t, dlt_f, dle_t, dle_f, deq_t, deq_f, beq_t, beq_f, bne_t, bne_f, nlt_t, nlt_f, nle_t, nle_f, neq_t, neq_f, nbeq_t, nbeq_f, nbne_t, nbne_f, it_t, it_f, dit_t, dit_f]; try simp -dsimp [go_sem]))
      exact g _ (by rw [if_pos h])
    · ((try simp -dsimp [go_sem]); repeat (simp -dsimp (disch := omega) only [w64, wu64, dlt_t, dlt_f, dle_t, dle_f, deq_t, deq_f, beq_t, beq_f, bne_t, bne_f, nlt_t, nlt_f, nle_t, nle_f, neq_t, neq_f, nbeq_t, nbeq_f, nbne_t, nbne_f, it_t, it_f, dit_t, dit_f]; try simp -dsimp [go_sem]))
      exact g _ (by rw [if_neg h])
  · obtain ⟨d, hd⟩ : ∃ d, d = x.tdiv y := ⟨_, rfl⟩
    obtain ⟨r, hr⟩ : ∃ r, r = x.tmod y := ⟨_, rfl⟩
    have hl := tdiv_law (x := x) hy
    obtain ⟨Q, hQ⟩ : ∃ Q, Q = x / y := ⟨_, rfl⟩
    obtain ⟨R, hR⟩ : ∃ R, R = x % y := ⟨_, rfl⟩
    rw [← hd, ← hr, ← hQ, ← hR] at hl
    have b1 := Int.natAbs_tmod x y
    have b2 : x.natAbs % y.natAbs < y.natAbs := Nat.mod_lt _ (by omega)
    have b3 : (x.tdiv y).natAbs = x.natAbs / y.natAbs := Int.natAbs_tdiv x y
    have R0 : 0 ≤ R := by rw [hR]; exact Int.emod_nonneg x hy
    have b4 : x.natAbs / y.natAbs ≤ x.natAbs := Nat.div_le_self _ _
    rw [← hr] at b1
    rw [← hd] at b3
    have d0 : -2147483648 ≤ d := by omega
    have d1 : d ≤ 2147483648 := by omega
    have r0 : -2147483648 ≤ r := by omega
    have r1 : r ≤ 2147483648 := by omega
    clear b1 b2 b3 b4
    apply e_law03_IntegerMachine
    unfold s_law03_IntegerMachine
    refine Cl1 n_law03_sane (c_sane ht) fun w1 x1 => ?_
    ((try simp -dsimp [go_sem]); repeat (simp -dsimp (disch := omega) only [w64, wu64, dlt_t, dlt_f, dle_t, dle_f, deq_t, deq_f, beq_t, beq_f, bne_t, bne_f, nlt_t, nlt_f, nle_t, nle_f, neq_t, neq_f, nbeq_t, nbeq_f, nbne_t, nbne_f, it_t, it_f, dit_t, dit_f]; try simp -dsimp [go_sem]))
    refine Cl1 n_integer_FromInt (c_FromInt (n := x) (by omega) (by omega) (ht.ext x1)) fun w2 x2 => ?_
    have x2 := x1.tr x2
    ((try simp -dsimp [go_sem]); repeat (simp -dsimp (disch := omega) only [w64, wu64, dlt_t, dlt_f, dle_t, dle_f, deq_t, deq_f, beq_t, beq_f, bne_t, bne_f, nlt_t, nlt_f, nle_t, nle_f, neq_t, neq_f, nbeq_t, nbeq_f, nbne_t, nbne_f, it_t, it_f, dit_t, dit_f]; try simp -dsimp [go_sem]))
    refine Cl1 n_integer_FromInt (c_FromInt (n := y) (by omega) (by omega) (ht.ext x2)) fun w3 x3 => ?_
    have x3 := x2.tr x3
    refine Cl2 n_integer_ToInt (k_ToInt (n := x) (by omega) (by omega) (he.ext x3)) fun w4 x4 => ?_
    have x4 := x3.tr x4
    refine Cl2 n_integer_Add (k_Add (s := x + y) mx my (i64_MaxI (by omega) (by omega)) (ht.ext x4) rfl) fun w5 x5 => ?_
    have x5 := x4.tr x5
    refine Cl2 n_integer_Sub (k_Sub (s := x - y) mx my (i64_MaxI (by omega) (by omega)) (ht.ext x5) rfl) fun w6 x6 => ?_
    have x6 := x5.tr x6
    refine Cl2 n_integer_Mul (k_Mul (s := p) mx my (i64_MaxI (by omega) (by omega)) (ht.ext x6) hp.symm) fun w7 x7 => ?_
    have x7 := x6.tr x7
    ((try simp -dsimp [go_sem, ← hp]); repeat (simp -dsimp (disch := omega) only [w64, wu64, dlt_t, dlt_f, dle_t, dle_f, deq_t, deq_f, beq_t, beq_f, bne_t, bne_f, nlt_t, nlt_f, nle_t, nle_f, neq_t, neq_f, nbeq_t, nbeq_f, nbne_t, nbne_f, it_t, it_f, dit_t, dit_f]; try simp -dsimp [go_sem, ← hp]))
    refine Cl1 n_integer_FromInt (c_FromInt (n := x + y) (by omega) (by omega) (ht.ext x7)) fun w8 x8 => ?_
    have x8 := x7.tr x8
    ((try simp -dsimp [go_sem, ← hp]); repeat (simp -dsimp (disch := omega) only [w64, wu64, dlt_t, dlt_f, dle_t, dle_f, deq_t, deq_f, beq_t, beq_f, bne_t, bne_f, nlt_t, nlt_f, nle_t, nle_f, neq_t, neq_f, nbeq_t, nbeq_f, nbne_t, nbne_f, it_t, it_f, dit_t, dit_f]; try simp -dsimp [go_sem, ← hp]))
    refine Cl1 n_integer_FromInt (c_FromInt (n := x - y) (by omega) (by omega) (ht.ext x8)) fun w9 x9 => ?_
    have x9 := x8.tr x9
    ((try simp -dsimp [go_sem, ← hp]); repeat (simp -dsimp (disch := omega) only [w64, wu64, dlt_t, dlt_f, dle_t, dle_f, deq_t, deq_f, beq_t, beq_f, bne_t, bne_f, nlt_t, nlt_f, nle_t, nle_f, neq_t, neq_f, nbeq_t, nbeq_f, nbne_t, nbne_f, it_t, it_f, dit_t, dit_f]; try simp -dsimp [go_sem, ← hp]))
    refine Cl1 n_integer_FromInt (c_FromInt (n := p) (by omega) (by omega) (ht.ext x9)) fun w10 x10 => ?_
    have x10 := x9.tr x10
    ((try simp -dsimp [go_sem]); repeat (simp -dsimp (disch := omega) only [w64, wu64, dlt_t, dlt_f, dle_t, dle_f, deq_t, deq_f, beq_t, beq_f, bne_t, bne_f, nlt_t, nlt_f, nle_t, nle_f, neq_t, neq_f, nbeq_t, nbeq_f, nbne_t, nbne_f, it_t, it_f, dit_t, dit_f]; try simp -dsimp [go_sem]))
    refine Jn1.mk fun K hK => ?_
    have g : ∀ o : Int, o = (if x < y then (-1 : Int) else 0) → K (.int .i64 o) w10 := by
      intro o ho
      refine hK _ _ ?_
      ((try simp -dsimp [go_sem]); repeat (simp -dsimp (disch := omega) only [w64, wu64, dlt_t, dlt_f, dle_t, dle_f, deq_t, deq_f, beq_t, beq_f, bne_t, bne_f, nlt_t, nlt_f, nle_t, nle_f, neq_t, neq_f, nbeq_t, nbeq_f, nbne_t, nbne_f, it_t, it_f, dit_t, dit_f]; try simp -dsimp [go_sem]))
      refine Jn1.mk fun K2 hK2 => ?_
      have g2 : K2 (.int .i64 (cmpI x y)) w10 := by
        refine hK2 _ _ ?_
        ((try simp -dsimp [go_sem]); repeat (simp -dsimp (disch := omega) only [w64, wu64, dlt_t, dlt_f, dle_t, dle_f, deq_t, deq_f, beq_t, beq_f, bne_t, bne_f, nlt_t, nlt_f, nle_t, nle_f, neq_t, neq_f, nbeq_t, nbeq_f, nbne_t, nbne_f, it_t, it_f, dit_t, dit_f]; try simp -dsimp [go_sem]))
        refine Cl1 n_integer_Compare (k_Compare mx my rfl) fun w11 x11 => ?_
        have x11 := x10.tr x11
        ((try simp -dsimp [go_sem]); repeat (simp -dsimp (disch := omega) only [w64, wu64, dlt_t, dlt_f, dle_t, dle_f, deq_t, deq_f, beq_t, beq_f, bne_t, bne_f, nlt_t, nlt_f, nle_t, nle_f, neq_t, neq_f, nbeq_t, nbeq_f, nbne_t, nbne_f, it_t, it_f, dit_t, dit_f]; try simp -dsimp [go_sem]))
        refine Cl3 n_integer_Div (k_Div mx my hy (ht.ext x11) hQ.symm hR.symm) fun w12 x12 => ?_
        have x12 := x11.tr x12
        ((try simp -dsimp [go_sem, ← hd, ← hr]); repeat (simp -dsimp (disch := omega) only [w64, wu64, dlt_t, dlt_f, dle_t, dle_f, deq_t, deq_f, beq_t, beq_f, bne_t, bne_f, nlt_t, nlt_f, nle_t, nle_f, neq_t, neq_f, nbeq_t, nbeq_f, nbne_t, nbne_f, it_t, it_f, dit_t, dit_f]; try simp -dsimp [go_sem, ← hd, ← hr]))
        refine Jn2.mk fun K3 hK3 => ?_
        have g3 : ∀ r1 d1 : Int, (((r < 0 ∧ 0 < y) ∧ r1 = r + y ∧ d1 = d - 1) ∨ (¬ (r < 0 ∧ 0 < y) ∧ r1 = r ∧ d1 = d)) → K3 (.int .i64 r1) (.int .i64 d1) w12 := by
          intro r1 d1 hrd
          refine hK3 _ _ _ ?_
          ((try simp -dsimp [go_sem]); repeat (simp -dsimp (disch := omega) only [w64, wu64, dlt_t, dlt_f, dle_t, dle_f, deq_t, deq_f, beq_t, beq_f, bne_t, bne_f, nlt_t, nlt_f, nle_t, nle_f, neq_t, neq_f, nbeq_t, nbeq_f, nbne_t, nbne_f, it_t, it_f, dit_t, dit_f]; try simp -dsimp [go_sem]))
          refine Jn2.mk fun K4 hK4 => ?_
          have g4 : K4 (.int .i64 R) (.int .i64 Q) w12 := by
            refine hK4 _ _ _ ?_
            ((try simp -dsimp [go_sem]); repeat (simp -dsimp (disch := omega) only [w64, wu64, dlt_t, dlt_f, dle_t, dle_f, deq_t, deq_f, beq_t, beq_f, bne_t, bne_f, nlt_t, nlt_f, nle_t, nle_f, neq_t, neq_f, nbeq_t, nbeq_f, nbne_t, nbne_f, it_t, it_f, dit_t, dit_f]; try simp -dsimp [go_sem]))
            refine Cl1 n_integer_FromInt (c_FromInt (n := Q) (by omega) (by omega) (ht.ext x12)) fun w13 x13 => ?_
            have x13 := x12.tr x13
            ((try simp -dsimp [go_sem]); repeat (simp -dsimp (disch := omega) only [w64, wu64, dlt_t, dlt_f, dle_t, dle_f, deq_t, deq_f, beq_t, beq_f, bne_t, bne_f, nlt_t, nlt_f, nle_t, nle_f, neq_t, neq_f, nbeq_t, nbeq_f, nbne_t, nbne_f, it_t, it_f, dit_t, dit_f]; try simp -dsimp [go_sem]))
            refine Cl1 n_integer_FromInt (c_FromInt (n := R) (by omega) (by omega) (ht.ext x13)) fun w14 x14 => ?_
            have x14 := x13.tr x14
            ((try simp -dsimp [go_sem]); repeat (simp -dsimp (disch := omega) only [w64, wu64, dlt_t, dlt_f, dle_t, dle_f, deq_t, deq_f, beq_t, beq_f, bne_t, bne_f, nlt_t, nlt_f, nle_t, nle_f, neq_t, neq_f, nbeq_t, nbeq_f, nbne_t, nbne_f, it_t, it_f, dit_t, dit_f]; try simp -dsimp [go_sem]))
            exact Ret.mk ⟨x14, rfl⟩
          by_cases h : r1 < 0
          · ((try simp -dsimp [go_sem]); repeat (simp -dsimp (disch := omega) only [w64, wu64, dlt_t, dlt_f, dle_t, dle_f, deq_t, deq_f, beq_t, beq_f, bne_t, bne_f, nlt_t, nlt_f, nle_t, nle_f, neq_t, neq_f, nbeq_t, nbeq_f, nbne_t, nbne_f, it_t, it_f, dit_t, dit_f]; try simp -dsimp [go_sem]))
            rw [show r1 - y = R from by omega, show d1 + 1 = Q from by omega]
            exact g4
          · ((try simp -dsimp [go_sem]); repeat (simp -dsimp (disch := omega) only [w64, wu64, dlt_t, dlt_f, dle_t, dle_f, deq_t, deq_f, beq_t, beq_f, bne_t, bne_f, nlt_t, nlt_f, nle_t, nle_f, neq_t, neq_f, nbeq_t, nbeq_f, nbne_t, nbne_f, it_t, it_f, dit_t, dit_f]; try simp -dsimp [go_sem]))
            rw [show r1 = R from by omega, show d1 = Q from by omega]
            exact g4
        by_cases h : r < 0
        · by_cases h2 : 0 < y
          · ((try simp -dsimp [go_sem]); repeat (simp -dsimp (disch := omega) only [w64, wu64, dlt_t, dlt_f, dle_t, dle_f, deq_t, deq_f, beq_t, beq_f, bne_t, bne_f, nlt_t, nlt_f, nle_t, nle_f, neq_t, neq_f, nbeq_t, nbeq_f, nbne_t, nbne_f, it_t, it_f, dit_t, dit_f]; try simp -dsimp [go_sem]))
            exact g3 _ _ (.inl ⟨⟨h, h2⟩, rfl, rfl⟩)
          · ((try simp -dsimp [go_sem]); repeat (simp -dsimp (disch := omega) only [w64, wu64, dlt_t, dlt_f, dle_t, dle_f, deq_t, deq_f, beq_t, beq_f, bne_t, bne_f, nlt_t, nlt_f, nle_t, nle_f, neq_t, neq_f, nbeq_t, nbeq_f, nbne_t, nbne_f, it_t, it_f, dit_t, dit_f]; try simp -dsimp [go_sem]))
            exact g3 _ _ (.inr ⟨fun hc => h2 hc.2, rfl, rfl⟩)
        · ((try simp -dsimp [go_sem]); repeat (simp -dsimp (disch := omega) only [w64, wu64, dlt_t, dlt_f, dle_t, dle_f, deq_t, deq_f, beq_t, beq_f, bne_t, bne_f, nlt_t, nlt_f, nle_t, nle_f, neq_t, neq_f, nbeq_t, nbeq_f, nbne_t, nbne_f, it_t, it_f, dit_t, dit_f]; try simp -dsimp [go_sem]))
          exact g3 _ _ (.inr ⟨fun hc => h hc.1, rfl, rfl⟩)
      rcases Int.lt_trichotomy x y with h | h | h
      · ((try simp -dsimp [go_sem]); repeat (simp -dsimp (disch := omega) only [w64, wu64, dlt_t, dlt_f, dle_t, dle_f, deq_t, deq_f, beq_t, beq_f, bne_t, bne_f, nlt_t, nlt_f, nle_t, nle_f, neq_t, neq_f, nbeq_t, nbeq_f, nbne_t, nbne_f, it_t, it_f, dit_t, dit_f]; try simp -dsimp [go_sem]))
        rw [ho, if_pos h]; rw [show cmpI x y = -1 from by unfold cmpI; rw [if_pos h]] at g2; exact g2
      · ((try simp -dsimp [go_sem]); repeat (simp -dsimp (disch := omega) only [w64, wu64, dlt_t, dlt_f, dle_t, dle_f, deq_t, deq_f, beq_t, beq_f, bne_t, bne_f, nlt_t, nlt_f, nle_t, nle_f, neq_t, neq_f, nbeq_t, nbeq_f, nbne_t, nbne_f, it_t, it_f, dit_t, dit_f]; try simp -dsimp [go_sem]))
        rw [ho, if_neg (by omega)]; rw [show cmpI x y = 0 from by unfold cmpI; rw [if_neg (by omega), if_neg (by omega)]] at g2; exact g2
      · ((try simp -dsimp [go_sem]); repeat (simp -dsimp (disch := omega) only [w64, wu64, dlt_t, dlt_f, dle_t, dle_f, deq_t, deq_f, beq_t, beq_f, bne_t, bne_f, nlt_t, nlt_f, nle_t, nle_f, neq_t, neq_f, nbeq_t, nbeq_f, nbne_t, nbne_f, it_t, it_f, dit_t, dit_f]; try simp -dsimp [go_sem]))
        rw [show cmpI x y = 1 from by unfold cmpI; rw [if_neg (by omega), if_pos (by omega)]] at g2; exact g2
    by_cases h : x < y
    · ((try simp -dsimp [go_sem]); repeat (simp -dsimp (disch := omega) only [w64, wu64, dlt_t, dlt_f, dle_t, dle_f, deq_t, deq_f, beq_t, beq_f, bne_t, bne_f, nlt_t, nlt_f, nle_t, nle_f, neq_t, neq_f, nbeq_t, nbeq_f, nbne_t, nbne_f, it_t, it_f, dit_t, dit_f]; try simp -dsimp [go_sem]))
      exact g _ (by rw [if_pos h])
    · ((try simp -dsimp [go_sem]); repeat (simp -dsimp (disch := omega) only [w64, wu64, dlt_t, dlt_f, dle_t, dle_f, deq_t, deq_f, beq_t, beq_f, bne_t, bne_f, nlt_t, nlt_f, nle_t, nle_f, neq_t, neq_f, nbeq_t, nbeq_f, nbne_t, nbne_f, it_t, it_f, dit_t, dit_f]; try simp -dsimp [go_sem]))
      exact g _ (by rw [if_neg h])
end Go.Proofs.YtocilcjojdjfdaaGreatDoor
