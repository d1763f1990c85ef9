/-
  Contracts of functions of the program, and plain lemmas on numbers and strings. By an AI agent.
-/
import Derived.Test.YtocilcjojdjfdaaGreatDoorLawG
set_option linter.unusedSimpArgs false
set_option linter.unusedVariables false
namespace Go.Proofs.YtocilcjojdjfdaaGreatDoor
open Go Go.Eng Go.Proofs Go.Num Go.RowKit
set_option maxRecDepth 100000
set_option linter.unusedVariables false
theorem sq_lt {a b : Int} (ha : 0 ≤ a) (h : a < b) : a * a < b * b := by
  have h1 : a * a ≤ a * b := Int.mul_le_mul_of_nonneg_left (by omega) ha
  have h2 : a * b < b * b := Int.mul_lt_mul_of_pos_right h (by omega)
  omega
theorem sq_le {a b : Int} (ha : 0 ≤ a) (h : a ≤ b) : a * a ≤ b * b := Int.mul_le_mul h h ha (by omega)
theorem root_uniq {s t : Int} (h0 : 0 ≤ s) (ht : 0 ≤ t) (h1 : s * s ≤ t * t) (h2 : t * t < (s + 1) * (s + 1)) : s = t := by
  rcases Int.lt_trichotomy s t with h | h | h
  · have := sq_le (a := s + 1) (b := t) (by omega) (by omega); omega
  · exact h
  · have := sq_lt ht h; omega
theorem k_RootSq {x : Int} {w : World} (h : (x * x).natAbs < MaxI) (ht : Tab w) : Calls Tryz.prog 21 #[str (Lib.itoa (x * x))] w (Ret fun r w' => Ext w w' ∧ r = .tuple #[str (Lib.itoa (x.natAbs : Int)), .int .i64 0]) := by
  have hxx : x * x = (x.natAbs : Int) * x.natAbs := by rw [← Int.natCast_mul, Int.natAbs_mul_self]
  have h0 : 0 ≤ x * x := by rw [hxx]; exact Int.mul_nonneg (by omega) (by omega)
  refine (c_Root h h0 ht).mono ?_
  rintro _ w' ⟨_, rfl, h1, s, h2, h3, h4, rfl⟩
  refine Ret.mk ⟨h1, ?_⟩
  rw [hxx] at h3 h4
  rw [root_uniq h2 (by omega) h3 h4]
theorem k_RootSq' {x : Int} {w : World} (hx : 0 ≤ x) (h : (x * x).natAbs < MaxI) (ht : Tab w) : Calls Tryz.prog 21 #[str (Lib.itoa (x * x))] w (Ret fun r w' => Ext w w' ∧ r = .tuple #[str (Lib.itoa x), .int .i64 0]) := by
  have e : (x.natAbs : Int) = x := by omega
  have := k_RootSq h ht
  rw [e] at this
  exact this
theorem law_Root {a : List UInt8} {w : World} (ht : Tab w) :
    Calls Tryz.prog 6 #[str a] w (Ret fun r w' => Ext w w' ∧ r = .bool true) := by
  apply e_law03_IntegerRoot
  unfold s_law03_IntegerRoot
  refine Cl1 n_law03_sane (c_sane ht) fun w1 x1 => ?_
  refine Cl_i n_ref03_Made (c_Made (m := 80) (by decide)) ?_
  rintro _ w2 ⟨x2, x, zx, rfl⟩
  have x2 := x1.tr x2
  have zx : Sz 80 x := zx
  have mx := zx.max (by decide)
  have mxx := (zx.mul zx).max (by decide)
  have ma : ((x.natAbs : Int)).natAbs < MaxI := by rw [Int.natAbs_natCast]; exact mx
  by_cases hx : x < 0
  · refine Cl2 n_integer_Root (c_Root_neg mx hx) fun w3 x3 => ?_
    have x3 := x2.tr x3
    refine Cl2 n_integer_Mul (k_Mul (s := x * x) mx mx mxx (ht.ext x3) rfl) fun w4 x4 => ?_
    have x4 := x3.tr x4
    refine Cl2 n_integer_Root (k_RootSq mxx (ht.ext x4)) fun w5 x5 => ?_
    have x5 := x4.tr x5
    refine Cl2 n_integer_Add (k_Add (s := 0) ma mx m0 (ht.ext x5) (by omega)) fun w6 x6 => ?_
    have x6 := x5.tr x6
    have e : (Lib.itoa (x.natAbs : Int) == Lib.itoa x) = false := by
      rw [beq_eq_false_iff_ne]; intro hc; have := itoa_inj hc; omega
    ((try simp -dsimp [go_sem, e, itoa0]); repeat (simp -dsimp (disch := omega) only [w64, wu64, dlt_t, dlt_f, dle_t, dle_f, deq_t, deq_f, beq_t, beq_f, bne_t, bne_f, nlt_t, nlt_f, nle_t, nle_f, neq_t, neq_f, nbeq_t, nbeq_f, nbne_t, nbne_f, it_t, it_f, dit_t, dit_f]; try simp -dsimp [go_sem, e, itoa0]))
    refine Cl1 n_integer_Compare (itoa0 ▸ k_Compare (x := x) (y := 0) mx m0 (cmpI_lt hx)) fun w7 x7 => ?_
    have x7 := x6.tr x7
    ((try simp -dsimp [go_sem]); repeat (simp -dsimp (disch := omega) only [w64, wu64, dlt_t, dlt_f, dle_t, dle_f, deq_t, deq_f, beq_t, beq_f, bne_t, bne_f, nlt_t, nlt_f, nle_t, nle_f, neq_t, neq_f, nbeq_t, nbeq_f, nbne_t, nbne_f, it_t, it_f, dit_t, dit_f]; try simp -dsimp [go_sem]))
    exact Ret.mk ⟨x7, rfl⟩
  · refine Cl_i n_integer_Root (c_Root mx (by omega) (ht.ext x2)) ?_
    rintro _ w3 ⟨x3, s, s0, s1, s2, rfl⟩
    have x3 := x2.tr x3
    have hle : s ≤ x := by
      by_cases h : s = 0
      · omega
      · have := Int.mul_le_mul_of_nonneg_left (show (1 : Int) ≤ s by omega) s0
        omega
    have zs : Sz 80 s := by unfold Sz at *; omega
    have ms := zs.max (by decide)
    have mss := (zs.mul zs).max (by decide)
    have zn := zs.add (Sz.one (k := 80) (by decide))
    have mn := zn.max (by decide)
    have mnn := (zn.mul zn).max (by decide)
    have c1 := cmpI_le s1
    have e : (x.natAbs : Int) = x := by omega
    have hadd : x + x = 2 * x := by omega
    have m2 : (2 * x).natAbs < MaxI := by rw [← hadd]; exact (zx.add zx).max (by decide)
    have c2 := cmpI_gt s2
    have c0 := cmpI_ge (show (0 : Int) ≤ x by omega)
    clear s1 s2
    refine Ex2 ?_
    refine Cl2 n_integer_Mul (k_Mul (s := x * x) mx mx mxx (ht.ext x3) rfl) fun w4 x4 => ?_
    have x4 := x3.tr x4
    refine Cl2 n_integer_Root (k_RootSq' (by omega) mxx (ht.ext x4)) fun w5 x5 => ?_
    have x5 := x4.tr x5
    refine Cl2 n_integer_Add (k_Add (s := 2 * x) mx mx m2 (ht.ext x5) hadd) fun w6 x6 => ?_
    have x6 := x5.tr x6
    ((try simp -dsimp [go_sem]); repeat (simp -dsimp (disch := omega) only [w64, wu64, dlt_t, dlt_f, dle_t, dle_f, deq_t, deq_f, beq_t, beq_f, bne_t, bne_f, nlt_t, nlt_f, nle_t, nle_f, neq_t, neq_f, nbeq_t, nbeq_f, nbne_t, nbne_f, it_t, it_f, dit_t, dit_f]; try simp -dsimp [go_sem]))
    refine Cl1 n_integer_Compare (itoa0 ▸ k_Compare (x := x) (y := 0) mx m0 rfl) fun w7 x7 => ?_
    have x7 := x6.tr x7
    ((try simp -dsimp [go_sem]); repeat (simp -dsimp (disch := omega) only [w64, wu64, dlt_t, dlt_f, dle_t, dle_f, deq_t, deq_f, beq_t, beq_f, bne_t, bne_f, nlt_t, nlt_f, nle_t, nle_f, neq_t, neq_f, nbeq_t, nbeq_f, nbne_t, nbne_f, it_t, it_f, dit_t, dit_f]; try simp -dsimp [go_sem]))
    refine Cl2 n_integer_Mul (k_Mul (s := s * s) ms ms mss (ht.ext x7) rfl) fun w8 x8 => ?_
    have x8 := x7.tr x8
    refine Cl2 n_integer_Add (l1 ▸ k_Add (x := s) (y := 1) (s := s + 1) ms m1 mn (ht.ext x8) rfl) fun w9 x9 => ?_
    have x9 := x8.tr x9
    refine Cl2 n_integer_Mul (k_Mul (s := (s + 1) * (s + 1)) mn mn mnn (ht.ext x9) rfl) fun w10 x10 => ?_
    have x10 := x9.tr x10
    ((try simp -dsimp [go_sem]); repeat (simp -dsimp (disch := omega) only [w64, wu64, dlt_t, dlt_f, dle_t, dle_f, deq_t, deq_f, beq_t, beq_f, bne_t, bne_f, nlt_t, nlt_f, nle_t, nle_f, neq_t, neq_f, nbeq_t, nbeq_f, nbne_t, nbne_f, it_t, it_f, dit_t, dit_f]; try simp -dsimp [go_sem]))
    refine Cl1 n_integer_Compare (k_Compare mss mx rfl) fun w11 x11 => ?_
    have x11 := x10.tr x11
    ((try simp -dsimp [go_sem]); repeat (simp -dsimp (disch := omega) only [w64, wu64, dlt_t, dlt_f, dle_t, dle_f, deq_t, deq_f, beq_t, beq_f, bne_t, bne_f, nlt_t, nlt_f, nle_t, nle_f, neq_t, neq_f, nbeq_t, nbeq_f, nbne_t, nbne_f, it_t, it_f, dit_t, dit_f]; try simp -dsimp [go_sem]))
    refine Cl1 n_integer_Compare (k_Compare mnn mx c2) fun w12 x12 => ?_
    have x12 := x11.tr x12
    ((try simp -dsimp [go_sem]); repeat (simp -dsimp (disch := omega) only [w64, wu64, dlt_t, dlt_f, dle_t, dle_f, deq_t, deq_f, beq_t, beq_f, bne_t, bne_f, nlt_t, nlt_f, nle_t, nle_f, neq_t, neq_f, nbeq_t, nbeq_f, nbne_t, nbne_f, it_t, it_f, dit_t, dit_f]; try simp -dsimp [go_sem]))
    exact Ret.mk ⟨x12, rfl⟩
end Go.Proofs.YtocilcjojdjfdaaGreatDoor
