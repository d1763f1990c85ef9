/-
  Contracts of functions of the program, and plain lemmas on numbers and strings. By an AI agent.
-/
import Derived.Test.YtocilcjojdjfdaaGreatDoorLawG
set_option linter.unusedSimpArgs false
set_option linter.unusedVariables false
namespace Go.Proofs.YtocilcjojdjfdaaGreatDoor
open Go Go.Eng Go.Proofs Go.Num Go.RowKit
set_option maxRecDepth 100000
set_option linter.unusedVariables false
theorem law_Order {a b c : List UInt8} {w : World} (ht : Tab w) :
    Calls Tryz.prog 7 #[str a, str b, str c] w (Ret fun r w' => Ext w w' ∧ r = .bool true) := by
  apply e_law03_IntegerOrder
  unfold s_law03_IntegerOrder
  refine Cl1 n_law03_sane (c_sane ht) fun w1 x1 => ?_
  refine Cl_i n_ref03_Made (c_Made (m := 60) (by decide)) ?_
  rintro _ w2 ⟨x2, x, zx, rfl⟩
  have x2 := x1.tr x2
  refine Cl_i n_ref03_Made (c_Made (m := 60) (by decide)) ?_
  rintro _ w3 ⟨x3, y, zy, rfl⟩
  have x3 := x2.tr x3
  refine Cl_i n_ref03_Made (c_Made (m := 60) (by decide)) ?_
  rintro _ w4 ⟨x4, z, zz, rfl⟩
  have x4 := x3.tr x4
  have zx : Sz 60 x := zx
  have zy : Sz 60 y := zy
  have zz : Sz 60 z := zz
  have mx := zx.max (by decide)
  have my := zy.max (by decide)
  have mz := zz.max (by decide)
  have md := (zx.sub zy).max (by decide)
  have mxz := (zx.add zz).max (by decide)
  have myz := (zy.add zz).max (by decide)
  by_cases h : x < y
  · have e : (Lib.itoa x == Lib.itoa y) = false := by rw [beq_eq_false_iff_ne]; intro hc; have := itoa_inj hc; omega
    refine Cl1 n_integer_Compare (k_Compare mx my (cmpI_lt (by omega))) fun w5 x5 => ?_
    have x5 := x4.tr x5
    refine Cl2 n_integer_Sub (k_Sub (s := x - y) mx my md (ht.ext x5) rfl) fun w6 x6 => ?_
    have x6 := x5.tr x6
    refine Cl2 n_integer_Add (k_Add (s := x + z) mx mz mxz (ht.ext x6) rfl) fun w7 x7 => ?_
    have x7 := x6.tr x7
    refine Cl2 n_integer_Add (k_Add (s := y + z) my mz myz (ht.ext x7) rfl) fun w8 x8 => ?_
    have x8 := x7.tr x8
    ((try simp -dsimp [go_sem]); repeat (simp -dsimp (disch := omega) only [w64, wu64, dlt_t, dlt_f, dle_t, dle_f, deq_t, deq_f, beq_t, beq_f, bne_t, bne_f, nlt_t, nlt_f, nle_t, nle_f, neq_t, neq_f, nbeq_t, nbeq_f, nbne_t, nbne_f, it_t, it_f, dit_t, dit_f]; try simp -dsimp [go_sem]))
    refine Cl1 n_integer_Compare (k_Compare my mx (cmpI_gt (by omega))) fun w9 x9 => ?_
    have x9 := x8.tr x9
    ((try simp -dsimp [go_sem, e]); repeat (simp -dsimp (disch := omega) only [w64, wu64, dlt_t, dlt_f, dle_t, dle_f, deq_t, deq_f, beq_t, beq_f, bne_t, bne_f, nlt_t, nlt_f, nle_t, nle_f, neq_t, neq_f, nbeq_t, nbeq_f, nbne_t, nbne_f, it_t, it_f, dit_t, dit_f]; try simp -dsimp [go_sem, e]))
    refine Cl1 n_integer_Compare (itoa0 ▸ k_Compare (x := x - y) (y := 0) md m0 (cmpI_lt (by omega))) fun w10 x10 => ?_
    have x10 := x9.tr x10
    ((try simp -dsimp [go_sem]); repeat (simp -dsimp (disch := omega) only [w64, wu64, dlt_t, dlt_f, dle_t, dle_f, deq_t, deq_f, beq_t, beq_f, bne_t, bne_f, nlt_t, nlt_f, nle_t, nle_f, neq_t, neq_f, nbeq_t, nbeq_f, nbne_t, nbne_f, it_t, it_f, dit_t, dit_f]; try simp -dsimp [go_sem]))
    refine Cl1 n_integer_Compare (k_Compare mxz myz (cmpI_lt (by omega))) fun w11 x11 => ?_
    have x11 := x10.tr x11
    ((try simp -dsimp [go_sem]); repeat (simp -dsimp (disch := omega) only [w64, wu64, dlt_t, dlt_f, dle_t, dle_f, deq_t, deq_f, beq_t, beq_f, bne_t, bne_f, nlt_t, nlt_f, nle_t, nle_f, neq_t, neq_f, nbeq_t, nbeq_f, nbne_t, nbne_f, it_t, it_f, dit_t, dit_f]; try simp -dsimp [go_sem]))
    by_cases hz : z < y
    · refine Cl1 n_integer_Compare (k_Compare my mz (cmpI_gt hz)) fun w12 x12 => ?_
      have x12 := x11.tr x12
      ((try simp -dsimp [go_sem]); repeat (simp -dsimp (disch := omega) only [w64, wu64, dlt_t, dlt_f, dle_t, dle_f, deq_t, deq_f, beq_t, beq_f, bne_t, bne_f, nlt_t, nlt_f, nle_t, nle_f, neq_t, neq_f, nbeq_t, nbeq_f, nbne_t, nbne_f, it_t, it_f, dit_t, dit_f]; try simp -dsimp [go_sem]))
      exact Ret.mk ⟨x12, rfl⟩
    · have c1 := cmpI_le (show y ≤ z by omega)
      have c2 := cmpI_le (show x ≤ z by omega)
      refine Cl1 n_integer_Compare (k_Compare my mz rfl) fun w12 x12 => ?_
      have x12 := x11.tr x12
      ((try simp -dsimp [go_sem]); repeat (simp -dsimp (disch := omega) only [w64, wu64, dlt_t, dlt_f, dle_t, dle_f, deq_t, deq_f, beq_t, beq_f, bne_t, bne_f, nlt_t, nlt_f, nle_t, nle_f, neq_t, neq_f, nbeq_t, nbeq_f, nbne_t, nbne_f, it_t, it_f, dit_t, dit_f]; try simp -dsimp [go_sem]))
      refine Cl1 n_integer_Compare (k_Compare mx mz rfl) fun w13 x13 => ?_
      have x13 := x12.tr x13
      ((try simp -dsimp [go_sem]); repeat (simp -dsimp (disch := omega) only [w64, wu64, dlt_t, dlt_f, dle_t, dle_f, deq_t, deq_f, beq_t, beq_f, bne_t, bne_f, nlt_t, nlt_f, nle_t, nle_f, neq_t, neq_f, nbeq_t, nbeq_f, nbne_t, nbne_f, it_t, it_f, dit_t, dit_f]; try simp -dsimp [go_sem]))
      exact Ret.mk ⟨x13, rfl⟩
  · by_cases h2 : x = y
    · have e : (Lib.itoa x == Lib.itoa y) = true := by rw [h2]; exact beq_self_eq_true _
      refine Cl1 n_integer_Compare (k_Compare mx my (cmpI_eq (by omega))) fun w5 x5 => ?_
      have x5 := x4.tr x5
      refine Cl2 n_integer_Sub (k_Sub (s := x - y) mx my md (ht.ext x5) rfl) fun w6 x6 => ?_
      have x6 := x5.tr x6
      refine Cl2 n_integer_Add (k_Add (s := x + z) mx mz mxz (ht.ext x6) rfl) fun w7 x7 => ?_
      have x7 := x6.tr x7
      refine Cl2 n_integer_Add (k_Add (s := y + z) my mz myz (ht.ext x7) rfl) fun w8 x8 => ?_
      have x8 := x7.tr x8
      ((try simp -dsimp [go_sem]); repeat (simp -dsimp (disch := omega) only [w64, wu64, dlt_t, dlt_f, dle_t, dle_f, deq_t, deq_f, beq_t, beq_f, bne_t, bne_f, nlt_t, nlt_f, nle_t, nle_f, neq_t, neq_f, nbeq_t, nbeq_f, nbne_t, nbne_f, it_t, it_f, dit_t, dit_f]; try simp -dsimp [go_sem]))
      refine Cl1 n_integer_Compare (k_Compare my mx (cmpI_eq (by omega))) fun w9 x9 => ?_
      have x9 := x8.tr x9
      ((try simp -dsimp [go_sem, e]); repeat (simp -dsimp (disch := omega) only [w64, wu64, dlt_t, dlt_f, dle_t, dle_f, deq_t, deq_f, beq_t, beq_f, bne_t, bne_f, nlt_t, nlt_f, nle_t, nle_f, neq_t, neq_f, nbeq_t, nbeq_f, nbne_t, nbne_f, it_t, it_f, dit_t, dit_f]; try simp -dsimp [go_sem, e]))
      refine Cl1 n_integer_Compare (itoa0 ▸ k_Compare (x := x - y) (y := 0) md m0 (cmpI_eq (by omega))) fun w10 x10 => ?_
      have x10 := x9.tr x10
      ((try simp -dsimp [go_sem]); repeat (simp -dsimp (disch := omega) only [w64, wu64, dlt_t, dlt_f, dle_t, dle_f, deq_t, deq_f, beq_t, beq_f, bne_t, bne_f, nlt_t, nlt_f, nle_t, nle_f, neq_t, neq_f, nbeq_t, nbeq_f, nbne_t, nbne_f, it_t, it_f, dit_t, dit_f]; try simp -dsimp [go_sem]))
      refine Cl1 n_integer_Compare (k_Compare mxz myz (cmpI_eq (by omega))) fun w11 x11 => ?_
      have x11 := x10.tr x11
      ((try simp -dsimp [go_sem]); repeat (simp -dsimp (disch := omega) only [w64, wu64, dlt_t, dlt_f, dle_t, dle_f, deq_t, deq_f, beq_t, beq_f, bne_t, bne_f, nlt_t, nlt_f, nle_t, nle_f, neq_t, neq_f, nbeq_t, nbeq_f, nbne_t, nbne_f, it_t, it_f, dit_t, dit_f]; try simp -dsimp [go_sem]))
      by_cases hz : z < y
      · refine Cl1 n_integer_Compare (k_Compare my mz (cmpI_gt hz)) fun w12 x12 => ?_
        have x12 := x11.tr x12
        ((try simp -dsimp [go_sem]); repeat (simp -dsimp (disch := omega) only [w64, wu64, dlt_t, dlt_f, dle_t, dle_f, deq_t, deq_f, beq_t, beq_f, bne_t, bne_f, nlt_t, nlt_f, nle_t, nle_f, neq_t, neq_f, nbeq_t, nbeq_f, nbne_t, nbne_f, it_t, it_f, dit_t, dit_f]; try simp -dsimp [go_sem]))
        exact Ret.mk ⟨x12, rfl⟩
      · have c1 := cmpI_le (show y ≤ z by omega)
        have c2 := cmpI_le (show x ≤ z by omega)
        refine Cl1 n_integer_Compare (k_Compare my mz rfl) fun w12 x12 => ?_
        have x12 := x11.tr x12
        ((try simp -dsimp [go_sem]); repeat (simp -dsimp (disch := omega) only [w64, wu64, dlt_t, dlt_f, dle_t, dle_f, deq_t, deq_f, beq_t, beq_f, bne_t, bne_f, nlt_t, nlt_f, nle_t, nle_f, neq_t, neq_f, nbeq_t, nbeq_f, nbne_t, nbne_f, it_t, it_f, dit_t, dit_f]; try simp -dsimp [go_sem]))
        refine Cl1 n_integer_Compare (k_Compare mx mz rfl) fun w13 x13 => ?_
        have x13 := x12.tr x13
        ((try simp -dsimp [go_sem]); repeat (simp -dsimp (disch := omega) only [w64, wu64, dlt_t, dlt_f, dle_t, dle_f, deq_t, deq_f, beq_t, beq_f, bne_t, bne_f, nlt_t, nlt_f, nle_t, nle_f, neq_t, neq_f, nbeq_t, nbeq_f, nbne_t, nbne_f, it_t, it_f, dit_t, dit_f]; try simp -dsimp [go_sem]))
        exact Ret.mk ⟨x13, rfl⟩
    · have e : (Lib.itoa x == Lib.itoa y) = false := by rw [beq_eq_false_iff_ne]; intro hc; have := itoa_inj hc; omega
      refine Cl1 n_integer_Compare (k_Compare mx my (cmpI_gt (by omega))) fun w5 x5 => ?_
      have x5 := x4.tr x5
      refine Cl2 n_integer_Sub (k_Sub (s := x - y) mx my md (ht.ext x5) rfl) fun w6 x6 => ?_
      have x6 := x5.tr x6
      refine Cl2 n_integer_Add (k_Add (s := x + z) mx mz mxz (ht.ext x6) rfl) fun w7 x7 => ?_
      have x7 := x6.tr x7
      refine Cl2 n_integer_Add (k_Add (s := y + z) my mz myz (ht.ext x7) rfl) fun w8 x8 => ?_
      have x8 := x7.tr x8
      ((try simp -dsimp [go_sem]); repeat (simp -dsimp (disch := omega) only [w64, wu64, dlt_t, dlt_f, dle_t, dle_f, deq_t, deq_f, beq_t, beq_f, bne_t, bne_f, nlt_t, nlt_f, nle_t, nle_f, neq_t, neq_f, nbeq_t, nbeq_f, nbne_t, nbne_f, it_t, it_f, dit_t, dit_f]; try simp -dsimp [go_sem]))
      refine Cl1 n_integer_Compare (k_Compare my mx (cmpI_lt (by omega))) fun w9 x9 => ?_
      have x9 := x8.tr x9
      ((try simp -dsimp [go_sem, e]); repeat (simp -dsimp (disch := omega) only [w64, wu64, dlt_t, dlt_f, dle_t, dle_f, deq_t, deq_f, beq_t, beq_f, bne_t, bne_f, nlt_t, nlt_f, nle_t, nle_f, neq_t, neq_f, nbeq_t, nbeq_f, nbne_t, nbne_f, it_t, it_f, dit_t, dit_f]; try simp -dsimp [go_sem, e]))
      refine Cl1 n_integer_Compare (itoa0 ▸ k_Compare (x := x - y) (y := 0) md m0 (cmpI_gt (by omega))) fun w10 x10 => ?_
      have x10 := x9.tr x10
      ((try simp -dsimp [go_sem]); repeat (simp -dsimp (disch := omega) only [w64, wu64, dlt_t, dlt_f, dle_t, dle_f, deq_t, deq_f, beq_t, beq_f, bne_t, bne_f, nlt_t, nlt_f, nle_t, nle_f, neq_t, neq_f, nbeq_t, nbeq_f, nbne_t, nbne_f, it_t, it_f, dit_t, dit_f]; try simp -dsimp [go_sem]))
      refine Cl1 n_integer_Compare (k_Compare mxz myz (cmpI_gt (by omega))) fun w11 x11 => ?_
      have x11 := x10.tr x11
      ((try simp -dsimp [go_sem]); repeat (simp -dsimp (disch := omega) only [w64, wu64, dlt_t, dlt_f, dle_t, dle_f, deq_t, deq_f, beq_t, beq_f, bne_t, bne_f, nlt_t, nlt_f, nle_t, nle_f, neq_t, neq_f, nbeq_t, nbeq_f, nbne_t, nbne_f, it_t, it_f, dit_t, dit_f]; try simp -dsimp [go_sem]))
      exact Ret.mk ⟨x11, rfl⟩
end Go.Proofs.YtocilcjojdjfdaaGreatDoor
