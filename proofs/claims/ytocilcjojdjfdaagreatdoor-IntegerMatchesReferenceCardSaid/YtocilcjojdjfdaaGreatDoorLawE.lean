/-
  Contracts of functions of the program, and plain lemmas on numbers and strings. By an AI agent.
-/
import Derived.Test.YtocilcjojdjfdaaGreatDoorLaw
import Derived.Test.YtocilcjojdjfdaaGreatDoorStrZ
set_option linter.unusedSimpArgs false
set_option linter.unusedVariables false
namespace Go.Proofs.YtocilcjojdjfdaaGreatDoor
open Go Go.Eng Go.Proofs Go.Num Go.RowKit
set_option maxRecDepth 100000
set_option linter.unusedVariables false
theorem cut_eq (s : List UInt8) {m : Int} {k : Nat} (h : m = k) : (ByteArray.mk s.toArray).extract 0 (min (s.length : Int) m).toNat = ⟨(s.take k).toArray⟩ := by
  subst h
  apply ByteArray.ext
  apply Array.toList_inj.1
  rw [Lib.extract_data]
  simp only [List.drop_zero, Nat.sub_zero]
  rcases Nat.le_total s.length k with h | h
  · rw [List.take_of_length_le (show s.length ≤ (min (s.length : Int) (k : Int)).toNat by omega), List.take_of_length_le h]
  · rw [show (min (s.length : Int) (k : Int)).toNat = k from by omega]
theorem i64_MaxI {n : Int} (h0 : -9223372036854775808 ≤ n) (h1 : n ≤ 9223372036854775807) : n.natAbs < MaxI := by
  have : (20 : Nat) ≤ 200 := by decide
  exact Sz.max (k := 20) (by unfold Sz; omega) this
theorem k_ToInt {n : Int} {w : World} (h0 : -9223372036854775808 ≤ n) (h1 : n ≤ 9223372036854775807) (he : ErrV w) :
    Calls Tryz.prog 31 #[str (Lib.itoa n)] w (Ret fun r w' => Ext w w' ∧ r = .tuple #[.int .i64 n, .int .i64 0]) := by
  have hm := i64_MaxI h0 h1
  refine Ret.lit (c_ToInt (by have := itoa_length hm; omega) he) ?_
  rw [toIntV_itoa hm, if_pos ⟨h0, h1⟩]
theorem k_ToInt_bad {u : List UInt8} {w : World} (hu : u.length ≤ 1000000) (he : ErrV w) (h : ¬ ∃ n : Int, -9223372036854775808 ≤ n ∧ n ≤ 9223372036854775807 ∧ u = Lib.itoa n) :
    Calls Tryz.prog 31 #[str u] w (Ret fun r w' => Ext w w' ∧ r = .tuple #[.int .i64 0, .int .i64 30]) := by
  refine Ret.lit (c_ToInt hu he) ?_
  cases hv : validB u with
  | false => unfold toIntV; rw [hv]; rfl
  | true =>
    obtain ⟨z, hz, rfl⟩ := valid_ex hv
    have hne : ¬ (-9223372036854775808 ≤ z ∧ z ≤ 9223372036854775807) := fun hc => h ⟨z, hc.1, hc.2, rfl⟩
    rw [toIntV_itoa hz, if_neg hne]
theorem law_Text {n : Int} {s : List UInt8} {w : World} (h0 : -9223372036854775808 ≤ n) (h1 : n ≤ 9223372036854775807) (ht : Tab w) (he : ErrV w) :
    Calls Tryz.prog 11 #[.int .i64 n, str s] w (Ret fun r w' => Ext w w' ∧ r = .bool true) := by
  have hn := i64_MaxI h0 h1
  obtain ⟨u, hu⟩ : ∃ u, u = s.take 30 := ⟨_, rfl⟩
  have hul : u.length ≤ 30 := by rw [hu]; simp; omega
  have hvn : validB (Lib.itoa n) = true := by rw [valid_itoa]; exact decide_eq_true hn
  have hln : (Lib.itoa n).length ≤ 1000000 := by have := itoa_length hn; omega
  by_cases hz : ∃ z : Int, -9223372036854775808 ≤ z ∧ z ≤ 9223372036854775807 ∧ u = Lib.itoa z
  · obtain ⟨z, hz0, hz1, rfl⟩ := hz
    have hm := i64_MaxI hz0 hz1
    have hvz : validB (Lib.itoa z) = true := by rw [valid_itoa]; exact decide_eq_true hm
    apply e_law03_IntegerText
    unfold s_law03_IntegerText
    refine Cl1 n_law03_sane (c_sane ht) fun w1 x1 => ?_
    ((try simp -dsimp [go_sem, size_str, cut_eq s (m := 30) (k := 30) rfl, ← hu]); repeat (simp -dsimp (disch := omega) only [w64, wu64, dlt_t, dlt_f, dle_t, dle_f, deq_t, deq_f, beq_t, beq_f, bne_t, bne_f, nlt_t, nlt_f, nle_t, nle_f, neq_t, neq_f, nbeq_t, nbeq_f, nbne_t, nbne_f, it_t, it_f, dit_t, dit_f]; try simp -dsimp [go_sem, size_str, cut_eq s (m := 30) (k := 30) rfl, ← hu]))
    refine Cl1 n_integer_FromInt (c_FromInt h0 h1 (ht.ext x1)) fun w2 x2 => ?_
    have x2 := x1.tr x2
    refine Cl2 n_integer_ToInt (k_ToInt h0 h1 (he.ext x2)) fun w3 x3 => ?_
    have x3 := x2.tr x3
    refine Cl2 n_integer_ToInt (k_ToInt hz0 hz1 (he.ext x3)) fun w4 x4 => ?_
    have x4 := x3.tr x4
    ((try simp -dsimp [go_sem]); repeat (simp -dsimp (disch := omega) only [w64, wu64, dlt_t, dlt_f, dle_t, dle_f, deq_t, deq_f, beq_t, beq_f, bne_t, bne_f, nlt_t, nlt_f, nle_t, nle_f, neq_t, neq_f, nbeq_t, nbeq_f, nbne_t, nbne_f, it_t, it_f, dit_t, dit_f]; try simp -dsimp [go_sem]))
    refine Cl1 n_integer_Valid (sanV hln hvn) fun w5 x5 => ?_
    have x5 := x4.tr x5
    ((try simp -dsimp [go_sem]); repeat (simp -dsimp (disch := omega) only [w64, wu64, dlt_t, dlt_f, dle_t, dle_f, deq_t, deq_f, beq_t, beq_f, bne_t, bne_f, nlt_t, nlt_f, nle_t, nle_f, neq_t, neq_f, nbeq_t, nbeq_f, nbne_t, nbne_f, it_t, it_f, dit_t, dit_f]; try simp -dsimp [go_sem]))
    refine Cl1 n_integer_Valid (sanV (by omega) hvz) fun w6 x6 => ?_
    have x6 := x5.tr x6
    ((try simp -dsimp [go_sem]); repeat (simp -dsimp (disch := omega) only [w64, wu64, dlt_t, dlt_f, dle_t, dle_f, deq_t, deq_f, beq_t, beq_f, bne_t, bne_f, nlt_t, nlt_f, nle_t, nle_f, neq_t, neq_f, nbeq_t, nbeq_f, nbne_t, nbne_f, it_t, it_f, dit_t, dit_f]; try simp -dsimp [go_sem]))
    refine Cl1 n_integer_FromInt (c_FromInt hz0 hz1 (ht.ext x6)) fun w7 x7 => ?_
    have x7 := x6.tr x7
    ((try simp -dsimp [go_sem]); repeat (simp -dsimp (disch := omega) only [w64, wu64, dlt_t, dlt_f, dle_t, dle_f, deq_t, deq_f, beq_t, beq_f, bne_t, bne_f, nlt_t, nlt_f, nle_t, nle_f, neq_t, neq_f, nbeq_t, nbeq_f, nbne_t, nbne_f, it_t, it_f, dit_t, dit_f]; try simp -dsimp [go_sem]))
    exact Ret.mk ⟨x7, rfl⟩
  · apply e_law03_IntegerText
    unfold s_law03_IntegerText
    refine Cl1 n_law03_sane (c_sane ht) fun w1 x1 => ?_
    ((try simp -dsimp [go_sem, size_str, cut_eq s (m := 30) (k := 30) rfl, ← hu]); repeat (simp -dsimp (disch := omega) only [w64, wu64, dlt_t, dlt_f, dle_t, dle_f, deq_t, deq_f, beq_t, beq_f, bne_t, bne_f, nlt_t, nlt_f, nle_t, nle_f, neq_t, neq_f, nbeq_t, nbeq_f, nbne_t, nbne_f, it_t, it_f, dit_t, dit_f]; try simp -dsimp [go_sem, size_str, cut_eq s (m := 30) (k := 30) rfl, ← hu]))
    refine Cl1 n_integer_FromInt (c_FromInt h0 h1 (ht.ext x1)) fun w2 x2 => ?_
    have x2 := x1.tr x2
    refine Cl2 n_integer_ToInt (k_ToInt h0 h1 (he.ext x2)) fun w3 x3 => ?_
    have x3 := x2.tr x3
    refine Cl2 n_integer_ToInt (k_ToInt_bad (by omega) (he.ext x3) hz) fun w4 x4 => ?_
    have x4 := x3.tr x4
    ((try simp -dsimp [go_sem]); repeat (simp -dsimp (disch := omega) only [w64, wu64, dlt_t, dlt_f, dle_t, dle_f, deq_t, deq_f, beq_t, beq_f, bne_t, bne_f, nlt_t, nlt_f, nle_t, nle_f, neq_t, neq_f, nbeq_t, nbeq_f, nbne_t, nbne_f, it_t, it_f, dit_t, dit_f]; try simp -dsimp [go_sem]))
    refine Cl1 n_integer_Valid (sanV hln hvn) fun w5 x5 => ?_
    have x5 := x4.tr x5
    ((try simp -dsimp [go_sem]); repeat (simp -dsimp (disch := omega) only [w64, wu64, dlt_t, dlt_f, dle_t, dle_f, deq_t, deq_f, beq_t, beq_f, bne_t, bne_f, nlt_t, nlt_f, nle_t, nle_f, neq_t, neq_f, nbeq_t, nbeq_f, nbne_t, nbne_f, it_t, it_f, dit_t, dit_f]; try simp -dsimp [go_sem]))
    exact Ret.mk ⟨x5, rfl⟩
end Go.Proofs.YtocilcjojdjfdaaGreatDoor
