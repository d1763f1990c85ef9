/-
  Contracts of functions of the program, and plain lemmas on numbers and strings. By an AI agent.
-/
import Derived.Test.YtocilcjojdjfdaaGreatDoorStrY
import Derived.Test.YtocilcjojdjfdaaGreatDoorPlain
set_option linter.unusedSimpArgs false
set_option linter.unusedVariables false
namespace Go.Proofs.YtocilcjojdjfdaaGreatDoor
open Go Go.Eng Go.Proofs Go.Num Go.RowKit
set_option maxRecDepth 100000
set_option linter.unusedVariables false
def ErrV (w : World) : Prop := (∃ tp p, w.var? Tryz.prog "strconv.ErrSyntax" = some #[.iface tp p]) ∧ ∃ tp p, w.var? Tryz.prog "strconv.ErrRange" = some #[.iface tp p]
theorem errS_named : ∃ g, Tryz.prog.globalNamed "strconv.ErrSyntax" = some g := Option.isSome_iff_exists.1 (by kernel_rfl)
theorem errR_named : ∃ g, Tryz.prog.globalNamed "strconv.ErrRange" = some g := Option.isSome_iff_exists.1 (by kernel_rfl)
theorem ErrV.ext {w w' : World} (h : ErrV w) (he : Ext w w') : ErrV w' := by
  obtain ⟨⟨tp, p, h1⟩, tp', p', h2⟩ := h
  obtain ⟨g, hg⟩ := errS_named
  obtain ⟨g', hg'⟩ := errR_named
  exact ⟨⟨tp, p, Joins.var_stays hg h1 he (Nat.le_refl _)⟩, tp', p', Joins.var_stays hg' h2 he (Nat.le_refl _)⟩
theorem c_AtoiAll {s : List UInt8} {w : World} (hs : s.length ≤ 1000000) (he : ErrV w) :
    Calls Tryz.prog 57 #[str s] w (Ret fun r w' => Ext w w' ∧ ((∃ v, Lib.atoiAll s = .ok v ∧ r = .tuple #[.int .i64 v, .nilIface]) ∨ (∃ n b, (∀ v, Lib.atoiAll s ≠ .ok v) ∧ r = .tuple #[.int .i64 n, .iface 105 (.pointer (some ⟨b, 0, none⟩))]))) := by
  obtain ⟨⟨tp, p, h1⟩, tp', p', h2⟩ := he
  have hsz : (ByteArray.mk s.toArray).size = s.length := rfl
  cases hv : Lib.atoiAll s
  · next v =>
    refine (Tryz.strconv_Atoi_ok ⟨s.toArray⟩ (by omega) v hv w).mono ?_
    rintro _ w' ⟨rfl, rfl | ⟨t, rfl⟩⟩
    · exact Ret.mk ⟨.refl _, .inl ⟨v, rfl, rfl⟩⟩
    · exact Ret.mk ⟨Lib.bytesWorld_below _ _ _, .inl ⟨v, rfl, rfl⟩⟩
  · refine (Any.strconv_Atoi_syntax_var Tryz.laysC172 ⟨s.toArray⟩ (by omega) hv tp p w h1).mono ?_
    rintro _ w' ⟨N, rfl, _, _, hb⟩
    exact Ret.mk ⟨hb, .inr ⟨_, N, by simp, rfl⟩⟩
  · refine (Tryz.strconv_Atoi_range_var ⟨s.toArray⟩ (by omega) hv tp' p' w h2).mono ?_
    rintro _ w' ⟨N, rfl, _, _, hb⟩
    exact Ret.mk ⟨hb, .inr ⟨_, N, by simp, rfl⟩⟩
def toIntV (s : List UInt8) : Value := if validB s then (match Lib.atoiAll s with | .ok v => .tuple #[.int .i64 v, .int .i64 0] | _ => .tuple #[.int .i64 0, .int .i64 30]) else .tuple #[.int .i64 0, .int .i64 30]
theorem c_ToInt {s : List UInt8} {w : World} (hs : s.length ≤ 1000000) (he : ErrV w) :
    Calls Tryz.prog 31 #[str s] w (Ret fun r w' => Ext w w' ∧ r = toIntV s) := by
  apply e_integer_ToInt
  unfold s_integer_ToInt
  refine Cl_i n_strconv_Atoi (c_AtoiAll hs he) ?_
  rintro _ w1 ⟨h1, ⟨v, hv, rfl⟩ | ⟨n, b, hv, rfl⟩⟩
  · ((try simp -dsimp [go_sem]); repeat (simp -dsimp (disch := omega) only [w64, wu64, dlt_t, dlt_f, dle_t, dle_f, deq_t, deq_f, beq_t, beq_f, bne_t, bne_f, nlt_t, nlt_f, nle_t, nle_f, neq_t, neq_f, nbeq_t, nbeq_f, nbne_t, nbne_f, it_t, it_f, dit_t, dit_f]; try simp -dsimp [go_sem]))
    refine Cl_i n_integer_isValid (c_isValid hs) ?_
    rintro _ w2 ⟨h2, rfl⟩
    cases hb : validB s with
    | true =>
      ((try simp -dsimp [go_sem]); repeat (simp -dsimp (disch := omega) only [w64, wu64, dlt_t, dlt_f, dle_t, dle_f, deq_t, deq_f, beq_t, beq_f, bne_t, bne_f, nlt_t, nlt_f, nle_t, nle_f, neq_t, neq_f, nbeq_t, nbeq_f, nbne_t, nbne_f, it_t, it_f, dit_t, dit_f]; try simp -dsimp [go_sem]))
      exact Ret.mk ⟨h1.tr h2, by simp [toIntV, hb, hv]⟩
    | false =>
      ((try simp -dsimp [go_sem]); repeat (simp -dsimp (disch := omega) only [w64, wu64, dlt_t, dlt_f, dle_t, dle_f, deq_t, deq_f, beq_t, beq_f, bne_t, bne_f, nlt_t, nlt_f, nle_t, nle_f, neq_t, neq_f, nbeq_t, nbeq_f, nbne_t, nbne_f, it_t, it_f, dit_t, dit_f]; try simp -dsimp [go_sem]))
      exact Ret.mk ⟨h1.tr h2, by simp [toIntV, hb]⟩
  · ((try simp -dsimp [go_sem]); repeat (simp -dsimp (disch := omega) only [w64, wu64, dlt_t, dlt_f, dle_t, dle_f, deq_t, deq_f, beq_t, beq_f, bne_t, bne_f, nlt_t, nlt_f, nle_t, nle_f, neq_t, neq_f, nbeq_t, nbeq_f, nbne_t, nbne_f, it_t, it_f, dit_t, dit_f]; try simp -dsimp [go_sem]))
    refine Cl_i n_integer_isValid (c_isValid hs) ?_
    rintro _ w2 ⟨h2, rfl⟩
    have hnot : (match Lib.atoiAll s with | .ok v => Value.tuple #[.int .i64 v, .int .i64 0] | _ => .tuple #[.int .i64 0, .int .i64 30]) = .tuple #[.int .i64 0, .int .i64 30] := by
      split
      · next v h => exact absurd h (hv v)
      · rfl
    cases hb : validB s with
    | true =>
      ((try simp -dsimp [go_sem]); repeat (simp -dsimp (disch := omega) only [w64, wu64, dlt_t, dlt_f, dle_t, dle_f, deq_t, deq_f, beq_t, beq_f, bne_t, bne_f, nlt_t, nlt_f, nle_t, nle_f, neq_t, neq_f, nbeq_t, nbeq_f, nbne_t, nbne_f, it_t, it_f, dit_t, dit_f]; try simp -dsimp [go_sem]))
      exact Ret.mk ⟨h1.tr h2, by unfold toIntV; rw [hb, if_pos rfl, hnot]⟩
    | false =>
      ((try simp -dsimp [go_sem]); repeat (simp -dsimp (disch := omega) only [w64, wu64, dlt_t, dlt_f, dle_t, dle_f, deq_t, deq_f, beq_t, beq_f, bne_t, bne_f, nlt_t, nlt_f, nle_t, nle_f, neq_t, neq_f, nbeq_t, nbeq_f, nbne_t, nbne_f, it_t, it_f, dit_t, dit_f]; try simp -dsimp [go_sem]))
      exact Ret.mk ⟨h1.tr h2, by simp [toIntV, hb]⟩
theorem toIntV_itoa {z : Int} (hz : z.natAbs < MaxI) : toIntV (Lib.itoa z) = if -9223372036854775808 ≤ z ∧ z ≤ 9223372036854775807 then .tuple #[.int .i64 z, .int .i64 0] else .tuple #[.int .i64 0, .int .i64 30] := by
  unfold toIntV
  rw [valid_itoa, decide_eq_true hz, if_pos rfl, atoiAll_itoa]
  by_cases hh : -9223372036854775808 ≤ z ∧ z ≤ 9223372036854775807
  · rw [if_pos hh, if_pos hh]
  · rw [if_neg hh, if_neg hh]
end Go.Proofs.YtocilcjojdjfdaaGreatDoor
