/-
  Proved: RationalMatchesReference returns true for every input, and its arguments read as before. Conditions: the row's own (the listed library variables as the program's text lays them; the card ties them). By an AI agent.
-/
import Derived.Test.YthpcmmfijelbaaaGreatDoorTie
import Derived.Test.YthpcmmfijelbaaaGreatDoorCards
import Derived.Test.YthpcmmfijelbaaaGreatDoorQMatch
import Derived.Test.YthpcmmfijelbaaaGreatDoorCardA
import Derived.Test.YthpcmmfijelbaaaGreatDoorCardI
import Derived.Test.YthpcmmfijelbaaaGreatDoorCardS
import Derived.ProofKit
import Derived.ChangeMaps5
import Derived.OpenShut
import Derived.LaidMore
import Derived.Lay
import Derived.SevenTiedAt
import Derived.Stop.Joined
set_option linter.unusedSimpArgs false
set_option linter.unusedVariables false
set_option linter.unusedSectionVars false
namespace Go.Proofs.YthpcmmfijelbaaaGreatDoor
open Go.ChangeShapes Go.WideShapes Go.ChangeAt Go.RowKit Go.ChangeMaps
set_option linter.unusedVariables false
set_option maxRecDepth 100000 in
theorem lifted_rationalMatchesReference (os : Os) (started : os.Started) (H : Type) (enc : TypeId × Value → H) :
    ReturnsInHanded {} Tryz.checked os 6 .any (fun w args => (Rows.rationalMatchesReferenceSpec.pre enc Tryz.prog Tryz.f6 Rows.rationalMatchesReferenceRow.domain false w args ∧ laidMetH Tryz.prog Rows.rationalMatchesReferenceRow.laid w) ∧ sizedMet enc Tryz.prog Tryz.f6 (OpenSpec.ofChange Rows.rationalMatchesReferenceSpec) false w args)
      (Rows.rationalMatchesReferenceSpec.post enc Tryz.prog Tryz.f6 false true false false) := by
  refine handed_shaped (C := Tryz.checked) (X := fun w _ => laidMetH Tryz.prog Rows.rationalMatchesReferenceRow.laid w) (fun _ _ _ hh h => h.of_heap hh) own started (by kernel_rfl) Tryz.func6
    (ChangeSpec.witness_shaped (enc := enc) (C := Tryz.checked) (os := os) (X := fun w _ => laidMetH Tryz.prog Rows.rationalMatchesReferenceRow.laid w) false (World.laidAll Tryz.prog os Rows.rationalMatchesReferenceRow.laid) #[.agg #[.string ⟨#[]⟩, .string ⟨#[]⟩], .agg #[.string ⟨#[]⟩, .string ⟨#[]⟩], .agg #[.int .i64 0, .int .i64 0, .int .i64 0, .int .i64 0], .agg #[.int .i64 0, .int .i64 0, .int .i64 0, .int .i64 0], .agg #[.int .i64 0, .int .i64 0], .int .i64 0, .int .i64 0, .int .i64 0] 8 (World.laidAll_os _ _ _)
      (World.shaped_of_ZipB (by kernel_rfl) (by kernel_rfl)) (by kernel_rfl) (by kernel_rfl) (by kernel_rfl)
      (by rw [MakeChecks.laidMetH_plain _ _ _ (by kernel_rfl)]; exact laidMet_laidAll _ (by kernel_rfl) (by kernel_rfl))) ?_
  intro W base args ds gs before hsh hval0 hW hL
  have hval : ∀ (j : Nat) t v, Tryz.f6.params[j]? = some t → args[j]? = some v → Value.okWide Tryz.prog W .any base t v := hval0
  have hW' := hW
  obtain ⟨p, q, hA0, hV, rfl, _, _⟩ := hW
  have hA : DataW.TrodAll enc Tryz.prog W 0 (fun _ => true) true Tryz.f6.params.toList args.toList ds p := hA0
  rw [Tryz.params6] at hA hval
  obtain ⟨v0, vs0, d0, ds0, p0, q0, hargs, rfl, rfl, h0, r0⟩ := trodAll_cons hA
  obtain ⟨v1, vs1, d1, ds1, p1, q1, rfl, rfl, rfl, h1, r1⟩ := trodAll_cons r0
  obtain ⟨v2, vs2, d2, ds2, p2, q2, rfl, rfl, rfl, h2, r2⟩ := trodAll_cons r1
  obtain ⟨v3, vs3, d3, ds3, p3, q3, rfl, rfl, rfl, h3, r3⟩ := trodAll_cons r2
  obtain ⟨v4, vs4, d4, ds4, p4, q4, rfl, rfl, rfl, h4, r4⟩ := trodAll_cons r3
  obtain ⟨v5, vs5, d5, ds5, p5, q5, rfl, rfl, rfl, h5, r5⟩ := trodAll_cons r4
  obtain ⟨v6, vs6, d6, ds6, p6, q6, rfl, rfl, rfl, h6, r6⟩ := trodAll_cons r5
  obtain ⟨v7, vs7, d7, ds7, p7, q7, rfl, rfl, rfl, h7, r7⟩ := trodAll_cons r6
  obtain ⟨rfl, rfl, rfl⟩ := trodAll_nil r7
  obtain rfl : args = #[v0, v1, v2, v3, v4, v5, v6, v7] := by cases args; simp_all
  obtain ⟨rfl, rfl⟩ := trodVars_none hV
  obtain ⟨a0x0, a0x1, rfl, rfl, rfl, w0x0, w0x1⟩ := open_R (hval 0 23 v0 rfl rfl) h0
  obtain ⟨a1x0, a1x1, rfl, rfl, rfl, w1x0, w1x1⟩ := open_R (hval 1 23 v1 rfl rfl) h1
  obtain ⟨a2x0, a2x1, a2x2, a2x3, rfl, rfl, rfl, w2x0, w2x1, w2x2, w2x3⟩ := open_I4 (hval 2 24 v2 rfl rfl) h2
  have z2x0 : -9223372036854775808 ≤ a2x0 ∧ a2x0 ≤ 9223372036854775807 := lit_i64 w2x0
  have z2x1 : -9223372036854775808 ≤ a2x1 ∧ a2x1 ≤ 9223372036854775807 := lit_i64 w2x1
  have z2x2 : -9223372036854775808 ≤ a2x2 ∧ a2x2 ≤ 9223372036854775807 := lit_i64 w2x2
  have z2x3 : -9223372036854775808 ≤ a2x3 ∧ a2x3 ≤ 9223372036854775807 := lit_i64 w2x3
  obtain ⟨a3x0, a3x1, a3x2, a3x3, rfl, rfl, rfl, w3x0, w3x1, w3x2, w3x3⟩ := open_I4 (hval 3 24 v3 rfl rfl) h3
  have z3x0 : -9223372036854775808 ≤ a3x0 ∧ a3x0 ≤ 9223372036854775807 := lit_i64 w3x0
  have z3x1 : -9223372036854775808 ≤ a3x1 ∧ a3x1 ≤ 9223372036854775807 := lit_i64 w3x1
  have z3x2 : -9223372036854775808 ≤ a3x2 ∧ a3x2 ≤ 9223372036854775807 := lit_i64 w3x2
  have z3x3 : -9223372036854775808 ≤ a3x3 ∧ a3x3 ≤ 9223372036854775807 := lit_i64 w3x3
  obtain ⟨a4x0, a4x1, rfl, rfl, rfl, w4x0, w4x1⟩ := open_I2 (hval 4 47 v4 rfl rfl) h4
  have z4x0 : -9223372036854775808 ≤ a4x0 ∧ a4x0 ≤ 9223372036854775807 := lit_i64 w4x0
  have z4x1 : -9223372036854775808 ≤ a4x1 ∧ a4x1 ≤ 9223372036854775807 := lit_i64 w4x1
  obtain ⟨a5, rfl, rfl, rfl, w5⟩ := open_int Tryz.underlying3 (hval 5 3 v5 rfl rfl) h5
  have z5 : -9223372036854775808 ≤ a5 ∧ a5 ≤ 9223372036854775807 := lit_i64 w5
  obtain ⟨a6, rfl, rfl, rfl, w6⟩ := open_int Tryz.underlying3 (hval 6 3 v6 rfl rfl) h6
  have z6 : -9223372036854775808 ≤ a6 ∧ a6 ≤ 9223372036854775807 := lit_i64 w6
  obtain ⟨a7, rfl, rfl, rfl, w7⟩ := open_int Tryz.underlying3 (hval 7 3 v7 rfl rfl) h7
  have z7 : -9223372036854775808 ≤ a7 ∧ a7 ≤ 9223372036854775807 := lit_i64 w7
  clear hA0 hval0
  simp only [List.append_nil] at hW'
  have ht := tab_of_laid hL
  have hM := maxV_of_shaped hsh
  have walk : Calls Tryz.prog 6 #[.agg #[.string a0x0, .string a0x1], .agg #[.string a1x0, .string a1x1], .agg #[.int .i64 a2x0, .int .i64 a2x1, .int .i64 a2x2, .int .i64 a2x3], .agg #[.int .i64 a3x0, .int .i64 a3x1, .int .i64 a3x2, .int .i64 a3x3], .agg #[.int .i64 a4x0, .int .i64 a4x1], .int .i64 a5, .int .i64 a6, .int .i64 a7] W (Eng.Ret fun r w' => Eng.Ext W w' ∧ r = .bool true) := i_Match z2x0 z2x1 z2x2 z2x3 z3x0 z3x1 z3x2 z3x3 z4x0 z4x1 z5 z6 z7 ht hM
  refine walk.mono fun e W' ⟨r, he, bel, hr⟩ => ?_
  subst he; subst hr
  exact ⟨_, rfl, _, _, _, [], _, [], hW', (trodAll_cons_mk (shut_bool Tryz.underlying4 _) trodAll_mk0), (trodAll_cons_mk (shut_R w0x0 w0x1) (trodAll_cons_mk (shut_R w1x0 w1x1) (trodAll_cons_mk (shut_I4 w2x0 w2x1 w2x2 w2x3) (trodAll_cons_mk (shut_I4 w3x0 w3x1 w3x2 w3x3) (trodAll_cons_mk (shut_I2 w4x0 w4x1) (trodAll_cons_mk (shut_int Tryz.underlying3 w5) (trodAll_cons_mk (shut_int Tryz.underlying3 w6) (trodAll_cons_mk (shut_int Tryz.underlying3 w7) trodAll_mk0)))))))), rfl, bel.frame _, fun h => by cases h⟩
theorem said_rationalMatchesReference : Rows.RationalMatchesReferenceSaid :=
  OpenClaim.holds_of_wide 6 Tryz.f6 rfl rfl rfl rfl rfl rfl rfl ⟨rfl, rfl, rfl, rfl, rfl⟩ rfl rfl rfl rfl rfl (by kernel_rfl) Tryz.func6 (by kernel_rfl)
    (of_decide_eq_true (by kernel_rfl)) (by unfold Func.isWrapper; first | (rw [if_pos (by decide +kernel)]; kernel_rfl) | (rw [if_neg (by decide +kernel)]; exact ⟨rfl, rfl⟩))
    (fun os started H enc _ => lifted_rationalMatchesReference os started H enc)
theorem card_rationalMatchesReference : Rows.RationalMatchesReferenceCardSaid :=
  Claim7.holds_tied_plain_at .later [] _ _ _ _ said_rationalMatchesReference (fun _ h => by cases h) (by kernel_rfl) (fun _ h => by cases h) rationalMatchesReference_row_tie rfl ⟨rfl, rfl⟩ (by kernel_rfl) rfl
    (fun f fn hf hfn => by
      obtain rfl : f = 6 := Option.some.inj ((show Tryz.prog.funcNamed "latecomer/latecomerlaw04.RationalMatchesReference" = some 6 by kernel_rfl).symm.trans hf) |>.symm
      obtain rfl : fn = Tryz.f6 := (Option.some.inj (Tryz.func6.symm.trans hfn)).symm
      exact ⟨by kernel_rfl, fun j t ht => by
        rw [Tryz.params6] at ht
        have hm : t ∈ [23, 23, 24, 24, 47, 3, 3, 3] := by simpa using Array.mem_of_getElem? ht
        have hall : ([23, 23, 24, 24, 47, 3, 3, 3].all fun u => !Tryz.prog.wantsStandIn u) = true := by kernel_rfl
        exact (show Tryz.prog.wantsStandIn t = false by simpa using List.all_eq_true.1 hall t hm)⟩)
    (by kernel_rfl)
end Go.Proofs.YthpcmmfijelbaaaGreatDoor
