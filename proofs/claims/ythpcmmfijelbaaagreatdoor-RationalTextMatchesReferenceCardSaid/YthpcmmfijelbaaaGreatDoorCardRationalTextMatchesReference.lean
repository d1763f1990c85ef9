/-
  Proved: RationalTextMatchesReference returns true for every input, and its arguments read as before. Conditions: the row's own (the listed library variables as the program's text lays them; the card ties them). By an AI agent.
-/
import Derived.Test.YthpcmmfijelbaaaGreatDoorTie
import Derived.Test.YthpcmmfijelbaaaGreatDoorCards
import Derived.Test.YthpcmmfijelbaaaGreatDoorQText
import Derived.Test.YthpcmmfijelbaaaGreatDoorCardA
import Derived.Test.YthpcmmfijelbaaaGreatDoorCardI
import Derived.Test.YthpcmmfijelbaaaGreatDoorCardS
import Derived.ProofKit
import Derived.ChangeMaps5
import Derived.OpenShut
import Derived.LaidMore
import Derived.Lay
import Derived.SevenTiedAt
import Derived.Stop.Joined
set_option linter.unusedSimpArgs false
set_option linter.unusedVariables false
set_option linter.unusedSectionVars false
namespace Go.Proofs.YthpcmmfijelbaaaGreatDoor
open Go.ChangeShapes Go.WideShapes Go.ChangeAt Go.RowKit Go.ChangeMaps
set_option linter.unusedVariables false
set_option maxRecDepth 100000 in
theorem lifted_rationalTextMatchesReference (os : Os) (started : os.Started) (H : Type) (enc : TypeId × Value → H) :
    ReturnsInHanded {} Tryz.checked os 3 .any (fun w args => (Rows.rationalTextMatchesReferenceSpec.pre enc Tryz.prog Tryz.f3 Rows.rationalTextMatchesReferenceRow.domain false w args ∧ laidMetH Tryz.prog Rows.rationalTextMatchesReferenceRow.laid w) ∧ sizedMet enc Tryz.prog Tryz.f3 (OpenSpec.ofChange Rows.rationalTextMatchesReferenceSpec) false w args)
      (Rows.rationalTextMatchesReferenceSpec.post enc Tryz.prog Tryz.f3 false true false false) := by
  refine handed_shaped (C := Tryz.checked) (X := fun w _ => laidMetH Tryz.prog Rows.rationalTextMatchesReferenceRow.laid w) (fun _ _ _ hh h => h.of_heap hh) own started (by kernel_rfl) Tryz.func3
    (ChangeSpec.witness_shaped (enc := enc) (C := Tryz.checked) (os := os) (X := fun w _ => laidMetH Tryz.prog Rows.rationalTextMatchesReferenceRow.laid w) false (World.laidAll Tryz.prog os Rows.rationalTextMatchesReferenceRow.laid) #[.agg #[.string ⟨#[]⟩, .string ⟨#[]⟩], .agg #[.int .i64 0, .int .i64 0, .int .i64 0, .int .i64 0], .int .i64 0, .int .u8 0, .string ⟨#[]⟩] 8 (World.laidAll_os _ _ _)
      (World.shaped_of_ZipB (by kernel_rfl) (by kernel_rfl)) (by kernel_rfl) (by kernel_rfl) (by kernel_rfl)
      (by rw [MakeChecks.laidMetH_plain _ _ _ (by kernel_rfl)]; exact laidMet_laidAll _ (by kernel_rfl) (by kernel_rfl))) ?_
  intro W base args ds gs before hsh hval0 hW hL
  have hval : ∀ (j : Nat) t v, Tryz.f3.params[j]? = some t → args[j]? = some v → Value.okWide Tryz.prog W .any base t v := hval0
  have hW' := hW
  obtain ⟨p, q, hA0, hV, rfl, _, _⟩ := hW
  have hA : DataW.TrodAll enc Tryz.prog W 0 (fun _ => true) true Tryz.f3.params.toList args.toList ds p := hA0
  rw [Tryz.params3] at hA hval
  obtain ⟨v0, vs0, d0, ds0, p0, q0, hargs, rfl, rfl, h0, r0⟩ := trodAll_cons hA
  obtain ⟨v1, vs1, d1, ds1, p1, q1, rfl, rfl, rfl, h1, r1⟩ := trodAll_cons r0
  obtain ⟨v2, vs2, d2, ds2, p2, q2, rfl, rfl, rfl, h2, r2⟩ := trodAll_cons r1
  obtain ⟨v3, vs3, d3, ds3, p3, q3, rfl, rfl, rfl, h3, r3⟩ := trodAll_cons r2
  obtain ⟨v4, vs4, d4, ds4, p4, q4, rfl, rfl, rfl, h4, r4⟩ := trodAll_cons r3
  obtain ⟨rfl, rfl, rfl⟩ := trodAll_nil r4
  obtain rfl : args = #[v0, v1, v2, v3, v4] := by cases args; simp_all
  obtain ⟨rfl, rfl⟩ := trodVars_none hV
  obtain ⟨a0x0, a0x1, rfl, rfl, rfl, w0x0, w0x1⟩ := open_R (hval 0 23 v0 rfl rfl) h0
  obtain ⟨a1x0, a1x1, a1x2, a1x3, rfl, rfl, rfl, w1x0, w1x1, w1x2, w1x3⟩ := open_I4 (hval 1 24 v1 rfl rfl) h1
  have z1x0 : -9223372036854775808 ≤ a1x0 ∧ a1x0 ≤ 9223372036854775807 := lit_i64 w1x0
  have z1x1 : -9223372036854775808 ≤ a1x1 ∧ a1x1 ≤ 9223372036854775807 := lit_i64 w1x1
  have z1x2 : -9223372036854775808 ≤ a1x2 ∧ a1x2 ≤ 9223372036854775807 := lit_i64 w1x2
  have z1x3 : -9223372036854775808 ≤ a1x3 ∧ a1x3 ≤ 9223372036854775807 := lit_i64 w1x3
  obtain ⟨a2, rfl, rfl, rfl, w2⟩ := open_int Tryz.underlying3 (hval 2 3 v2 rfl rfl) h2
  have z2 : -9223372036854775808 ≤ a2 ∧ a2 ≤ 9223372036854775807 := lit_i64 w2
  obtain ⟨a3, rfl, rfl, rfl, w3⟩ := open_int Tryz.underlying5 (hval 3 5 v3 rfl rfl) h3
  have z3 : 0 ≤ a3 ∧ a3 ≤ 255 := lit_u8 w3
  obtain ⟨a4, rfl, rfl, rfl, w4⟩ := open_string Tryz.underlying9 (hval 4 9 v4 rfl rfl) h4
  clear hA0 hval0
  simp only [List.append_nil] at hW'
  have ht := tab_of_laid hL
  have hM := maxV_of_shaped hsh
  have walk : Calls Tryz.prog 3 #[.agg #[.string a0x0, .string a0x1], .agg #[.int .i64 a1x0, .int .i64 a1x1, .int .i64 a1x2, .int .i64 a1x3], .int .i64 a2, .int .u8 a3, .string a4] W (Eng.Ret fun r w' => Eng.Ext W w' ∧ r = .bool true) := i_TextC z1x0 z1x1 z1x2 z1x3 z2 z3 ht hM
  refine walk.mono fun e W' ⟨r, he, bel, hr⟩ => ?_
  subst he; subst hr
  exact ⟨_, rfl, _, _, _, [], _, [], hW', (trodAll_cons_mk (shut_bool Tryz.underlying4 _) trodAll_mk0), (trodAll_cons_mk (shut_R w0x0 w0x1) (trodAll_cons_mk (shut_I4 w1x0 w1x1 w1x2 w1x3) (trodAll_cons_mk (shut_int Tryz.underlying3 w2) (trodAll_cons_mk (shut_int Tryz.underlying5 w3) (trodAll_cons_mk (shut_string Tryz.underlying9 w4) trodAll_mk0))))), rfl, bel.frame _, fun h => by cases h⟩
theorem said_rationalTextMatchesReference : Rows.RationalTextMatchesReferenceSaid :=
  OpenClaim.holds_of_wide 3 Tryz.f3 rfl rfl rfl rfl rfl rfl rfl ⟨rfl, rfl, rfl, rfl, rfl⟩ rfl rfl rfl rfl rfl (by kernel_rfl) Tryz.func3 (by kernel_rfl)
    (of_decide_eq_true (by kernel_rfl)) (by unfold Func.isWrapper; first | (rw [if_pos (by decide +kernel)]; kernel_rfl) | (rw [if_neg (by decide +kernel)]; exact ⟨rfl, rfl⟩))
    (fun os started H enc _ => lifted_rationalTextMatchesReference os started H enc)
theorem card_rationalTextMatchesReference : Rows.RationalTextMatchesReferenceCardSaid :=
  Claim7.holds_tied_plain_at .later [] _ _ _ _ said_rationalTextMatchesReference (fun _ h => by cases h) (by kernel_rfl) (fun _ h => by cases h) rationalTextMatchesReference_row_tie rfl ⟨rfl, rfl⟩ (by kernel_rfl) rfl
    (fun f fn hf hfn => by
      obtain rfl : f = 3 := Option.some.inj ((show Tryz.prog.funcNamed "latecomer/latecomerlaw04.RationalTextMatchesReference" = some 3 by kernel_rfl).symm.trans hf) |>.symm
      obtain rfl : fn = Tryz.f3 := (Option.some.inj (Tryz.func3.symm.trans hfn)).symm
      exact ⟨by kernel_rfl, fun j t ht => by
        rw [Tryz.params3] at ht
        have hm : t ∈ [23, 24, 3, 5, 9] := by simpa using Array.mem_of_getElem? ht
        have hall : ([23, 24, 3, 5, 9].all fun u => !Tryz.prog.wantsStandIn u) = true := by kernel_rfl
        exact (show Tryz.prog.wantsStandIn t = false by simpa using List.all_eq_true.1 hall t hm)⟩)
    (by kernel_rfl)
end Go.Proofs.YthpcmmfijelbaaaGreatDoor
