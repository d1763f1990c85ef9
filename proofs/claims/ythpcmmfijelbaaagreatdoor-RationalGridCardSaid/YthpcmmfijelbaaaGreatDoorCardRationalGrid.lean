/-
  Proved: RationalGrid returns true for every input, and its arguments read as before. Conditions: the row's own (the listed library variables as the program's text lays them; the card ties them). By an AI agent.
-/
import Derived.Test.YthpcmmfijelbaaaGreatDoorTie
import Derived.Test.YthpcmmfijelbaaaGreatDoorCards
import Derived.Test.YthpcmmfijelbaaaGreatDoorQGrid
import Derived.Test.YthpcmmfijelbaaaGreatDoorCardA
import Derived.Test.YthpcmmfijelbaaaGreatDoorCardI
import Derived.Test.YthpcmmfijelbaaaGreatDoorCardS
import Derived.ProofKit
import Derived.ChangeMaps5
import Derived.OpenShut
import Derived.LaidMore
import Derived.Lay
import Derived.SevenTiedAt
import Derived.Stop.Joined
set_option linter.unusedSimpArgs false
set_option linter.unusedVariables false
set_option linter.unusedSectionVars false
namespace Go.Proofs.YthpcmmfijelbaaaGreatDoor
open Go.ChangeShapes Go.WideShapes Go.ChangeAt Go.RowKit Go.ChangeMaps
set_option linter.unusedVariables false
set_option maxRecDepth 100000 in
theorem lifted_rationalGrid (os : Os) (started : os.Started) (H : Type) (enc : TypeId × Value → H) :
    ReturnsInHanded {} Tryz.checked os 10 .any (fun w args => (Rows.rationalGridSpec.pre enc Tryz.prog Tryz.f10 Rows.rationalGridRow.domain false w args ∧ laidMetH Tryz.prog Rows.rationalGridRow.laid w) ∧ sizedMet enc Tryz.prog Tryz.f10 (OpenSpec.ofChange Rows.rationalGridSpec) false w args)
      (Rows.rationalGridSpec.post enc Tryz.prog Tryz.f10 false true false false) := by
  refine handed_shaped (C := Tryz.checked) (X := fun w _ => laidMetH Tryz.prog Rows.rationalGridRow.laid w) (fun _ _ _ hh h => h.of_heap hh) own started (by kernel_rfl) Tryz.func10
    (ChangeSpec.witness_shaped (enc := enc) (C := Tryz.checked) (os := os) (X := fun w _ => laidMetH Tryz.prog Rows.rationalGridRow.laid w) false (World.laidAll Tryz.prog os Rows.rationalGridRow.laid) #[.agg #[.int .i64 0, .int .i64 0, .int .i64 0, .int .i64 0], .int .i64 0] 8 (World.laidAll_os _ _ _)
      (World.shaped_of_ZipB (by kernel_rfl) (by kernel_rfl)) (by kernel_rfl) (by kernel_rfl) (by kernel_rfl)
      (by rw [MakeChecks.laidMetH_plain _ _ _ (by kernel_rfl)]; exact laidMet_laidAll _ (by kernel_rfl) (by kernel_rfl))) ?_
  intro W base args ds gs before hsh hval0 hW hL
  have hval : ∀ (j : Nat) t v, Tryz.f10.params[j]? = some t → args[j]? = some v → Value.okWide Tryz.prog W .any base t v := hval0
  have hW' := hW
  obtain ⟨p, q, hA0, hV, rfl, _, _⟩ := hW
  have hA : DataW.TrodAll enc Tryz.prog W 0 (fun _ => true) true Tryz.f10.params.toList args.toList ds p := hA0
  rw [Tryz.params10] at hA hval
  obtain ⟨v0, vs0, d0, ds0, p0, q0, hargs, rfl, rfl, h0, r0⟩ := trodAll_cons hA
  obtain ⟨v1, vs1, d1, ds1, p1, q1, rfl, rfl, rfl, h1, r1⟩ := trodAll_cons r0
  obtain ⟨rfl, rfl, rfl⟩ := trodAll_nil r1
  obtain rfl : args = #[v0, v1] := by cases args; simp_all
  obtain ⟨rfl, rfl⟩ := trodVars_none hV
  obtain ⟨a0x0, a0x1, a0x2, a0x3, rfl, rfl, rfl, w0x0, w0x1, w0x2, w0x3⟩ := open_I4 (hval 0 24 v0 rfl rfl) h0
  have z0x0 : -9223372036854775808 ≤ a0x0 ∧ a0x0 ≤ 9223372036854775807 := lit_i64 w0x0
  have z0x1 : -9223372036854775808 ≤ a0x1 ∧ a0x1 ≤ 9223372036854775807 := lit_i64 w0x1
  have z0x2 : -9223372036854775808 ≤ a0x2 ∧ a0x2 ≤ 9223372036854775807 := lit_i64 w0x2
  have z0x3 : -9223372036854775808 ≤ a0x3 ∧ a0x3 ≤ 9223372036854775807 := lit_i64 w0x3
  obtain ⟨a1, rfl, rfl, rfl, w1⟩ := open_int Tryz.underlying3 (hval 1 3 v1 rfl rfl) h1
  have z1 : -9223372036854775808 ≤ a1 ∧ a1 ≤ 9223372036854775807 := lit_i64 w1
  clear hA0 hval0
  simp only [List.append_nil] at hW'
  have ht := tab_of_laid hL
  have hM := maxV_of_shaped hsh
  have walk : Calls Tryz.prog 10 #[.agg #[.int .i64 a0x0, .int .i64 a0x1, .int .i64 a0x2, .int .i64 a0x3], .int .i64 a1] W (Eng.Ret fun r w' => Eng.Ext W w' ∧ r = .bool true) := i_Grid z0x0 z0x1 z0x2 z0x3 z1 ht hM
  refine walk.mono fun e W' ⟨r, he, bel, hr⟩ => ?_
  subst he; subst hr
  exact ⟨_, rfl, _, _, _, [], _, [], hW', (trodAll_cons_mk (shut_bool Tryz.underlying4 _) trodAll_mk0), (trodAll_cons_mk (shut_I4 w0x0 w0x1 w0x2 w0x3) (trodAll_cons_mk (shut_int Tryz.underlying3 w1) trodAll_mk0)), rfl, bel.frame _, fun h => by cases h⟩
theorem said_rationalGrid : Rows.RationalGridSaid :=
  OpenClaim.holds_of_wide 10 Tryz.f10 rfl rfl rfl rfl rfl rfl rfl ⟨rfl, rfl, rfl, rfl, rfl⟩ rfl rfl rfl rfl rfl (by kernel_rfl) Tryz.func10 (by kernel_rfl)
    (of_decide_eq_true (by kernel_rfl)) (by unfold Func.isWrapper; first | (rw [if_pos (by decide +kernel)]; kernel_rfl) | (rw [if_neg (by decide +kernel)]; exact ⟨rfl, rfl⟩))
    (fun os started H enc _ => lifted_rationalGrid os started H enc)
theorem card_rationalGrid : Rows.RationalGridCardSaid :=
  Claim7.holds_tied_plain_at .later [] _ _ _ _ said_rationalGrid (fun _ h => by cases h) (by kernel_rfl) (fun _ h => by cases h) rationalGrid_row_tie rfl ⟨rfl, rfl⟩ (by kernel_rfl) rfl
    (fun f fn hf hfn => by
      obtain rfl : f = 10 := Option.some.inj ((show Tryz.prog.funcNamed "latecomer/latecomerlaw04.RationalGrid" = some 10 by kernel_rfl).symm.trans hf) |>.symm
      obtain rfl : fn = Tryz.f10 := (Option.some.inj (Tryz.func10.symm.trans hfn)).symm
      exact ⟨by kernel_rfl, fun j t ht => by
        rw [Tryz.params10] at ht
        have hm : t ∈ [24, 3] := by simpa using Array.mem_of_getElem? ht
        have hall : ([24, 3].all fun u => !Tryz.prog.wantsStandIn u) = true := by kernel_rfl
        exact (show Tryz.prog.wantsStandIn t = false by simpa using List.all_eq_true.1 hall t hm)⟩)
    (by kernel_rfl)
end Go.Proofs.YthpcmmfijelbaaaGreatDoor
