/-
  Proved: AlarmFalse returns true for every input, and its arguments read as before. Conditions: the row's own (the listed library variables as the program's text lays them; the card ties them). By an AI agent.
-/
import Derived.Test.YtnkmbjedcjcccaaGreatDoorTie
import Derived.Test.YtnkmbjedcjcccaaGreatDoorCards
import Derived.Test.YtnkmbjedcjcccaaGreatDoorAmN
import Derived.Test.YtnkmbjedcjcccaaGreatDoorCardX
import Derived.ProofKit
import Derived.ChangeMaps5
import Derived.OpenShut
import Derived.LaidMore
import Derived.Lay
import Derived.SevenTiedAt
import Derived.Stop.Joined
set_option linter.unusedSimpArgs false
set_option linter.unusedVariables false
set_option linter.unusedSectionVars false
namespace Go.Proofs.YtnkmbjedcjcccaaGreatDoor
open Go.ChangeShapes Go.WideShapes Go.ChangeAt Go.RowKit Go.ChangeMaps
set_option maxRecDepth 100000 in
theorem lifted_alarmFalse (os : Os) (started : os.Started) (H : Type) (enc : TypeId × Value → H) :
 ReturnsInHanded {} Tryz.checked os 4 .any (fun w args => (Rows.alarmFalseSpec.pre enc Tryz.prog Tryz.f4 Rows.alarmFalseRow.domain false w args ∧ laidMetH Tryz.prog Rows.alarmFalseRow.laid w) ∧ sizedMet enc Tryz.prog Tryz.f4 (OpenSpec.ofChange Rows.alarmFalseSpec) false w args)
  (Rows.alarmFalseSpec.post enc Tryz.prog Tryz.f4 false true false false) := by
 refine handed_shaped (C := Tryz.checked) (X := fun w _ => laidMetH Tryz.prog Rows.alarmFalseRow.laid w) (fun _ _ _ hh h => h.of_heap hh) own started (by kernel_rfl) Tryz.func4
  (ChangeSpec.witness_shaped (enc := enc) (C := Tryz.checked) (os := os) (X := fun w _ => laidMetH Tryz.prog Rows.alarmFalseRow.laid w) false (World.laidAll Tryz.prog os Rows.alarmFalseRow.laid) #[.int .i64 0, .int .i64 0, .int .i64 0, .slice none 0 0] 8 (World.laidAll_os _ _ _)
   (World.shaped_of_ZipB (by kernel_rfl) (by kernel_rfl)) (by kernel_rfl) (by kernel_rfl) (by kernel_rfl)
   (by rw [MakeChecks.laidMetH_plain _ _ _ (by kernel_rfl)]; exact laidMet_laidAll _ (by kernel_rfl) (by kernel_rfl))) ?_
 intro W base args ds gs before hsh hval0 hW hL
 have hval : ∀ (j : Nat) t v, Tryz.f4.params[j]? = some t → args[j]? = some v → Value.okWide Tryz.prog W .any base t v := hval0
 have hW' := hW
 obtain ⟨p, q, hA0, hV, rfl, _, _⟩ := hW
 have hA : DataW.TrodAll enc Tryz.prog W 0 (fun _ => true) true Tryz.f4.params.toList args.toList ds p := hA0
 rw [Tryz.params4] at hA hval
 obtain ⟨v0, vs0, d0, ds0, p0, q0, hargs, rfl, rfl, h0, r0⟩ := trodAll_cons hA
 obtain ⟨v1, vs1, d1, ds1, p1, q1, rfl, rfl, rfl, h1, r1⟩ := trodAll_cons r0
 obtain ⟨v2, vs2, d2, ds2, p2, q2, rfl, rfl, rfl, h2, r2⟩ := trodAll_cons r1
 obtain ⟨v3, vs3, d3, ds3, p3, q3, rfl, rfl, rfl, h3, r3⟩ := trodAll_cons r2
 obtain ⟨rfl, rfl, rfl⟩ := trodAll_nil r3
 obtain rfl : args = #[v0, v1, v2, v3] := by cases args; simp_all
 obtain ⟨rfl, rfl⟩ := trodVars_none hV
 have hk0 := h0
 obtain ⟨a0, rfl, rfl, rfl, w0⟩ := open_int Tryz.underlying3 (hval 0 3 v0 rfl rfl) h0
 have z0 : -9223372036854775808 ≤ a0 ∧ a0 ≤ 9223372036854775807 := i64_wf w0
 have hk1 := h1
 obtain ⟨a1, rfl, rfl, rfl, w1⟩ := open_int Tryz.underlying3 (hval 1 3 v1 rfl rfl) h1
 have z1 : -9223372036854775808 ≤ a1 ∧ a1 ≤ 9223372036854775807 := i64_wf w1
 have hk2 := h2
 obtain ⟨a2, rfl, rfl, rfl, w2⟩ := open_int Tryz.underlying3 (hval 2 3 v2 rfl rfl) h2
 have z2 : -9223372036854775808 ≤ a2 ∧ a2 ≤ 9223372036854775807 := i64_wf w2
 have hk3 := h3
 obtain ⟨l3, s3, k3, m3⟩ := open_Ccs (hval 3 61 v3 rfl rfl) h3
 clear hA0 hval0
 simp only [List.append_nil] at hW'
 have en := en_of hsh hL
 have walk : Calls Tryz.prog 4 #[.int .i64 a0, .int .i64 a1, .int .i64 a2, v3] W (Eng.Ret fun r w' => Eng.Ext W w' ∧ r = .bool true) := law_False en z0 z1 z2 s3 k3 (Nat.le_trans m3 (by decide))
 refine walk.mono fun e W' ⟨r, he, bel, hr⟩ => ?_
 subst he; subst hr
 exact ⟨_, rfl, _, _, _, [], _, [], hW', (trodAll_cons_mk (shut_bool Tryz.underlying4 _) trodAll_mk0), (trodAll_cons_mk (RowKit.Below.trod laidOutT (by kernel_rfl) (of_decide_eq_true (by kernel_rfl)) hk0 bel (fun x hx => hW'.lt x (by first | (simp [hx]; done) | exact absurd hx (by simp)))) (trodAll_cons_mk (RowKit.Below.trod laidOutT (by kernel_rfl) (of_decide_eq_true (by kernel_rfl)) hk1 bel (fun x hx => hW'.lt x (by first | (simp [hx]; done) | exact absurd hx (by simp)))) (trodAll_cons_mk (RowKit.Below.trod laidOutT (by kernel_rfl) (of_decide_eq_true (by kernel_rfl)) hk2 bel (fun x hx => hW'.lt x (by first | (simp [hx]; done) | exact absurd hx (by simp)))) (trodAll_cons_mk (RowKit.Below.trod laidOutT (by kernel_rfl) (of_decide_eq_true (by kernel_rfl)) hk3 bel (fun x hx => hW'.lt x (by first | (simp [hx]; done) | exact absurd hx (by simp)))) trodAll_mk0)))), rfl, bel.frame _, fun h => by cases h⟩
theorem said_alarmFalse : Rows.AlarmFalseSaid :=
 OpenClaim.holds_of_wide 4 Tryz.f4 rfl rfl rfl rfl rfl rfl rfl ⟨rfl, rfl, rfl, rfl, rfl⟩ rfl rfl rfl rfl rfl (by kernel_rfl) Tryz.func4 (by kernel_rfl)
  (of_decide_eq_true (by kernel_rfl)) (by unfold Func.isWrapper; first | (rw [if_pos (by decide +kernel)]; kernel_rfl) | (rw [if_neg (by decide +kernel)]; exact ⟨rfl, rfl⟩))
  (fun os started H enc _ => lifted_alarmFalse os started H enc)
theorem card_alarmFalse : Rows.AlarmFalseCardSaid :=
 Claim7.holds_tied_plain_at .later [] _ _ _ _ said_alarmFalse (fun _ h => by cases h) (by kernel_rfl) (fun _ h => by cases h) alarmFalse_row_tie rfl ⟨rfl, rfl⟩ (by kernel_rfl) rfl
  (fun f fn hf hfn => by
   obtain rfl : f = 4 := Option.some.inj ((show Tryz.prog.funcNamed "latecomer/latecomerlaw28.AlarmFalse" = some 4 by kernel_rfl).symm.trans hf) |>.symm
   obtain rfl : fn = Tryz.f4 := (Option.some.inj (Tryz.func4.symm.trans hfn)).symm
   exact ⟨by kernel_rfl, fun j t ht => by
    rw [Tryz.params4] at ht
    have hm : t ∈ [3, 3, 3, 61] := by simpa using Array.mem_of_getElem? ht
    have hall : ([3, 3, 3, 61].all fun u => !Tryz.prog.wantsStandIn u) = true := by kernel_rfl
    exact (show Tryz.prog.wantsStandIn t = false by simpa using List.all_eq_true.1 hall t hm)⟩)
  (by kernel_rfl)
end Go.Proofs.YtnkmbjedcjcccaaGreatDoor
