/-
  Proved: ShardCrashes returns true for every input, and its arguments read as before. Conditions: none beyond the row's own. By an AI agent.
-/
import Derived.Test.YthdhnhghjecfkaaGreatStZ
import Derived.Test.YthdhnhghjecfkaaGreatCardZ
import Derived.ProofKit
import Derived.ChangeMaps5
import Derived.OpenShut
import Derived.LaidMore
import Derived.Lay
import Derived.Stop.Joined
set_option linter.unusedSimpArgs false
set_option linter.unusedVariables false
set_option linter.unusedSectionVars false
namespace Go.Proofs.YthdhnhghjecfkaaGreat
open Go.ChangeShapes Go.WideShapes Go.ChangeAt Go.RowKit Go.ChangeMaps
set_option maxRecDepth 100000 in
theorem lifted_shardCrashes (os : Os) (started : os.Started) (H : Type) (enc : TypeId × Value → H) :
 ReturnsInHanded {} Tryz.checked os 4 .any (fun w args => Rows.shardCrashesSpec.pre enc Tryz.prog Tryz.f4 Rows.shardCrashesRow.domain false w args ∧ sizedMet enc Tryz.prog Tryz.f4 (OpenSpec.ofChange Rows.shardCrashesSpec) false w args)
  (Rows.shardCrashesSpec.post enc Tryz.prog Tryz.f4 false true false false) := by
 refine handed_plain (C := Tryz.checked) own started (by kernel_rfl) Tryz.func4
  (ChangeSpec.witness_shaped (enc := enc) (C := Tryz.checked) (os := os) (X := fun _ _ => True) false (World.laidAll Tryz.prog os []) #[.int .i64 0, .slice none 0 0, .int .i64 0, .int .i64 0, .slice none 0 0, .slice none 0 0] 8 (World.laidAll_os _ _ _)
   (World.shaped_of_ZipB (by kernel_rfl) (by kernel_rfl)) (by kernel_rfl) (by kernel_rfl) (by kernel_rfl)
   trivial) ?_
 intro W base args ds gs before hsh hval0 hW
 have hval : ∀ (j : Nat) t v, Tryz.f4.params[j]? = some t → args[j]? = some v → Value.okWide Tryz.prog W .any base t v := hval0
 have hW' := hW
 obtain ⟨p, q, hA0, hV, rfl, _, _⟩ := hW
 have hA : DataW.TrodAll enc Tryz.prog W 0 (fun _ => true) true Tryz.f4.params.toList args.toList ds p := hA0
 rw [Tryz.params4] at hA hval
 obtain ⟨v0, vs0, d0, ds0, p0, q0, hargs, rfl, rfl, h0, r0⟩ := trodAll_cons hA
 obtain ⟨v1, vs1, d1, ds1, p1, q1, rfl, rfl, rfl, h1, r1⟩ := trodAll_cons r0
 obtain ⟨v2, vs2, d2, ds2, p2, q2, rfl, rfl, rfl, h2, r2⟩ := trodAll_cons r1
 obtain ⟨v3, vs3, d3, ds3, p3, q3, rfl, rfl, rfl, h3, r3⟩ := trodAll_cons r2
 obtain ⟨v4, vs4, d4, ds4, p4, q4, rfl, rfl, rfl, h4, r4⟩ := trodAll_cons r3
 obtain ⟨v5, vs5, d5, ds5, p5, q5, rfl, rfl, rfl, h5, r5⟩ := trodAll_cons r4
 obtain ⟨rfl, rfl, rfl⟩ := trodAll_nil r5
 obtain rfl : args = #[v0, v1, v2, v3, v4, v5] := by cases args; simp_all
 obtain ⟨rfl, rfl⟩ := trodVars_none hV
 have hk0 := h0
 obtain ⟨a0, rfl, rfl, rfl, w0⟩ := open_int Tryz.underlying3 (hval 0 3 v0 rfl rfl) h0
 have z0 : -9223372036854775808 ≤ a0 ∧ a0 ≤ 9223372036854775807 := i64_wf w0
 have hk1 := h1
 obtain ⟨l1, s1, k1, m1⟩ := open_I4s (hval 1 22 v1 rfl rfl) h1
 have hk2 := h2
 obtain ⟨a2, rfl, rfl, rfl, w2⟩ := open_int Tryz.underlying3 (hval 2 3 v2 rfl rfl) h2
 have z2 : -9223372036854775808 ≤ a2 ∧ a2 ≤ 9223372036854775807 := i64_wf w2
 have hk3 := h3
 obtain ⟨a3, rfl, rfl, rfl, w3⟩ := open_int Tryz.underlying3 (hval 3 3 v3 rfl rfl) h3
 have z3 : -9223372036854775808 ≤ a3 ∧ a3 ≤ 9223372036854775807 := i64_wf w3
 have hk4 := h4
 obtain ⟨l4, s4, k4, m4⟩ := open_Is (hval 4 25 v4 rfl rfl) h4
 have hk5 := h5
 obtain ⟨l5, s5, k5, m5⟩ := open_Is (hval 5 25 v5 rfl rfl) h5
 clear hA0 hval0
 simp only [List.append_nil] at hW'
 have walk : Calls Tryz.prog 4 #[.int .i64 a0, v1, .int .i64 a2, .int .i64 a3, v4, v5] W (Eng.Ret fun r w' => Eng.Ext W w' ∧ r = .bool true) := law_Crashes z0 s1 k1 z2 z3 s4 k4 s5 k5
 refine walk.mono fun e W' ⟨r, he, bel, hr⟩ => ?_
 subst he; subst hr
 exact ⟨_, rfl, _, _, _, [], _, [], hW', (trodAll_cons_mk (shut_bool Tryz.underlying4 _) trodAll_mk0), (trodAll_cons_mk (RowKit.Below.trod laidOutT (by kernel_rfl) (of_decide_eq_true (by kernel_rfl)) hk0 bel (fun x hx => hW'.lt x (by first | (simp [hx]; done) | exact absurd hx (by simp)))) (trodAll_cons_mk (RowKit.Below.trod laidOutT (by kernel_rfl) (of_decide_eq_true (by kernel_rfl)) hk1 bel (fun x hx => hW'.lt x (by first | (simp [hx]; done) | exact absurd hx (by simp)))) (trodAll_cons_mk (RowKit.Below.trod laidOutT (by kernel_rfl) (of_decide_eq_true (by kernel_rfl)) hk2 bel (fun x hx => hW'.lt x (by first | (simp [hx]; done) | exact absurd hx (by simp)))) (trodAll_cons_mk (RowKit.Below.trod laidOutT (by kernel_rfl) (of_decide_eq_true (by kernel_rfl)) hk3 bel (fun x hx => hW'.lt x (by first | (simp [hx]; done) | exact absurd hx (by simp)))) (trodAll_cons_mk (RowKit.Below.trod laidOutT (by kernel_rfl) (of_decide_eq_true (by kernel_rfl)) hk4 bel (fun x hx => hW'.lt x (by first | (simp [hx]; done) | exact absurd hx (by simp)))) (trodAll_cons_mk (RowKit.Below.trod laidOutT (by kernel_rfl) (of_decide_eq_true (by kernel_rfl)) hk5 bel (fun x hx => hW'.lt x (by first | (simp [hx]; done) | exact absurd hx (by simp)))) trodAll_mk0)))))), rfl, bel.frame _, fun h => by cases h⟩
theorem holds_shardCrashes : Rows.ShardCrashesSaid :=
 OpenClaim.holds_of_wide 4 Tryz.f4 rfl rfl rfl rfl rfl rfl rfl ⟨rfl, rfl, rfl, rfl, rfl⟩ rfl rfl rfl rfl rfl (by kernel_rfl) Tryz.func4 (by kernel_rfl)
  (of_decide_eq_true (by kernel_rfl)) (by unfold Func.isWrapper; first | (rw [if_pos (by decide +kernel)]; kernel_rfl) | (rw [if_neg (by decide +kernel)]; exact ⟨rfl, rfl⟩))
  (fun os started H enc _ => lifted_shardCrashes os started H enc)
end Go.Proofs.YthdhnhghjecfkaaGreat
