/-
  Proved: ShardExactlyOnce returns true for every input, and its arguments read as before. Conditions: none beyond the row's own. By an AI agent.
-/
import Derived.Test.YthdhnhghjecfkaaGreatSsI
import Derived.Test.YthdhnhghjecfkaaGreatCardZ
import Derived.ProofKit
import Derived.ChangeMaps5
import Derived.OpenShut
import Derived.LaidMore
import Derived.Lay
import Derived.Stop.Joined
set_option linter.unusedSimpArgs false
set_option linter.unusedVariables false
set_option linter.unusedSectionVars false
namespace Go.Proofs.YthdhnhghjecfkaaGreat
open Go.ChangeShapes Go.WideShapes Go.ChangeAt Go.RowKit Go.ChangeMaps
set_option maxRecDepth 100000 in
theorem lifted_shardExactlyOnce (os : Os) (started : os.Started) (H : Type) (enc : TypeId × Value → H) :
 ReturnsInHanded {} Tryz.checked os 3 .any (fun w args => Rows.shardExactlyOnceSpec.pre enc Tryz.prog Tryz.f3 Rows.shardExactlyOnceRow.domain false w args ∧ sizedMet enc Tryz.prog Tryz.f3 (OpenSpec.ofChange Rows.shardExactlyOnceSpec) false w args)
  (Rows.shardExactlyOnceSpec.post enc Tryz.prog Tryz.f3 false true false false) := by
 refine handed_plain (C := Tryz.checked) own started (by kernel_rfl) Tryz.func3
  (ChangeSpec.witness_shaped (enc := enc) (C := Tryz.checked) (os := os) (X := fun _ _ => True) false (World.laidAll Tryz.prog os []) #[.int .i64 0, .slice none 0 0] 8 (World.laidAll_os _ _ _)
   (World.shaped_of_ZipB (by kernel_rfl) (by kernel_rfl)) (by kernel_rfl) (by kernel_rfl) (by kernel_rfl)
   trivial) ?_
 intro W base args ds gs before hsh hval0 hW
 have hval : ∀ (j : Nat) t v, Tryz.f3.params[j]? = some t → args[j]? = some v → Value.okWide Tryz.prog W .any base t v := hval0
 have hW' := hW
 obtain ⟨p, q, hA0, hV, rfl, _, _⟩ := hW
 have hA : DataW.TrodAll enc Tryz.prog W 0 (fun _ => true) true Tryz.f3.params.toList args.toList ds p := hA0
 rw [Tryz.params3] at hA hval
 obtain ⟨v0, vs0, d0, ds0, p0, q0, hargs, rfl, rfl, h0, r0⟩ := trodAll_cons hA
 obtain ⟨v1, vs1, d1, ds1, p1, q1, rfl, rfl, rfl, h1, r1⟩ := trodAll_cons r0
 obtain ⟨rfl, rfl, rfl⟩ := trodAll_nil r1
 obtain rfl : args = #[v0, v1] := by cases args; simp_all
 obtain ⟨rfl, rfl⟩ := trodVars_none hV
 have hk0 := h0
 obtain ⟨a0, rfl, rfl, rfl, w0⟩ := open_int Tryz.underlying3 (hval 0 3 v0 rfl rfl) h0
 have z0 : -9223372036854775808 ≤ a0 ∧ a0 ≤ 9223372036854775807 := i64_wf w0
 have hk1 := h1
 obtain ⟨l1, s1, k1, m1⟩ := open_I4s (hval 1 22 v1 rfl rfl) h1
 clear hA0 hval0
 simp only [List.append_nil] at hW'
 have walk : Calls Tryz.prog 3 #[.int .i64 a0, v1] W (Eng.Ret fun r w' => Eng.Ext W w' ∧ r = .bool true) := law_ExactlyOnce z0 s1 k1
 refine walk.mono fun e W' ⟨r, he, bel, hr⟩ => ?_
 subst he; subst hr
 exact ⟨_, rfl, _, _, _, [], _, [], hW', (trodAll_cons_mk (shut_bool Tryz.underlying4 _) trodAll_mk0), (trodAll_cons_mk (RowKit.Below.trod laidOutT (by kernel_rfl) (of_decide_eq_true (by kernel_rfl)) hk0 bel (fun x hx => hW'.lt x (by first | (simp [hx]; done) | exact absurd hx (by simp)))) (trodAll_cons_mk (RowKit.Below.trod laidOutT (by kernel_rfl) (of_decide_eq_true (by kernel_rfl)) hk1 bel (fun x hx => hW'.lt x (by first | (simp [hx]; done) | exact absurd hx (by simp)))) trodAll_mk0)), rfl, bel.frame _, fun h => by cases h⟩
theorem holds_shardExactlyOnce : Rows.ShardExactlyOnceSaid :=
 OpenClaim.holds_of_wide 3 Tryz.f3 rfl rfl rfl rfl rfl rfl rfl ⟨rfl, rfl, rfl, rfl, rfl⟩ rfl rfl rfl rfl rfl (by kernel_rfl) Tryz.func3 (by kernel_rfl)
  (of_decide_eq_true (by kernel_rfl)) (by unfold Func.isWrapper; first | (rw [if_pos (by decide +kernel)]; kernel_rfl) | (rw [if_neg (by decide +kernel)]; exact ⟨rfl, rfl⟩))
  (fun os started H enc _ => lifted_shardExactlyOnce os started H enc)
end Go.Proofs.YthdhnhghjecfkaaGreat
