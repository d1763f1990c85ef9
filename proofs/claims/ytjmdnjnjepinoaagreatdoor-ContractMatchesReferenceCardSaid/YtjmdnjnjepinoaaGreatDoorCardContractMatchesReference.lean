/-
  Proved: ContractMatchesReference returns true for every input, and its arguments read as before. Conditions: the row's own (the listed library variables as the program's text lays them; the card ties them). By an AI agent.
-/
import Derived.Test.YtjmdnjnjepinoaaGreatDoorTie
import Derived.Test.YtjmdnjnjepinoaaGreatDoorCards
import Derived.Test.YtjmdnjnjepinoaaGreatDoorCpE
import Derived.Test.YtjmdnjnjepinoaaGreatDoorCardU
import Derived.ProofKit
import Derived.ChangeMaps5
import Derived.OpenShut
import Derived.LaidMore
import Derived.Lay
import Derived.SevenTiedAt
import Derived.Stop.Joined
set_option linter.unusedSimpArgs false
set_option linter.unusedVariables false
set_option linter.unusedSectionVars false
namespace Go.Proofs.YtjmdnjnjepinoaaGreatDoor
open Go.ChangeShapes Go.WideShapes Go.ChangeAt Go.RowKit Go.ChangeMaps
set_option maxRecDepth 100000 in
theorem lifted_contractMatchesReference (os : Os) (started : os.Started) (H : Type) (enc : TypeId × Value → H) :
 ReturnsInHanded {} Tryz.checked os 3 .any (fun w args => (Rows.contractMatchesReferenceSpec.pre enc Tryz.prog Tryz.f3 Rows.contractMatchesReferenceRow.domain false w args ∧ laidMetH Tryz.prog Rows.contractMatchesReferenceRow.laid w) ∧ sizedMet enc Tryz.prog Tryz.f3 (OpenSpec.ofChange Rows.contractMatchesReferenceSpec) false w args)
  (Rows.contractMatchesReferenceSpec.post enc Tryz.prog Tryz.f3 false true false false) := by
 refine handed_shaped (C := Tryz.checked) (X := fun w _ => laidMetH Tryz.prog Rows.contractMatchesReferenceRow.laid w) (fun _ _ _ hh h => h.of_heap hh) own started (by kernel_rfl) Tryz.func3
  (ChangeSpec.witness_shaped (enc := enc) (C := Tryz.checked) (os := os) (X := fun w _ => laidMetH Tryz.prog Rows.contractMatchesReferenceRow.laid w) false (World.laidAll Tryz.prog os Rows.contractMatchesReferenceRow.laid) #[.agg #[.int .i64 0, .int .i64 0, .string ⟨#[]⟩, .string ⟨#[]⟩, .int .i64 0], .agg #[.int .i64 0, .int .i64 0, .int .i64 0, .int .i64 0], .slice none 0 0, .slice none 0 0, .int .i64 0, .slice none 0 0, .agg #[.int .i64 0, .int .i64 0, .slice none 0 0], .slice none 0 0] 8 (World.laidAll_os _ _ _)
   (World.shaped_of_ZipB (by kernel_rfl) (by kernel_rfl)) (by kernel_rfl) (by kernel_rfl) (by kernel_rfl)
   (by rw [MakeChecks.laidMetH_plain _ _ _ (by kernel_rfl)]; exact laidMet_laidAll _ (by kernel_rfl) (by kernel_rfl))) ?_
 intro W base args ds gs before hsh hval0 hW hL
 have hval : ∀ (j : Nat) t v, Tryz.f3.params[j]? = some t → args[j]? = some v → Value.okWide Tryz.prog W .any base t v := hval0
 have hW' := hW
 obtain ⟨p, q, hA0, hV, rfl, _, _⟩ := hW
 have hA : DataW.TrodAll enc Tryz.prog W 0 (fun _ => true) true Tryz.f3.params.toList args.toList ds p := hA0
 rw [Tryz.params3] at hA hval
 obtain ⟨v0, vs0, d0, ds0, p0, q0, hargs, rfl, rfl, h0, r0⟩ := trodAll_cons hA
 obtain ⟨v1, vs1, d1, ds1, p1, q1, rfl, rfl, rfl, h1, r1⟩ := trodAll_cons r0
 obtain ⟨v2, vs2, d2, ds2, p2, q2, rfl, rfl, rfl, h2, r2⟩ := trodAll_cons r1
 obtain ⟨v3, vs3, d3, ds3, p3, q3, rfl, rfl, rfl, h3, r3⟩ := trodAll_cons r2
 obtain ⟨v4, vs4, d4, ds4, p4, q4, rfl, rfl, rfl, h4, r4⟩ := trodAll_cons r3
 obtain ⟨v5, vs5, d5, ds5, p5, q5, rfl, rfl, rfl, h5, r5⟩ := trodAll_cons r4
 obtain ⟨v6, vs6, d6, ds6, p6, q6, rfl, rfl, rfl, h6, r6⟩ := trodAll_cons r5
 obtain ⟨v7, vs7, d7, ds7, p7, q7, rfl, rfl, rfl, h7, r7⟩ := trodAll_cons r6
 obtain ⟨rfl, rfl, rfl⟩ := trodAll_nil r7
 obtain rfl : args = #[v0, v1, v2, v3, v4, v5, v6, v7] := by cases args; simp_all
 obtain ⟨rfl, rfl⟩ := trodVars_none hV
 have hk0 := h0
 obtain ⟨a0x0, a0x1, a0x2, a0x3, rfl, z0x0, z0x1, z0x2⟩ := open_Con (hval 0 25 v0 rfl rfl) h0
 have hk1 := h1
 obtain ⟨a1x0, a1x1, a1x2, a1x3, rfl, z1x0, z1x1, z1x2, z1x3⟩ := open_I4 (hval 1 26 v1 rfl rfl) h1
 have hk2 := h2
 obtain ⟨l2, s2, k2, m2⟩ := open_Is (hval 2 27 v2 rfl rfl) h2
 have hk3 := h3
 obtain ⟨l3, s3, k3, m3⟩ := open_Rs (hval 3 28 v3 rfl rfl) h3
 have hk4 := h4
 obtain ⟨a4, rfl, rfl, rfl, w4⟩ := open_int Tryz.underlying3 (hval 4 3 v4 rfl rfl) h4
 have z4 : -9223372036854775808 ≤ a4 ∧ a4 ≤ 9223372036854775807 := i64_wf w4
 have hk5 := h5
 obtain ⟨l5, s5, k5, m5⟩ := open_I5s (hval 5 29 v5 rfl rfl) h5
 have hk6 := h6
 obtain ⟨a6x0, a6x1, a6x2, a6x3, a6x4, l6, rfl, z6x0, z6x1, s6, m6⟩ := open_Late (hval 6 31 v6 rfl rfl) h6
 have hk7 := h7
 obtain ⟨l7, s7, k7, m7⟩ := open_Ds (hval 7 32 v7 rfl rfl) h7
 clear hA0 hval0
 simp only [List.append_nil] at hW'
 have en := en_of hsh hL
 have walk : Calls Tryz.prog 3 #[.agg #[.int .i64 a0x0, .int .i64 a0x1, Eng.str a0x2.1, Eng.str a0x2.2, .int .i64 a0x3], .agg #[.int .i64 a1x0, .int .i64 a1x1, .int .i64 a1x2, .int .i64 a1x3], v2, v3, .int .i64 a4, v5, .agg #[.int .i64 a6x0, .int .i64 a6x1, .slice a6x2 a6x3 a6x4], v7] W (Eng.Ret fun r w' => Eng.Ext W w' ∧ r = .bool true) := law_Match (raw := ⟨a0x0, a0x1, a0x2, a0x3⟩) en z0x0 z0x1 z0x2 z1x0 z1x1 z1x2 z1x3 s2 k2 m2 s3 m3 z4 s5 k5 m5 z6x0 z6x1 s6 m6 s7 (fun d hd => k7 d hd) m7
 refine walk.mono fun e W' ⟨r, he, bel, hr⟩ => ?_
 subst he; subst hr
 exact ⟨_, rfl, _, _, _, [], _, [], hW', (trodAll_cons_mk (shut_bool Tryz.underlying4 _) trodAll_mk0), (trodAll_cons_mk (RowKit.Below.trod laidOutT (by kernel_rfl) (of_decide_eq_true (by kernel_rfl)) hk0 bel (fun x hx => hW'.lt x (by first | (simp [hx]; done) | exact absurd hx (by simp)))) (trodAll_cons_mk (RowKit.Below.trod laidOutT (by kernel_rfl) (of_decide_eq_true (by kernel_rfl)) hk1 bel (fun x hx => hW'.lt x (by first | (simp [hx]; done) | exact absurd hx (by simp)))) (trodAll_cons_mk (RowKit.Below.trod laidOutT (by kernel_rfl) (of_decide_eq_true (by kernel_rfl)) hk2 bel (fun x hx => hW'.lt x (by first | (simp [hx]; done) | exact absurd hx (by simp)))) (trodAll_cons_mk (RowKit.Below.trod laidOutT (by kernel_rfl) (of_decide_eq_true (by kernel_rfl)) hk3 bel (fun x hx => hW'.lt x (by first | (simp [hx]; done) | exact absurd hx (by simp)))) (trodAll_cons_mk (RowKit.Below.trod laidOutT (by kernel_rfl) (of_decide_eq_true (by kernel_rfl)) hk4 bel (fun x hx => hW'.lt x (by first | (simp [hx]; done) | exact absurd hx (by simp)))) (trodAll_cons_mk (RowKit.Below.trod laidOutT (by kernel_rfl) (of_decide_eq_true (by kernel_rfl)) hk5 bel (fun x hx => hW'.lt x (by first | (simp [hx]; done) | exact absurd hx (by simp)))) (trodAll_cons_mk (RowKit.Below.trod laidOutT (by kernel_rfl) (of_decide_eq_true (by kernel_rfl)) hk6 bel (fun x hx => hW'.lt x (by first | (simp [hx]; done) | exact absurd hx (by simp)))) (trodAll_cons_mk (RowKit.Below.trod laidOutT (by kernel_rfl) (of_decide_eq_true (by kernel_rfl)) hk7 bel (fun x hx => hW'.lt x (by first | (simp [hx]; done) | exact absurd hx (by simp)))) trodAll_mk0)))))))), rfl, bel.frame _, fun h => by cases h⟩
theorem said_contractMatchesReference : Rows.ContractMatchesReferenceSaid :=
 OpenClaim.holds_of_wide 3 Tryz.f3 rfl rfl rfl rfl rfl rfl rfl ⟨rfl, rfl, rfl, rfl, rfl⟩ rfl rfl rfl rfl rfl (by kernel_rfl) Tryz.func3 (by kernel_rfl)
  (of_decide_eq_true (by kernel_rfl)) (by unfold Func.isWrapper; first | (rw [if_pos (by decide +kernel)]; kernel_rfl) | (rw [if_neg (by decide +kernel)]; exact ⟨rfl, rfl⟩))
  (fun os started H enc _ => lifted_contractMatchesReference os started H enc)
theorem card_contractMatchesReference : Rows.ContractMatchesReferenceCardSaid :=
 Claim7.holds_tied_plain_at .later [] _ _ _ _ said_contractMatchesReference (fun _ h => by cases h) (by kernel_rfl) (fun _ h => by cases h) contractMatchesReference_row_tie rfl ⟨rfl, rfl⟩ (by kernel_rfl) rfl
  (fun f fn hf hfn => by
   obtain rfl : f = 3 := Option.some.inj ((show Tryz.prog.funcNamed "latecomer/latecomerlaw26.ContractMatchesReference" = some 3 by kernel_rfl).symm.trans hf) |>.symm
   obtain rfl : fn = Tryz.f3 := (Option.some.inj (Tryz.func3.symm.trans hfn)).symm
   exact ⟨by kernel_rfl, fun j t ht => by
    rw [Tryz.params3] at ht
    have hm : t ∈ [25, 26, 27, 28, 3, 29, 31, 32] := by simpa using Array.mem_of_getElem? ht
    have hall : ([25, 26, 27, 28, 3, 29, 31, 32].all fun u => !Tryz.prog.wantsStandIn u) = true := by kernel_rfl
    exact (show Tryz.prog.wantsStandIn t = false by simpa using List.all_eq_true.1 hall t hm)⟩)
  (by kernel_rfl)
end Go.Proofs.YtjmdnjnjepinoaaGreatDoor
