/-
  Contracts and plain lemmas. By an AI agent.
-/
import Derived.Test.YtnocjgmmglmfiaaGreatDoorLEsX
import Derived.Test.YtnocjgmmglmfiaaGreatDoorEsW
set_option linter.unusedSimpArgs false
set_option linter.unusedVariables false
set_option linter.unusedSectionVars false
namespace Go.Proofs.YtnocjgmmglmfiaaGreatDoor
open Go Go.Eng Go.Proofs Go.Num Go.RowKit
set_option maxRecDepth 100000
set_option linter.unusedVariables false
set_option linter.unusedSectionVars false
theorem sumX_ok {l : List El} (h : MEs l) (hl : l.length ≤ 1000) : oSum oX l (some 0) = some (sumR tX l) := by
  have := oSum_ok (f := oX) (t := tX) (D := 360) (M := 450) (l := l) (a := 0) (A := 0) (by decide) (by decide +kernel) (fun e he => ⟨rfl, (h e he).x⟩) .zero
    (Nat.lt_of_le_of_lt (Nat.mul_le_mul_right _ (by omega : 0 + l.length * 450 ≤ 450000)) (by decide +kernel))
  rw [Rat.zero_add] at this; exact this
section
variable {W : World} {v v' : Value} {l : List El} (he : En W) (hx : SlC W 2 v l.length (l.flatMap fX)) (h : MEs l)
include he hx h
theorem m_sum (hl : l.length ≤ 1000) {a : Rat} (ha : sumR tX l = a) : Calls Tryz.prog 20 #[v] W (Ret fun r w' => Ext W w' ∧ r = .tuple #[ov (some a), .int .i64 0]) :=
  c_sumL he.hT hx (fun e he => (h e he).good.1) (by rw [sumX_ok h hl, ha]) (by omega)
end
set_option maxHeartbeats 4000000 in
theorem law_Unbiased {w0 : World} {v : Value} {l : List I3} (he : En w0) (hv : SlC w0 3 v l.length (l.flatMap fT)) (hok : I3ok l) (hl : l.length ≤ 9223372036854775807) :
    Calls Tryz.prog 4 #[v] w0 (Ret fun r w' => Ext w0 w' ∧ r = .bool true) := by
  have hm := made_ME l 7
  have hml := made_len l 7
  obtain ⟨m, hmm⟩ : ∃ m, made l 7 = m := ⟨_, rfl⟩
  rw [hmm] at hm hml
  have cc1 := fun {W : World} (x : Ext w0 W) => c_sane (he.ext x)
  have cc2 : ∀ {W : World}, Ext w0 W → ∀ {v v' : Value}, SlC W 2 v m.length (m.flatMap fX) → SlC W 2 v' m.length (m.flatMap fP) → Calls Tryz.prog 18 #[v, v'] W (Ret fun r w' => Ext W w' ∧ r = .tuple #[ov (some (sumR tX m)), ov (some (sumR tV m)), ov (some (sumR tV m)), .int .i64 0]) := fun x _ _ h1 h2 => m_Expect (he.ext x) h1 h2 hm hml rfl rfl
  have cc3 : ∀ {W : World}, Ext w0 W → ∀ {v : Value}, SlC W 2 v m.length (m.flatMap fX) → Calls Tryz.prog 20 #[v] W (Ret fun r w' => Ext W w' ∧ r = .tuple #[ov (some (sumR tX m)), .int .i64 0]) := fun x _ h1 => m_sum (he.ext x) h1 hm (by omega) rfl
  apply e_law16_EstimateUnbiased
  unfold s_law16_EstimateUnbiased
  have h := Hp.init [] w0
  refine cl1 h n_law16_sane (cc1 h.ext) fun w h => ?_
  refine Un_T ?_
  refine If_F ?_
  refine Cl_i n_ref16_Made (c_Made (most := 7) (hv.hp h) hok hl (by decide)) ?_
  rintro _ w' ⟨x, p, rfl, h'⟩
  rw [hmm] at h'
  have h := h.cat2 h' ro_sm ro_sm
  refine Ex2 ?_
  refine cl1 h n_estimate_Expect (cc2 h.ext (by first | exact (h.sl (i := 1) rfl) | assumption) (by first | exact (h.sl (i := 0) rfl) | assumption)) fun w h => ?_
  refine Ex4 ?_
  refine alS h fun g1 w h => ?_
  refine alS h fun g2 w h => ?_
  refine alS h fun g3 w h => ?_
  refine stA h 2 rfl rfl rfl rfl fun w h => ?_
  refine stA h 1 rfl rfl rfl rfl fun w h => ?_
  refine stA h 0 rfl rfl rfl rfl fun w h => ?_
  refine cl1 h n_law16_sum (cc3 h.ext (by first | exact (h.sl (i := 4) rfl) | assumption)) fun w h => ?_
  refine Ex2 ?_
  refine alS h fun g4 w h => ?_
  refine stA h 0 rfl rfl rfl rfl fun w h => ?_
  refine Bn_eqT (by omega) ?_
  iterate 2 refine Gd_T ?_
  refine Bn_eqT (by omega) ?_
  refine Pick_T ?_
  refine Gd_T ?_
  refine ldA h 3 rfl rfl ?_
  refine Gd_T ?_
  refine ldA h 0 rfl rfl ?_
  refine Gd_T ?_
  refine qEqS ?_
  refine Pick_T ?_
  dsimp only [List.set] at h
  exact Ret.mk ⟨h.ext, rfl⟩
set_option maxHeartbeats 4000000 in
theorem law_Varies {w0 : World} {v : Value} {l : List I3} (he : En w0) (hv : SlC w0 3 v l.length (l.flatMap fT)) (hok : I3ok l) (hl : l.length ≤ 9223372036854775807) :
    Calls Tryz.prog 5 #[v] w0 (Ret fun r w' => Ext w0 w' ∧ r = .bool true) := by
  have hm := made_ME l 7
  have hml := made_len l 7
  obtain ⟨m, hmm⟩ : ∃ m, made l 7 = m := ⟨_, rfl⟩
  rw [hmm] at hm hml
  have cc1 := fun {W : World} (x : Ext w0 W) => c_sane (he.ext x)
  have cc2 : ∀ {W : World}, Ext w0 W → ∀ {v v' : Value}, SlC W 2 v m.length (m.flatMap fX) → SlC W 2 v' m.length (m.flatMap fP) → Calls Tryz.prog 18 #[v, v'] W (Ret fun r w' => Ext W w' ∧ r = .tuple #[ov (some (sumR tX m)), ov (some (sumR tV m)), ov (some (sumR tV m)), .int .i64 0]) := fun x _ _ h1 h2 => m_Expect (he.ext x) h1 h2 hm hml rfl rfl
  have cc3 : ∀ {W : World}, Ext w0 W → ∀ {v v' : Value}, SlC W 2 v m.length (m.flatMap fX) → SlC W 2 v' m.length (m.flatMap fP) → Calls Tryz.prog 16 #[v, v'] W (Ret fun r w' => Ext W w' ∧ r = .tuple #[ov (some (sumR tV m)), .int .i64 0]) := fun x _ _ h1 h2 => m_Variance (he.ext x) h1 h2 hm (by omega) rfl
  have cc4 := fun {W : World} (x : Ext w0 W) => c_of1 (w := W) (n := 0) (he.hT.ext x) (by decide)
  have rbV : RB (sumR tV m) := by
    have := ob_var m
    rw [var_ok hm (by omega)] at this
    exact this.get
  have cc5 : ∀ {W : World}, Ext w0 W → Calls Tryz.prog 21 #[ov (some (sumR tV m)), ov (some ((0 : Int) : Rat))] W (Ret fun r w' => Ext W w' ∧ r = .int .i64 (cmpQ (sumR tV m) 0)) := fun x => o_cmp rbV rb0 (he.hT.ext x)
  have hge : 0 ≤ cmpQ (sumR tV m) 0 := by
    have h0 := var_nonneg hm
    rcases cmpQ_cases (sumR tV m) 0 with ⟨h, e⟩ | ⟨h, e⟩ | ⟨h, e⟩ <;> rw [e]
    · exact absurd h (Rat.not_lt.2 h0)
    · decide
    · decide
  apply e_law16_EstimateVaries
  unfold s_law16_EstimateVaries
  have h := Hp.init [] w0
  refine cl1 h n_law16_sane (cc1 h.ext) fun w h => ?_
  refine Un_T ?_
  refine If_F ?_
  refine Cl_i n_ref16_Made (c_Made (most := 7) (hv.hp h) hok hl (by decide)) ?_
  rintro _ w' ⟨x, p, rfl, h'⟩
  rw [hmm] at h'
  have h := h.cat2 h' ro_sm ro_sm
  refine Ex2 ?_
  refine cl1 h n_estimate_Expect (cc2 h.ext (by first | exact (h.sl (i := 1) rfl) | assumption) (by first | exact (h.sl (i := 0) rfl) | assumption)) fun w h => ?_
  refine Ex4 ?_
  refine alS h fun g1 w h => ?_
  refine alS h fun g2 w h => ?_
  refine alS h fun g3 w h => ?_
  refine stA h 2 rfl rfl rfl rfl fun w h => ?_
  refine stA h 1 rfl rfl rfl rfl fun w h => ?_
  refine stA h 0 rfl rfl rfl rfl fun w h => ?_
  refine cl1 h n_estimate_Variance (cc3 h.ext (by first | exact (h.sl (i := 4) rfl) | assumption) (by first | exact (h.sl (i := 3) rfl) | assumption)) fun w h => ?_
  refine Ex2 ?_
  refine alS h fun g4 w h => ?_
  refine stA h 0 rfl rfl rfl rfl fun w h => ?_
  replace h := h.dr
  refine Dv_eqT (by omega) ?_
  iterate 2 refine GdP_T ?_
  refine Dv_eqT (by omega) ?_
  refine PickP_T ?_
  refine GdP_T ?_
  refine dlA h 2 rfl rfl ?_
  refine GdP_T ?_
  refine dlA h 0 rfl rfl ?_
  refine GdP_T ?_
  refine dqEqS ?_
  refine PickP_T ?_
  refine GdP_T ?_
  refine dlA h 1 rfl rfl ?_
  refine GdP_T ?_
  refine dlA h 0 rfl rfl ?_
  refine GdP_T ?_
  refine dqEqS ?_
  refine PickP_T ?_
  refine GdP_T ?_
  refine dlA h 0 rfl rfl ?_
  refine Gd_T ?_
  refine cl1 h n_law16_of (cc4 h.ext) fun w h => ?_
  refine Kg_T ?_
  refine klA h 0 rfl rfl ?_
  refine Gd_T ?_
  refine cl1 h n_rational_Compare (cc5 h.ext) fun w h => ?_
  refine GdP_T ?_
  refine Dv_geT (by omega) ?_
  refine PickP_T ?_
  dsimp only [List.set] at h
  exact Ret.mk ⟨h.ext, rfl⟩
end Go.Proofs.YtnocjgmmglmfiaaGreatDoor
