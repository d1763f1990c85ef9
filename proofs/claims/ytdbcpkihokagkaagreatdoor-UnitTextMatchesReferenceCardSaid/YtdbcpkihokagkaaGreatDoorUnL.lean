/-
  Contracts and plain lemmas. By an AI agent.
-/
import Derived.Test.YtdbcpkihokagkaaGreatDoorUnJ
set_option linter.unusedSimpArgs false
set_option linter.unusedVariables false
set_option linter.unusedSectionVars false
namespace Go.Proofs.YtdbcpkihokagkaaGreatDoor
open Go Go.Eng Go.Proofs Go.Num Go.RowKit
set_option maxRecDepth 100000
theorem apO_cases {z : Option Rat} {u : U4} : (eE z = 40 ∧ apO z u = none) ∨ (eE z = 0 ∧ (valQ ⟨(eN z, eD z), u⟩).isSome = false ∧ apO z u = none) ∨ (eE z = 0 ∧ (valQ ⟨(eN z, eD z), u⟩).isSome = true ∧ apO z u = some ⟨(eN z, eD z), u⟩) := by
 rcases z with _ | x
 ·exact .inl ⟨rfl, rfl⟩
 ·rcases hv : (valQ ⟨(eN (some x), eD (some x)), u⟩).isSome with _ | _
  ·refine .inr (.inl ⟨rfl, rfl, ?_⟩)
   show (if (valQ ⟨tx x, u⟩).isSome then some _ else none) = none
   exact if_neg (by rw [show valQ ⟨tx x, u⟩ = valQ ⟨(eN (some x), eD (some x)), u⟩ from rfl, hv]; decide)
  ·refine .inr (.inr ⟨rfl, rfl, ?_⟩)
   show (if (valQ ⟨tx x, u⟩).isSome then some _ else none) = _
   exact if_pos hv
theorem c_result {w0 : World} {z : Option Rat} {u : U4} (hB : OB z) : Calls Tryz.prog 48 #[ov z, .int .i64 (eE z), vU u] w0 (Ret fun r w' => Ext w0 w' ∧ r = rQ2 (apO z u)) := by
 have hkz : QTk ⟨(eN z, eD z), u⟩ := ⟨hB.len.1, hB.len.2⟩
 rcases apO_cases (z := z) (u := u) with ⟨hz, ha⟩ | ⟨hz, hv, ha⟩ | ⟨hz, hv, ha⟩
 ·rw [ha]
  apply e_ref05_result
  unfold s_ref05_result
  have h := Hp.init [] w0
  refine bxA h fun g1 w h => ?_
  refine bxA h fun g2 w h => ?_
  refine alS h fun g3 w h => ?_
  refine ldA h 2 rfl rfl ?_
  refine ldA h 1 rfl rfl ?_
  refine bdS (PC.cons (by rfl) (PC.cons (by rfl) PC.nil)) (by rfl) ?_
  refine alS h fun g4 w h => ?_
  refine stA h 0 rfl rfl rfl rfl fun w h => ?_
  refine Bn_neT (by omega) (Gd_TF (Gd_TF (Gd_TF (Pick_T (If_T (bdS PC.nil (by rfl) ?_))))))
  refine stA h 1 rfl rfl rfl rfl fun w h => ?_
  refine rcA h 1 rfl rfl ?_
  dsimp only [List.set] at h
  exact Ret.mk ⟨h.ext, rfl⟩
 ·have cc4 := fun {W : World} (x : Ext w0 W) => c_fValidQ (w0 := W) hkz hv
  rw [ha]
  apply e_ref05_result
  unfold s_ref05_result
  have h := Hp.init [] w0
  refine bxA h fun g1 w h => ?_
  refine bxA h fun g2 w h => ?_
  refine alS h fun g3 w h => ?_
  refine ldA h 2 rfl rfl ?_
  refine ldA h 1 rfl rfl ?_
  refine bdS (PC.cons (by rfl) (PC.cons (by rfl) PC.nil)) (by rfl) ?_
  refine alS h fun g4 w h => ?_
  refine stA h 0 rfl rfl rfl rfl fun w h => ?_
  refine Bn_neF (by omega) (Gd_F (ldA h 0 rfl rfl ?_))
  refine Gd_F (cl1 h n_ref05_Valid (cc4 h.ext) fun w h => ?_)
  refine Gd_F (Un_F (Pick_F (If_T (bdS PC.nil (by rfl) ?_))))
  refine stA h 1 rfl rfl rfl rfl fun w h => ?_
  refine rcA h 1 rfl rfl ?_
  dsimp only [List.set] at h
  exact Ret.mk ⟨h.ext, rfl⟩
 ·have cc4 := fun {W : World} (x : Ext w0 W) => c_fValidQ (w0 := W) hkz hv
  rw [ha]
  apply e_ref05_result
  unfold s_ref05_result
  have h := Hp.init [] w0
  refine bxA h fun g1 w h => ?_
  refine bxA h fun g2 w h => ?_
  refine alS h fun g3 w h => ?_
  refine ldA h 2 rfl rfl ?_
  refine ldA h 1 rfl rfl ?_
  refine bdS (PC.cons (by rfl) (PC.cons (by rfl) PC.nil)) (by rfl) ?_
  refine alS h fun g4 w h => ?_
  refine stA h 0 rfl rfl rfl rfl fun w h => ?_
  refine Bn_neF (by omega) (Gd_F (ldA h 0 rfl rfl ?_))
  refine Gd_F (cl1 h n_ref05_Valid (cc4 h.ext) fun w h => ?_)
  refine Gd_F (Un_T (Pick_F (If_F (ldA h 0 rfl rfl ?_))))
  refine stA h 1 rfl rfl rfl rfl fun w h => ?_
  refine rcA h 1 rfl rfl ?_
  dsimp only [List.set] at h
  exact Ret.mk ⟨h.ext, rfl⟩
section
variable {w0 : World} {a b : QT} (hka : QTk a) (hkb : QTk b)
include hka hkb
end
end Go.Proofs.YtdbcpkihokagkaaGreatDoor
