/-
  Contracts and plain lemmas. By an AI agent.
-/
import Derived.Test.YtdbcpkihokagkaaGreatDoorUnJ
set_option linter.unusedSimpArgs false
set_option linter.unusedVariables false
set_option linter.unusedSectionVars false
namespace Go.Proofs.YtdbcpkihokagkaaGreatDoor
open Go Go.Eng Go.Proofs Go.Num Go.RowKit
set_option maxRecDepth 100000
theorem apO_cases {z : Option Rat} {u : U4} : (eE z = 40 ∧ apO z u = none) ∨ (eE z = 0 ∧ (valQ ⟨(eN z, eD z), u⟩).isSome = false ∧ apO z u = none) ∨ (eE z = 0 ∧ (valQ ⟨(eN z, eD z), u⟩).isSome = true ∧ apO z u = some ⟨(eN z, eD z), u⟩) := by
 rcases z with _ | x
 ·exact .inl ⟨rfl, rfl⟩
 ·rcases hv : (valQ ⟨(eN (some x), eD (some x)), u⟩).isSome with _ | _
  ·refine .inr (.inl ⟨rfl, rfl, ?_⟩)
   show (if (valQ ⟨tx x, u⟩).isSome then some _ else none) = none
   exact if_neg (by rw [show valQ ⟨tx x, u⟩ = valQ ⟨(eN (some x), eD (some x)), u⟩ from rfl, hv]; decide)
  ·refine .inr (.inr ⟨rfl, rfl, ?_⟩)
   show (if (valQ ⟨tx x, u⟩).isSome then some _ else none) = _
   exact if_pos hv
theorem two_casesV (a b : QT) : (valQ a).isSome = false ∨ ((valQ a).isSome = true ∧ (valQ b).isSome = false) ∨ ∃ x y, valQ a = some x ∧ valQ b = some y := by
 rcases two_cases a b with h | h | ⟨h1, h2, _⟩ | ⟨x, y, h1, h2, _⟩
 ·exact .inl h
 ·exact .inr (.inl h)
 ·obtain ⟨x, hx⟩ := Option.isSome_iff_exists.1 h1
  obtain ⟨y, hy⟩ := Option.isSome_iff_exists.1 h2
  exact .inr (.inr ⟨x, y, hx, hy⟩)
 ·exact .inr (.inr ⟨x, y, h1, h2⟩)
theorem c_result {w0 : World} {z : Option Rat} {u : U4} (hB : OB z) : Calls Tryz.prog 48 #[ov z, .int .i64 (eE z), vU u] w0 (Ret fun r w' => Ext w0 w' ∧ r = rQ2 (apO z u)) := by
 have hkz : QTk ⟨(eN z, eD z), u⟩ := ⟨hB.len.1, hB.len.2⟩
 rcases apO_cases (z := z) (u := u) with ⟨hz, ha⟩ | ⟨hz, hv, ha⟩ | ⟨hz, hv, ha⟩
 ·rw [ha]
  apply e_ref05_result
  unfold s_ref05_result
  have h := Hp.init [] w0
  refine bxA h fun g1 w h => ?_
  refine bxA h fun g2 w h => ?_
  refine alS h fun g3 w h => ?_
  refine ldA h 2 rfl rfl ?_
  refine ldA h 1 rfl rfl ?_
  refine bdS (PC.cons (by rfl) (PC.cons (by rfl) PC.nil)) (by rfl) ?_
  refine alS h fun g4 w h => ?_
  refine stA h 0 rfl rfl rfl rfl fun w h => ?_
  refine Bn_neT (by omega) (Gd_TF (Gd_TF (Gd_TF (Pick_T (If_T (bdS PC.nil (by rfl) ?_))))))
  refine stA h 1 rfl rfl rfl rfl fun w h => ?_
  refine rcA h 1 rfl rfl ?_
  dsimp only [List.set] at h
  exact Ret.mk ⟨h.ext, rfl⟩
 ·have cc4 := fun {W : World} (x : Ext w0 W) => c_fValidQ (w0 := W) hkz hv
  rw [ha]
  apply e_ref05_result
  unfold s_ref05_result
  have h := Hp.init [] w0
  refine bxA h fun g1 w h => ?_
  refine bxA h fun g2 w h => ?_
  refine alS h fun g3 w h => ?_
  refine ldA h 2 rfl rfl ?_
  refine ldA h 1 rfl rfl ?_
  refine bdS (PC.cons (by rfl) (PC.cons (by rfl) PC.nil)) (by rfl) ?_
  refine alS h fun g4 w h => ?_
  refine stA h 0 rfl rfl rfl rfl fun w h => ?_
  refine Bn_neF (by omega) (Gd_F (ldA h 0 rfl rfl ?_))
  refine Gd_F (cl1 h n_ref05_Valid (cc4 h.ext) fun w h => ?_)
  refine Gd_F (Un_F (Pick_F (If_T (bdS PC.nil (by rfl) ?_))))
  refine stA h 1 rfl rfl rfl rfl fun w h => ?_
  refine rcA h 1 rfl rfl ?_
  dsimp only [List.set] at h
  exact Ret.mk ⟨h.ext, rfl⟩
 ·have cc4 := fun {W : World} (x : Ext w0 W) => c_fValidQ (w0 := W) hkz hv
  rw [ha]
  apply e_ref05_result
  unfold s_ref05_result
  have h := Hp.init [] w0
  refine bxA h fun g1 w h => ?_
  refine bxA h fun g2 w h => ?_
  refine alS h fun g3 w h => ?_
  refine ldA h 2 rfl rfl ?_
  refine ldA h 1 rfl rfl ?_
  refine bdS (PC.cons (by rfl) (PC.cons (by rfl) PC.nil)) (by rfl) ?_
  refine alS h fun g4 w h => ?_
  refine stA h 0 rfl rfl rfl rfl fun w h => ?_
  refine Bn_neF (by omega) (Gd_F (ldA h 0 rfl rfl ?_))
  refine Gd_F (cl1 h n_ref05_Valid (cc4 h.ext) fun w h => ?_)
  refine Gd_F (Un_T (Pick_F (If_F (ldA h 0 rfl rfl ?_))))
  refine stA h 1 rfl rfl rfl rfl fun w h => ?_
  refine rcA h 1 rfl rfl ?_
  dsimp only [List.set] at h
  exact Ret.mk ⟨h.ext, rfl⟩
theorem c_Sum1 {w : World} {u v : U4} (hu : uOk u) (hv : uOk v) : Calls Tryz.prog 54 #[vU u, vU v, .int .i64 1] w (Ret fun r w' => Ext w w' ∧ r = vU (mpU (fun x y => x + y) u v)) := by
 obtain ⟨⟨_, _⟩, ⟨_, _⟩, ⟨_, _⟩, ⟨_, _⟩⟩ := hu
 obtain ⟨⟨_, _⟩, ⟨_, _⟩, ⟨_, _⟩, ⟨_, _⟩⟩ := hv
 apply e_ref05_Sum
 unfold s_ref05_Sum
 have h := Hp.init [] w
 refine bxA h fun g1 w h => ?_
 refine bxA h fun g2 w h => ?_
 refine alS h fun g3 w h => ?_
 refine faS (Eng.ld1 h 2 rfl rfl (faS (Eng.ld1 h 1 rfl rfl (Bn_mu (by omega) (by omega) (Bn_ad (by omega) (by omega) (faS (Eng.ld1 h 2 rfl rfl (faS (Eng.ld1 h 1 rfl rfl (Bn_mu (by omega) (by omega) (Bn_ad (by omega) (by omega) (faS (Eng.ld1 h 2 rfl rfl (faS (Eng.ld1 h 1 rfl rfl (Bn_mu (by omega) (by omega) (Bn_ad (by omega) (by omega) (faS (Eng.ld1 h 2 rfl rfl (faS (Eng.ld1 h 1 rfl rfl (Bn_mu (by omega) (by omega) (Bn_ad (by omega) (by omega) (bdS (PC.cons (by rfl) (PC.cons (by rfl) (PC.cons (by rfl) (PC.cons (by rfl) PC.nil)))) (by rfl) ?_))))))))))))))))))))))))
 refine stA h 0 rfl rfl rfl rfl fun w h => ?_
 refine rcA h 0 rfl rfl ?_
 dsimp only [List.set] at h
 exact Ret.mk ⟨h.ext, by simp only [Int.one_mul]⟩
theorem c_SumN {w : World} {u v : U4} (hu : uOk u) (hv : uOk v) : Calls Tryz.prog 54 #[vU u, vU v, .int .i64 (-1)] w (Ret fun r w' => Ext w w' ∧ r = vU (mpU (fun x y => x - y) u v)) := by
 obtain ⟨⟨_, _⟩, ⟨_, _⟩, ⟨_, _⟩, ⟨_, _⟩⟩ := hu
 obtain ⟨⟨_, _⟩, ⟨_, _⟩, ⟨_, _⟩, ⟨_, _⟩⟩ := hv
 apply e_ref05_Sum
 unfold s_ref05_Sum
 have h := Hp.init [] w
 refine bxA h fun g1 w h => ?_
 refine bxA h fun g2 w h => ?_
 refine alS h fun g3 w h => ?_
 refine faS (Eng.ld1 h 2 rfl rfl (faS (Eng.ld1 h 1 rfl rfl (Bn_mu (by omega) (by omega) (Bn_ad (by omega) (by omega) (faS (Eng.ld1 h 2 rfl rfl (faS (Eng.ld1 h 1 rfl rfl (Bn_mu (by omega) (by omega) (Bn_ad (by omega) (by omega) (faS (Eng.ld1 h 2 rfl rfl (faS (Eng.ld1 h 1 rfl rfl (Bn_mu (by omega) (by omega) (Bn_ad (by omega) (by omega) (faS (Eng.ld1 h 2 rfl rfl (faS (Eng.ld1 h 1 rfl rfl (Bn_mu (by omega) (by omega) (Bn_ad (by omega) (by omega) (bdS (PC.cons (by rfl) (PC.cons (by rfl) (PC.cons (by rfl) (PC.cons (by rfl) PC.nil)))) (by rfl) ?_))))))))))))))))))))))))
 refine stA h 0 rfl rfl rfl rfl fun w h => ?_
 refine rcA h 0 rfl rfl ?_
 dsimp only [List.set] at h
 exact Ret.mk ⟨h.ext, by simp only [Int.neg_one_mul, ← Int.sub_eq_add_neg]⟩
section
variable {w0 : World} {a b : QT} (hka : QTk a) (hkb : QTk b)
include hka hkb
theorem c_fAddQ : Calls Tryz.prog 18 #[vQ a, vQ b] w0 (Ret fun r w' => Ext w0 w' ∧ r = rQ2 (addO a b)) := by
 rcases two_cases a b with ha | ⟨ha, hb⟩ | ⟨ha, hb, hu⟩ | ⟨x, y, ha, hb, hu⟩
 ·have cc1 := fun {W : World} (e : Ext w0 W) => c_fValidQ (w0 := W) hka ha
  rw [show addO a b = none from opQ_na ha]
  apply e_ref05_Add
  unfold s_ref05_Add
  have h := Hp.init [] w0
  refine bxA h fun g1 w h => ?_
  refine bxA h fun g2 w h => ?_
  refine alS h fun g3 w h => ?_
  refine ldA h 2 rfl rfl ?_
  refine cl1 h n_ref05_Valid (cc1 h.ext) fun w h => ?_
  refine Un_F (Gd_TF (Gd_TF (Gd_TF (Pick_T (Gd_TF (Gd_TF (Gd_TF (Gd_TF (Gd_TF (Pick_T (If_T (bdS PC.nil (by rfl) ?_))))))))))))
  refine stA h 0 rfl rfl rfl rfl fun w h => ?_
  refine rcA h 0 rfl rfl ?_
  dsimp only [List.set] at h
  exact Ret.mk ⟨h.ext, rfl⟩
 ·have cc1 := fun {W : World} (e : Ext w0 W) => c_fValidQ (w0 := W) hka ha
  have cc2 := fun {W : World} (e : Ext w0 W) => c_fValidQ (w0 := W) hkb hb
  rw [show addO a b = none from opQ_nb hb]
  apply e_ref05_Add
  unfold s_ref05_Add
  have h := Hp.init [] w0
  refine bxA h fun g1 w h => ?_
  refine bxA h fun g2 w h => ?_
  refine alS h fun g3 w h => ?_
  refine ldA h 2 rfl rfl ?_
  refine cl1 h n_ref05_Valid (cc1 h.ext) fun w h => ?_
  refine Un_T (Gd_F (ldA h 1 rfl rfl ?_))
  refine Gd_F (cl1 h n_ref05_Valid (cc2 h.ext) fun w h => ?_)
  refine Gd_F (Un_F (Pick_F (Gd_TF (Gd_TF (Gd_TF (Gd_TF (Gd_TF (Pick_T (If_T (bdS PC.nil (by rfl) ?_))))))))))
  refine stA h 0 rfl rfl rfl rfl fun w h => ?_
  refine rcA h 0 rfl rfl ?_
  dsimp only [List.set] at h
  exact Ret.mk ⟨h.ext, rfl⟩
 ·have cc1 := fun {W : World} (e : Ext w0 W) => c_fValidQ (w0 := W) hka ha
  have cc2 := fun {W : World} (e : Ext w0 W) => c_fValidQ (w0 := W) hkb hb
  have hu4 := u4_ne hu
  rw [show addO a b = none from opQ_u hu]
  apply e_ref05_Add
  unfold s_ref05_Add
  have h := Hp.init [] w0
  refine bxA h fun g1 w h => ?_
  refine bxA h fun g2 w h => ?_
  refine alS h fun g3 w h => ?_
  refine ldA h 2 rfl rfl ?_
  refine cl1 h n_ref05_Valid (cc1 h.ext) fun w h => ?_
  refine Un_T (Gd_F (ldA h 1 rfl rfl ?_))
  refine Gd_F (cl1 h n_ref05_Valid (cc2 h.ext) fun w h => ?_)
  refine Gd_F (Un_T (Pick_F (Gd_F (faS (Gd_F (ldA h 2 rfl rfl ?_))))))
  refine Gd_F (faS (Gd_F (ldA h 1 rfl rfl ?_)))
  refine Gd_F (neU_t ‹_› ?_)
  refine Pick_F (If_T (bdS PC.nil (by rfl) ?_))
  refine stA h 0 rfl rfl rfl rfl fun w h => ?_
  refine rcA h 0 rfl rfl ?_
  dsimp only [List.set] at h
  exact Ret.mk ⟨h.ext, rfl⟩
 ·have cc1 := fun {W : World} (e : Ext w0 W) => c_fValidQ (w0 := W) hka (b := true) (by rw [ha]; rfl)
  have cc2 := fun {W : World} (e : Ext w0 W) => c_fValidQ (w0 := W) hkb (b := true) (by rw [hb]; rfl)
  obtain ⟨ua, pa, ra, _⟩ := valQ_some ha
  obtain ⟨ub, pb, rb, _⟩ := valQ_some hb
  have hBz : OB (oAdd (some x) (some y)) := oBin_B fit_add (some x) (some y)
  have cc3 : ∀ {W : World}, Ext w0 W → Calls Tryz.prog 47 #[.agg #[str a.p.1, str a.p.2], .agg #[str b.p.1, str b.p.2]] W (Ret fun r w' => Ext W w' ∧ r = ot (oAdd (some x) (some y))) := fun {W} e => by
   have := o_fadd (w := W) (OB.some ra) (OB.some rb)
   rw [pa, pb]
   exact this
  have hu4 : a.u.1 = b.u.1 ∧ a.u.2.1 = b.u.2.1 ∧ a.u.2.2.1 = b.u.2.2.1 ∧ a.u.2.2.2 = b.u.2.2.2 := by rw [hu]; exact ⟨rfl, rfl, rfl, rfl⟩
  rw [show addO a b = apO (oAdd (some x) (some y)) a.u from opQ_v ha hb (fun _ => hu)]
  generalize oAdd (some x) (some y) = z at *
  have cc4 := fun {W : World} (_ : Ext w0 W) => c_result (w0 := W) (u := a.u) hBz
  apply e_ref05_Add
  unfold s_ref05_Add
  have h := Hp.init [] w0
  refine bxA h fun g1 w h => ?_
  refine bxA h fun g2 w h => ?_
  refine alS h fun g3 w h => ?_
  refine ldA h 2 rfl rfl ?_
  refine cl1 h n_ref05_Valid (cc1 h.ext) fun w h => ?_
  refine Un_T (Gd_F (ldA h 1 rfl rfl ?_))
  refine Gd_F (cl1 h n_ref05_Valid (cc2 h.ext) fun w h => ?_)
  refine Gd_F (Un_T (Pick_F (Gd_F (faS (Gd_F (ldA h 2 rfl rfl ?_))))))
  refine Gd_F (faS (Gd_F (ldA h 1 rfl rfl ?_)))
  refine Gd_F (neU_e ‹_› ?_)
  refine Pick_F (If_F (faS (ldA h 2 rfl rfl ?_)))
  refine faS (ldA h 1 rfl rfl ?_)
  refine cl1 h n_ref04_Add (cc3 h.ext) fun w h => ?_
  refine Ex2 (alS h fun g4 w h => ?_)
  refine stA h 0 rfl rfl rfl rfl fun w h => ?_
  refine ldA h 0 rfl rfl ?_
  refine faS (ldA h 3 rfl rfl ?_)
  refine cl1 h n_ref05_result (cc4 h.ext) fun w h => ?_
  refine Ex2 (alS h fun g5 w h => ?_)
  refine stA h 0 rfl rfl rfl rfl fun w h => ?_
  refine ldA h 0 rfl rfl ?_
  refine stA h 2 rfl rfl rfl rfl fun w h => ?_
  refine rcA h 2 rfl rfl ?_
  dsimp only [List.set] at h
  exact Ret.mk ⟨h.ext, rfl⟩
theorem c_fSubQ : Calls Tryz.prog 20 #[vQ a, vQ b] w0 (Ret fun r w' => Ext w0 w' ∧ r = rQ2 (subO a b)) := by
 rcases two_cases a b with ha | ⟨ha, hb⟩ | ⟨ha, hb, hu⟩ | ⟨x, y, ha, hb, hu⟩
 ·have cc1 := fun {W : World} (e : Ext w0 W) => c_fValidQ (w0 := W) hka ha
  rw [show subO a b = none from opQ_na ha]
  apply e_ref05_Sub
  unfold s_ref05_Sub
  have h := Hp.init [] w0
  refine bxA h fun g1 w h => ?_
  refine bxA h fun g2 w h => ?_
  refine alS h fun g3 w h => ?_
  refine ldA h 2 rfl rfl ?_
  refine cl1 h n_ref05_Valid (cc1 h.ext) fun w h => ?_
  refine Un_F (Gd_TF (Gd_TF (Gd_TF (Pick_T (Gd_TF (Gd_TF (Gd_TF (Gd_TF (Gd_TF (Pick_T (If_T (bdS PC.nil (by rfl) ?_))))))))))))
  refine stA h 0 rfl rfl rfl rfl fun w h => ?_
  refine rcA h 0 rfl rfl ?_
  dsimp only [List.set] at h
  exact Ret.mk ⟨h.ext, rfl⟩
 ·have cc1 := fun {W : World} (e : Ext w0 W) => c_fValidQ (w0 := W) hka ha
  have cc2 := fun {W : World} (e : Ext w0 W) => c_fValidQ (w0 := W) hkb hb
  rw [show subO a b = none from opQ_nb hb]
  apply e_ref05_Sub
  unfold s_ref05_Sub
  have h := Hp.init [] w0
  refine bxA h fun g1 w h => ?_
  refine bxA h fun g2 w h => ?_
  refine alS h fun g3 w h => ?_
  refine ldA h 2 rfl rfl ?_
  refine cl1 h n_ref05_Valid (cc1 h.ext) fun w h => ?_
  refine Un_T (Gd_F (ldA h 1 rfl rfl ?_))
  refine Gd_F (cl1 h n_ref05_Valid (cc2 h.ext) fun w h => ?_)
  refine Gd_F (Un_F (Pick_F (Gd_TF (Gd_TF (Gd_TF (Gd_TF (Gd_TF (Pick_T (If_T (bdS PC.nil (by rfl) ?_))))))))))
  refine stA h 0 rfl rfl rfl rfl fun w h => ?_
  refine rcA h 0 rfl rfl ?_
  dsimp only [List.set] at h
  exact Ret.mk ⟨h.ext, rfl⟩
 ·have cc1 := fun {W : World} (e : Ext w0 W) => c_fValidQ (w0 := W) hka ha
  have cc2 := fun {W : World} (e : Ext w0 W) => c_fValidQ (w0 := W) hkb hb
  have hu4 := u4_ne hu
  rw [show subO a b = none from opQ_u hu]
  apply e_ref05_Sub
  unfold s_ref05_Sub
  have h := Hp.init [] w0
  refine bxA h fun g1 w h => ?_
  refine bxA h fun g2 w h => ?_
  refine alS h fun g3 w h => ?_
  refine ldA h 2 rfl rfl ?_
  refine cl1 h n_ref05_Valid (cc1 h.ext) fun w h => ?_
  refine Un_T (Gd_F (ldA h 1 rfl rfl ?_))
  refine Gd_F (cl1 h n_ref05_Valid (cc2 h.ext) fun w h => ?_)
  refine Gd_F (Un_T (Pick_F (Gd_F (faS (Gd_F (ldA h 2 rfl rfl ?_))))))
  refine Gd_F (faS (Gd_F (ldA h 1 rfl rfl ?_)))
  refine Gd_F (neU_t ‹_› ?_)
  refine Pick_F (If_T (bdS PC.nil (by rfl) ?_))
  refine stA h 0 rfl rfl rfl rfl fun w h => ?_
  refine rcA h 0 rfl rfl ?_
  dsimp only [List.set] at h
  exact Ret.mk ⟨h.ext, rfl⟩
 ·have cc1 := fun {W : World} (e : Ext w0 W) => c_fValidQ (w0 := W) hka (b := true) (by rw [ha]; rfl)
  have cc2 := fun {W : World} (e : Ext w0 W) => c_fValidQ (w0 := W) hkb (b := true) (by rw [hb]; rfl)
  obtain ⟨ua, pa, ra, _⟩ := valQ_some ha
  obtain ⟨ub, pb, rb, _⟩ := valQ_some hb
  have hBz : OB (oSub (some x) (some y)) := oBin_B fit_sub (some x) (some y)
  have cc3 : ∀ {W : World}, Ext w0 W → Calls Tryz.prog 50 #[.agg #[str a.p.1, str a.p.2], .agg #[str b.p.1, str b.p.2]] W (Ret fun r w' => Ext W w' ∧ r = ot (oSub (some x) (some y))) := fun {W} e => by
   have := o_fsub (w := W) (OB.some ra) (OB.some rb)
   rw [pa, pb]
   exact this
  have hu4 : a.u.1 = b.u.1 ∧ a.u.2.1 = b.u.2.1 ∧ a.u.2.2.1 = b.u.2.2.1 ∧ a.u.2.2.2 = b.u.2.2.2 := by rw [hu]; exact ⟨rfl, rfl, rfl, rfl⟩
  rw [show subO a b = apO (oSub (some x) (some y)) a.u from opQ_v ha hb (fun _ => hu)]
  generalize oSub (some x) (some y) = z at *
  have cc4 := fun {W : World} (_ : Ext w0 W) => c_result (w0 := W) (u := a.u) hBz
  apply e_ref05_Sub
  unfold s_ref05_Sub
  have h := Hp.init [] w0
  refine bxA h fun g1 w h => ?_
  refine bxA h fun g2 w h => ?_
  refine alS h fun g3 w h => ?_
  refine ldA h 2 rfl rfl ?_
  refine cl1 h n_ref05_Valid (cc1 h.ext) fun w h => ?_
  refine Un_T (Gd_F (ldA h 1 rfl rfl ?_))
  refine Gd_F (cl1 h n_ref05_Valid (cc2 h.ext) fun w h => ?_)
  refine Gd_F (Un_T (Pick_F (Gd_F (faS (Gd_F (ldA h 2 rfl rfl ?_))))))
  refine Gd_F (faS (Gd_F (ldA h 1 rfl rfl ?_)))
  refine Gd_F (neU_e ‹_› ?_)
  refine Pick_F (If_F (faS (ldA h 2 rfl rfl ?_)))
  refine faS (ldA h 1 rfl rfl ?_)
  refine cl1 h n_ref04_Sub (cc3 h.ext) fun w h => ?_
  refine Ex2 (alS h fun g4 w h => ?_)
  refine stA h 0 rfl rfl rfl rfl fun w h => ?_
  refine ldA h 0 rfl rfl ?_
  refine faS (ldA h 3 rfl rfl ?_)
  refine cl1 h n_ref05_result (cc4 h.ext) fun w h => ?_
  refine Ex2 (alS h fun g5 w h => ?_)
  refine stA h 0 rfl rfl rfl rfl fun w h => ?_
  refine ldA h 0 rfl rfl ?_
  refine stA h 2 rfl rfl rfl rfl fun w h => ?_
  refine rcA h 2 rfl rfl ?_
  dsimp only [List.set] at h
  exact Ret.mk ⟨h.ext, rfl⟩
theorem c_fMulQ : Calls Tryz.prog 22 #[vQ a, vQ b] w0 (Ret fun r w' => Ext w0 w' ∧ r = rQ2 (mulO a b)) := by
 rcases two_casesV a b with ha | ⟨ha, hb⟩ | ⟨x, y, ha, hb⟩
 ·have cc1 := fun {W : World} (e : Ext w0 W) => c_fValidQ (w0 := W) hka ha
  rw [show mulO a b = none from opQ_na ha]
  apply e_ref05_Mul
  unfold s_ref05_Mul
  have h := Hp.init [] w0
  refine bxA h fun g1 w h => ?_
  refine bxA h fun g2 w h => ?_
  refine alS h fun g3 w h => ?_
  refine ldA h 2 rfl rfl ?_
  refine cl1 h n_ref05_Valid (cc1 h.ext) fun w h => ?_
  refine Un_F (Gd_TF (Gd_TF (Gd_TF (Pick_T (If_T (bdS PC.nil (by rfl) ?_))))))
  refine stA h 0 rfl rfl rfl rfl fun w h => ?_
  refine rcA h 0 rfl rfl ?_
  dsimp only [List.set] at h
  exact Ret.mk ⟨h.ext, rfl⟩
 ·have cc1 := fun {W : World} (e : Ext w0 W) => c_fValidQ (w0 := W) hka ha
  have cc2 := fun {W : World} (e : Ext w0 W) => c_fValidQ (w0 := W) hkb hb
  rw [show mulO a b = none from opQ_nb hb]
  apply e_ref05_Mul
  unfold s_ref05_Mul
  have h := Hp.init [] w0
  refine bxA h fun g1 w h => ?_
  refine bxA h fun g2 w h => ?_
  refine alS h fun g3 w h => ?_
  refine ldA h 2 rfl rfl ?_
  refine cl1 h n_ref05_Valid (cc1 h.ext) fun w h => ?_
  refine Un_T (Gd_F (ldA h 1 rfl rfl ?_))
  refine Gd_F (cl1 h n_ref05_Valid (cc2 h.ext) fun w h => ?_)
  refine Gd_F (Un_F (Pick_F (If_T (bdS PC.nil (by rfl) ?_))))
  refine stA h 0 rfl rfl rfl rfl fun w h => ?_
  refine rcA h 0 rfl rfl ?_
  dsimp only [List.set] at h
  exact Ret.mk ⟨h.ext, rfl⟩
 ·have cc1 := fun {W : World} (e : Ext w0 W) => c_fValidQ (w0 := W) hka (b := true) (by rw [ha]; rfl)
  have cc2 := fun {W : World} (e : Ext w0 W) => c_fValidQ (w0 := W) hkb (b := true) (by rw [hb]; rfl)
  obtain ⟨ua, pa, ra, _⟩ := valQ_some ha
  obtain ⟨ub, pb, rb, _⟩ := valQ_some hb
  have hBz : OB (oMul (some x) (some y)) := oBin_B fit_mul (some x) (some y)
  have cc3 : ∀ {W : World}, Ext w0 W → Calls Tryz.prog 53 #[.agg #[str a.p.1, str a.p.2], .agg #[str b.p.1, str b.p.2]] W (Ret fun r w' => Ext W w' ∧ r = ot (oMul (some x) (some y))) := fun {W} e => by
   have := o_fmul (w := W) (OB.some ra) (OB.some rb)
   rw [pa, pb]
   exact this
  have cc5 := fun {W : World} (_ : Ext w0 W) => c_Sum1 (w := W) ua ub
  rw [show mulO a b = apO (oMul (some x) (some y)) (mpU (fun x y => x + y) a.u b.u) from opQ_v ha hb (fun e => by cases e)]
  generalize oMul (some x) (some y) = z at *
  have cc4 := fun {W : World} (_ : Ext w0 W) => c_result (w0 := W) (u := mpU (fun x y => x + y) a.u b.u) hBz
  have main : ∀ (R : Ending → World → Prop), (∀ w, Hp [] w0 w [] → R (.returned (rQ2 (apO z (mpU (fun x y => x + y) a.u b.u)))) w) → s_ref05_Mul Tryz.prog (vQ a) (vQ b) w0 R := by
   intro R lf9
   unfold s_ref05_Mul
   have h := Hp.init [] w0
   refine bxA h fun g1 w h => ?_
   refine bxA h fun g2 w h => ?_
   refine alS h fun g3 w h => ?_
   refine ldA h 2 rfl rfl ?_
   refine cl1 h n_ref05_Valid (cc1 h.ext) fun w h => ?_
   refine Un_T (Gd_F (ldA h 1 rfl rfl ?_))
   refine Gd_F (cl1 h n_ref05_Valid (cc2 h.ext) fun w h => ?_)
   refine Gd_F (Un_T (Pick_F (If_F (faS (ldA h 2 rfl rfl ?_)))))
   refine faS (ldA h 1 rfl rfl ?_)
   refine cl1 h n_ref04_Mul (cc3 h.ext) fun w h => ?_
   refine Ex2 (alS h fun g4 w h => ?_)
   refine stA h 0 rfl rfl rfl rfl fun w h => ?_
   replace h := h.dr
   refine dlA h 0 rfl rfl ?_
   refine dfS (dlA h 3 rfl rfl ?_)
   refine dfS (dlA h 2 rfl rfl ?_)
   refine ⟨?_, ?_⟩
   refine cl1 h n_ref05_Sum (cc5 h.ext) fun w h => ?_
   refine klA h 0 rfl rfl ?_
   refine ⟨?_, ?_⟩
   refine cl1 h n_ref05_result (cc4 h.ext) fun w h => ?_
   refine ExP2 (alS h fun g5 w h => ?_)
   refine klA h 1 rfl rfl ?_
   refine klA h 4 rfl rfl ?_
   refine klA h 3 rfl rfl ?_
   refine stA h 0 rfl rfl rfl rfl fun w h => ?_
   refine ldA h 0 rfl rfl ?_
   refine stA h 2 rfl rfl rfl rfl fun w h => ?_
   refine rcA h 2 rfl rfl ?_
   exact lf9 _ (h.pick [] (by decide) rfl)
   refine alS h fun g5 w h => ?_
   refine klA h 1 rfl rfl ?_
   refine klA h 4 rfl rfl ?_
   refine klA h 3 rfl rfl ?_
   refine cl1 h n_ref05_result (cc4 h.ext) fun w h => ?_
   refine ExP2 (stA h 0 rfl rfl rfl rfl fun w h => ?_)
   refine ldA h 0 rfl rfl ?_
   refine stA h 2 rfl rfl rfl rfl fun w h => ?_
   refine rcA h 2 rfl rfl ?_
   exact lf9 _ (h.pick [] (by decide) rfl)
   refine alS h fun g5 w h => ?_
   refine klA h 1 rfl rfl ?_
   refine klA h 4 rfl rfl ?_
   refine klA h 3 rfl rfl ?_
   refine cl1 h n_ref05_Sum (cc5 h.ext) fun w h => ?_
   refine klA h 1 rfl rfl ?_
   refine cl1 h n_ref05_result (cc4 h.ext) fun w h => ?_
   refine ExP2 (stA h 0 rfl rfl rfl rfl fun w h => ?_)
   refine ldA h 0 rfl rfl ?_
   refine stA h 2 rfl rfl rfl rfl fun w h => ?_
   refine rcA h 2 rfl rfl ?_
   exact lf9 _ (h.pick [] (by decide) rfl)
  exact e_ref05_Mul (main _ fun w h => Ret.mk ⟨h.ext, rfl⟩)
theorem c_fDivQ : Calls Tryz.prog 24 #[vQ a, vQ b] w0 (Ret fun r w' => Ext w0 w' ∧ r = rQ2 (divO a b)) := by
 rcases two_casesV a b with ha | ⟨ha, hb⟩ | ⟨x, y, ha, hb⟩
 ·have cc1 := fun {W : World} (e : Ext w0 W) => c_fValidQ (w0 := W) hka ha
  rw [show divO a b = none from opQ_na ha]
  apply e_ref05_Div
  unfold s_ref05_Div
  have h := Hp.init [] w0
  refine bxA h fun g1 w h => ?_
  refine bxA h fun g2 w h => ?_
  refine alS h fun g3 w h => ?_
  refine ldA h 2 rfl rfl ?_
  refine cl1 h n_ref05_Valid (cc1 h.ext) fun w h => ?_
  refine Un_F (Gd_TF (Gd_TF (Gd_TF (Pick_T (If_T (bdS PC.nil (by rfl) ?_))))))
  refine stA h 0 rfl rfl rfl rfl fun w h => ?_
  refine rcA h 0 rfl rfl ?_
  dsimp only [List.set] at h
  exact Ret.mk ⟨h.ext, rfl⟩
 ·have cc1 := fun {W : World} (e : Ext w0 W) => c_fValidQ (w0 := W) hka ha
  have cc2 := fun {W : World} (e : Ext w0 W) => c_fValidQ (w0 := W) hkb hb
  rw [show divO a b = none from opQ_nb hb]
  apply e_ref05_Div
  unfold s_ref05_Div
  have h := Hp.init [] w0
  refine bxA h fun g1 w h => ?_
  refine bxA h fun g2 w h => ?_
  refine alS h fun g3 w h => ?_
  refine ldA h 2 rfl rfl ?_
  refine cl1 h n_ref05_Valid (cc1 h.ext) fun w h => ?_
  refine Un_T (Gd_F (ldA h 1 rfl rfl ?_))
  refine Gd_F (cl1 h n_ref05_Valid (cc2 h.ext) fun w h => ?_)
  refine Gd_F (Un_F (Pick_F (If_T (bdS PC.nil (by rfl) ?_))))
  refine stA h 0 rfl rfl rfl rfl fun w h => ?_
  refine rcA h 0 rfl rfl ?_
  dsimp only [List.set] at h
  exact Ret.mk ⟨h.ext, rfl⟩
 ·have cc1 := fun {W : World} (e : Ext w0 W) => c_fValidQ (w0 := W) hka (b := true) (by rw [ha]; rfl)
  have cc2 := fun {W : World} (e : Ext w0 W) => c_fValidQ (w0 := W) hkb (b := true) (by rw [hb]; rfl)
  obtain ⟨ua, pa, ra, _⟩ := valQ_some ha
  obtain ⟨ub, pb, rb, _⟩ := valQ_some hb
  have hBz : OB (oDiv (some x) (some y)) := oBin_B fit_div (some x) (some y)
  have cc3 : ∀ {W : World}, Ext w0 W → Calls Tryz.prog 57 #[.agg #[str a.p.1, str a.p.2], .agg #[str b.p.1, str b.p.2]] W (Ret fun r w' => Ext W w' ∧ r = ot (oDiv (some x) (some y))) := fun {W} e => by
   have := o_fdiv (w := W) (OB.some ra) (OB.some rb)
   rw [pa, pb]
   exact this
  have cc5 := fun {W : World} (_ : Ext w0 W) => c_SumN (w := W) ua ub
  rw [show divO a b = apO (oDiv (some x) (some y)) (mpU (fun x y => x - y) a.u b.u) from opQ_v ha hb (fun e => by cases e)]
  generalize oDiv (some x) (some y) = z at *
  have cc4 := fun {W : World} (_ : Ext w0 W) => c_result (w0 := W) (u := mpU (fun x y => x - y) a.u b.u) hBz
  have main : ∀ (R : Ending → World → Prop), (∀ w, Hp [] w0 w [] → R (.returned (rQ2 (apO z (mpU (fun x y => x - y) a.u b.u)))) w) → s_ref05_Div Tryz.prog (vQ a) (vQ b) w0 R := by
   intro R lf9
   unfold s_ref05_Div
   have h := Hp.init [] w0
   refine bxA h fun g1 w h => ?_
   refine bxA h fun g2 w h => ?_
   refine alS h fun g3 w h => ?_
   refine ldA h 2 rfl rfl ?_
   refine cl1 h n_ref05_Valid (cc1 h.ext) fun w h => ?_
   refine Un_T (Gd_F (ldA h 1 rfl rfl ?_))
   refine Gd_F (cl1 h n_ref05_Valid (cc2 h.ext) fun w h => ?_)
   refine Gd_F (Un_T (Pick_F (If_F (faS (ldA h 2 rfl rfl ?_)))))
   refine faS (ldA h 1 rfl rfl ?_)
   refine cl1 h n_ref04_Div (cc3 h.ext) fun w h => ?_
   refine Ex2 (alS h fun g4 w h => ?_)
   refine stA h 0 rfl rfl rfl rfl fun w h => ?_
   replace h := h.dr
   refine dlA h 0 rfl rfl ?_
   refine dfS (dlA h 3 rfl rfl ?_)
   refine dfS (dlA h 2 rfl rfl ?_)
   refine ⟨?_, ?_⟩
   refine cl1 h n_ref05_Sum (cc5 h.ext) fun w h => ?_
   refine klA h 0 rfl rfl ?_
   refine ⟨?_, ?_⟩
   refine cl1 h n_ref05_result (cc4 h.ext) fun w h => ?_
   refine ExP2 (alS h fun g5 w h => ?_)
   refine klA h 1 rfl rfl ?_
   refine klA h 4 rfl rfl ?_
   refine klA h 3 rfl rfl ?_
   refine stA h 0 rfl rfl rfl rfl fun w h => ?_
   refine ldA h 0 rfl rfl ?_
   refine stA h 2 rfl rfl rfl rfl fun w h => ?_
   refine rcA h 2 rfl rfl ?_
   exact lf9 _ (h.pick [] (by decide) rfl)
   refine alS h fun g5 w h => ?_
   refine klA h 1 rfl rfl ?_
   refine klA h 4 rfl rfl ?_
   refine klA h 3 rfl rfl ?_
   refine cl1 h n_ref05_result (cc4 h.ext) fun w h => ?_
   refine ExP2 (stA h 0 rfl rfl rfl rfl fun w h => ?_)
   refine ldA h 0 rfl rfl ?_
   refine stA h 2 rfl rfl rfl rfl fun w h => ?_
   refine rcA h 2 rfl rfl ?_
   exact lf9 _ (h.pick [] (by decide) rfl)
   refine alS h fun g5 w h => ?_
   refine klA h 1 rfl rfl ?_
   refine klA h 4 rfl rfl ?_
   refine klA h 3 rfl rfl ?_
   refine cl1 h n_ref05_Sum (cc5 h.ext) fun w h => ?_
   refine klA h 1 rfl rfl ?_
   refine cl1 h n_ref05_result (cc4 h.ext) fun w h => ?_
   refine ExP2 (stA h 0 rfl rfl rfl rfl fun w h => ?_)
   refine ldA h 0 rfl rfl ?_
   refine stA h 2 rfl rfl rfl rfl fun w h => ?_
   refine rcA h 2 rfl rfl ?_
   exact lf9 _ (h.pick [] (by decide) rfl)
  exact e_ref05_Div (main _ fun w h => Ret.mk ⟨h.ext, rfl⟩)
theorem c_fCmpQ : Calls Tryz.prog 26 #[vQ a, vQ b] w0 (Ret fun r w' => Ext w0 w' ∧ r = .tuple #[.int .i64 (cV (cmpO a b)), .int .i64 (cE (cmpO a b))]) := by
 rcases two_cases a b with ha | ⟨ha, hb⟩ | ⟨ha, hb, hu⟩ | ⟨x, y, ha, hb, hu⟩
 ·have cc1 := fun {W : World} (e : Ext w0 W) => c_fValidQ (w0 := W) hka ha
  rw [cmpO_na ha]
  apply e_ref05_Compare
  unfold s_ref05_Compare
  have h := Hp.init [] w0
  refine bxA h fun g1 w h => ?_
  refine bxA h fun g2 w h => ?_
  refine ldA h 1 rfl rfl ?_
  refine cl1 h n_ref05_Valid (cc1 h.ext) fun w h => ?_
  refine Un_F (Gd_TF (Gd_TF (Gd_TF (Pick_T (Gd_TF (Gd_TF (Gd_TF (Gd_TF (Gd_TF (Pick_T (If_T ?_)))))))))))
  exact Ret.mk ⟨h.ext, rfl⟩
 ·have cc1 := fun {W : World} (e : Ext w0 W) => c_fValidQ (w0 := W) hka ha
  have cc2 := fun {W : World} (e : Ext w0 W) => c_fValidQ (w0 := W) hkb hb
  rw [cmpO_nb hb]
  apply e_ref05_Compare
  unfold s_ref05_Compare
  have h := Hp.init [] w0
  refine bxA h fun g1 w h => ?_
  refine bxA h fun g2 w h => ?_
  refine ldA h 1 rfl rfl ?_
  refine cl1 h n_ref05_Valid (cc1 h.ext) fun w h => ?_
  refine Un_T (Gd_F (ldA h 0 rfl rfl ?_))
  refine Gd_F (cl1 h n_ref05_Valid (cc2 h.ext) fun w h => ?_)
  refine Gd_F (Un_F (Pick_F (Gd_TF (Gd_TF (Gd_TF (Gd_TF (Gd_TF (Pick_T (If_T ?_)))))))))
  exact Ret.mk ⟨h.ext, rfl⟩
 ·have cc1 := fun {W : World} (e : Ext w0 W) => c_fValidQ (w0 := W) hka ha
  have cc2 := fun {W : World} (e : Ext w0 W) => c_fValidQ (w0 := W) hkb hb
  have hu4 := u4_ne hu
  rw [cmpO_u hu]
  apply e_ref05_Compare
  unfold s_ref05_Compare
  have h := Hp.init [] w0
  refine bxA h fun g1 w h => ?_
  refine bxA h fun g2 w h => ?_
  refine ldA h 1 rfl rfl ?_
  refine cl1 h n_ref05_Valid (cc1 h.ext) fun w h => ?_
  refine Un_T (Gd_F (ldA h 0 rfl rfl ?_))
  refine Gd_F (cl1 h n_ref05_Valid (cc2 h.ext) fun w h => ?_)
  refine Gd_F (Un_T (Pick_F (Gd_F (faS (Gd_F (ldA h 1 rfl rfl ?_))))))
  refine Gd_F (faS (Gd_F (ldA h 0 rfl rfl ?_)))
  refine Gd_F (neU_t ‹_› ?_)
  refine Pick_F (If_T ?_)
  exact Ret.mk ⟨h.ext, rfl⟩
 ·have cc1 := fun {W : World} (e : Ext w0 W) => c_fValidQ (w0 := W) hka (b := true) (by rw [ha]; rfl)
  have cc2 := fun {W : World} (e : Ext w0 W) => c_fValidQ (w0 := W) hkb (b := true) (by rw [hb]; rfl)
  obtain ⟨_, pa, ra, _⟩ := valQ_some ha
  obtain ⟨_, pb, rb, _⟩ := valQ_some hb
  have hu4 : a.u.1 = b.u.1 ∧ a.u.2.1 = b.u.2.1 ∧ a.u.2.2.1 = b.u.2.2.1 ∧ a.u.2.2.2 = b.u.2.2.2 := by rw [hu]; exact ⟨rfl, rfl, rfl, rfl⟩
  have cc3 : ∀ {W : World}, Ext w0 W → Calls Tryz.prog 58 #[.agg #[str a.p.1, str a.p.2], .agg #[str b.p.1, str b.p.2]] W (Ret fun r w' => Ext W w' ∧ r = .int .i64 (cmpQ x y)) := fun e => by
   rw [pa, pb]
   exact fCmp_ok ra rb
  rw [cmpO_v ha hb hu]
  apply e_ref05_Compare
  unfold s_ref05_Compare
  have h := Hp.init [] w0
  refine bxA h fun g1 w h => ?_
  refine bxA h fun g2 w h => ?_
  refine ldA h 1 rfl rfl ?_
  refine cl1 h n_ref05_Valid (cc1 h.ext) fun w h => ?_
  refine Un_T (Gd_F (ldA h 0 rfl rfl ?_))
  refine Gd_F (cl1 h n_ref05_Valid (cc2 h.ext) fun w h => ?_)
  refine Gd_F (Un_T (Pick_F (Gd_F (faS (Gd_F (ldA h 1 rfl rfl ?_))))))
  refine Gd_F (faS (Gd_F (ldA h 0 rfl rfl ?_)))
  refine Gd_F (neU_e ‹_› ?_)
  refine Pick_F (If_F (faS (ldA h 1 rfl rfl ?_)))
  refine faS (ldA h 0 rfl rfl ?_)
  refine cl1 h n_ref04_Compare (cc3 h.ext) fun w h => ?_
  exact Ret.mk ⟨h.ext, rfl⟩
end
end Go.Proofs.YtdbcpkihokagkaaGreatDoor
