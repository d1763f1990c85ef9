/-
  Contracts and plain lemmas. By an AI agent.
-/
import Derived.Test.YtdbcpkihokagkaaGreatDoorLUoC
import Derived.Test.YtdbcpkihokagkaaGreatDoorUnX
set_option linter.unusedSimpArgs false
set_option linter.unusedVariables false
set_option linter.unusedSectionVars false
namespace Go.Proofs.YtdbcpkihokagkaaGreatDoor
open Go Go.Eng Go.Proofs Go.Num Go.RowKit
set_option maxRecDepth 100000
theorem law_Field {w0 : World} {x y z : U4} (hx : UI x) (hy : UI y) (hz : UI z) (he : En w0) : Calls Tryz.prog 5 #[vU x, vU y, vU z] w0 (Ret fun r w' => Ext w0 w' ∧ r = .bool true) := by
 have cc0 := fun {W : World} (e : Ext w0 W) => law_sane (he.ext e)
 have cc1 := fun {W : World} (e : Ext w0 W) => c_Made (w0 := W) hx
 have cc2 := fun {W : World} (e : Ext w0 W) => c_Made (w0 := W) hy
 have cc3 := fun {W : World} (e : Ext w0 W) => c_Made (w0 := W) hz
 have ka : QTk (madeQ x) := .of (some_s (made_v x))
 have kb : QTk (madeQ y) := .of (some_s (made_v y))
 have kc : QTk ⟨(madeQ z).p, (madeQ y).u⟩ := ⟨(QTk.of (some_s (made_v z))).p1, (QTk.of (some_s (made_v z))).p2⟩
 generalize madeQ x = a at *
 generalize madeQ y = b at *
 generalize madeQ z = c0 at *
 have cc4 := fun {W : World} (e : Ext w0 W) => c_uAdd (w0 := W) kb kc (he.ext e).hT
 have cc5 := fun {W : World} (e : Ext w0 W) => c_uAdd (w0 := W) kc kb (he.ext e).hT
 have cc6 := fun {W : World} (e : Ext w0 W) => c_uMul (w0 := W) ka kb (he.ext e).hT
 have cc7 := fun {W : World} (e : Ext w0 W) => c_uMul (w0 := W) kb ka (he.ext e).hT
 have cc8 := fun {W : World} (e : Ext w0 W) => c_uMul (w0 := W) ka kc (he.ext e).hT
 rw [addO_c (a := b) (b := ⟨c0.p, b.u⟩) rfl] at cc5
 rw [mulO_c (a := a) (b := b)] at cc7
 have f1 := fq1 (a := a) (b := b) (c := ⟨c0.p, b.u⟩) rfl
 have f2 := fq2 (a := a) (b := b) (c := ⟨c0.p, b.u⟩) rfl
 have f3 := fq3 (b := b) (c := ⟨c0.p, b.u⟩) rfl
 have f4 := fq4 (a := a) (b := b) (c := ⟨c0.p, b.u⟩) rfl
 have k1 : QTk (qV (addO b ⟨c0.p, b.u⟩)) := opQ_k
 have k2 : QTk (qV (mulO a b)) := opQ_k
 have k3 : QTk (qV (mulO a ⟨c0.p, b.u⟩)) := opQ_k
 generalize addO b ⟨c0.p, b.u⟩ = o1 at *
 generalize mulO a b = o2 at *
 generalize mulO a ⟨c0.p, b.u⟩ = o3 at *
 have cc9 := fun {W : World} (e : Ext w0 W) => c_uMul (w0 := W) ka k1 (he.ext e).hT
 have cc10 := fun {W : World} (e : Ext w0 W) => c_uAdd (w0 := W) k2 k3 (he.ext e).hT
 generalize mulO a (qV o1) = o4 at *
 generalize addO (qV o2) (qV o3) = o5 at *
 have dd11 := fun {W : World} (e : Ext w0 W) => c_uMul (w0 := W) k2 kc (he.ext e).hT
 have dd12 := fun {W : World} (e : Ext w0 W) => c_uMul (w0 := W) kb k3 (he.ext e).hT
 generalize mulO (qV o2) ⟨c0.p, b.u⟩ = o6 at *
 generalize mulO b (qV o3) = o7 at *
 have dd13 := fun {W : World} (e : Ext w0 W) => c_uSub (w0 := W) k1 kc (he.ext e).hT
 have dd14 := fun {W : World} (e : Ext w0 W) => c_uDiv (w0 := W) k2 kb (he.ext e).hT
 generalize subO (qV o1) ⟨c0.p, b.u⟩ = o8 at *
 generalize divO (qV o2) b = o9 at *
 have E := fun o => qE_cases o
 have E1 := E o1
 suffices main : ∀ (R : Ending → World → Prop), (∀ w, Hp [] w0 w [] → R (.returned (.bool true)) w) → s_law05_UnitField Tryz.prog (vU x) (vU y) (vU z) w0 R from
  e_law05_UnitField (main _ fun w h => Ret.mk ⟨h.ext, rfl⟩)
 intro R lf9
 have z0 : ∀ o, qE o = 0 ∨ qE o = 50 := fun o => (qE_cases o).imp (fun h => h.1) (fun h => h.1)
 have z1 := z0 o1
 have z2 := z0 o2
 have z3 := z0 o3
 have z4 := z0 o4
 have z5 := z0 o5
 have z6 := z0 o6
 have z7 := z0 o7
 have z8 := z0 o8
 have z9 := z0 o9
 clear E E1 z0
 unfold s_law05_UnitField
 have h := Hp.init [] w0
 refine bxA h fun g1 w h => ?_
 refine bxA h fun g2 w h => ?_
 refine bxA h fun g3 w h => ?_
 refine cl1 h n_law05_sane (cc0 h.ext) fun w h => ?_
 refine ldA h 2 rfl rfl ?_
 refine cl1 h n_ref05_Made (cc1 h.ext) fun w h => ?_
 refine alS h fun g4 w h => ?_
 refine stA h 0 rfl rfl rfl rfl fun w h => ?_
 refine ldA h 2 rfl rfl ?_
 refine cl1 h n_ref05_Made (cc2 h.ext) fun w h => ?_
 refine alS h fun g5 w h => ?_
 refine stA h 0 rfl rfl rfl rfl fun w h => ?_
 refine ldA h 2 rfl rfl ?_
 refine cl1 h n_ref05_Made (cc3 h.ext) fun w h => ?_
 refine alS h fun g6 w h => ?_
 refine stA h 0 rfl rfl rfl rfl fun w h => ?_
 refine faS (ldA h 1 rfl rfl ?_)
 refine faS (stA h 0 rfl rfl rfl rfl fun w h => ?_)
 dsimp only [List.set] at h
 refine ldA h 1 rfl rfl ?_
 refine ldA h 0 rfl rfl ?_
 refine cl1 h n_unit_Add (cc4 h.ext) fun w h => ?_
 refine Ex2 (alS h fun g7 w h => ?_)
 refine stA h 0 rfl rfl rfl rfl fun w h => ?_
 refine ldA h 1 rfl rfl ?_
 refine ldA h 2 rfl rfl ?_
 refine cl1 h n_unit_Add (cc5 h.ext) fun w h => ?_
 refine Ex2 (alS h fun g8 w h => ?_)
 refine stA h 0 rfl rfl rfl rfl fun w h => ?_
 refine ldA h 4 rfl rfl ?_
 refine ldA h 3 rfl rfl ?_
 refine cl1 h n_unit_Mul (cc6 h.ext) fun w h => ?_
 refine Ex2 (alS h fun g9 w h => ?_)
 refine stA h 0 rfl rfl rfl rfl fun w h => ?_
 refine ldA h 4 rfl rfl ?_
 refine ldA h 5 rfl rfl ?_
 refine cl1 h n_unit_Mul (cc7 h.ext) fun w h => ?_
 refine Ex2 (alS h fun g10 w h => ?_)
 refine stA h 0 rfl rfl rfl rfl fun w h => ?_
 dsimp only [List.set] at h
 refine ldA h 6 rfl rfl ?_
 refine ldA h 4 rfl rfl ?_
 refine cl1 h n_unit_Mul (cc8 h.ext) fun w h => ?_
 refine Ex2 (alS h fun g11 w h => ?_)
 refine stA h 0 rfl rfl rfl rfl fun w h => ?_
 refine ldA h 4 rfl rfl ?_
 refine ldA h 3 rfl rfl ?_
 refine qyNeS ?_
 refine Gd_F (Gd_F (Gd_F (Bn_neF (by omega) (Pick_F (Gd_F (ldA h 2 rfl rfl ?_))))))
 refine Gd_F (ldA h 1 rfl rfl ?_)
 refine Gd_F (qyNeS ?_)
 refine Pick_F (Gd_F (Gd_F (Gd_F (Bn_neF (by omega) (Pick_F (If_F (ldA h 7 rfl rfl ?_)))))))
 refine ldA h 4 rfl rfl ?_
 refine cl1 h n_unit_Mul (cc9 h.ext) fun w h => ?_
 refine Ex2 (alS h fun g12 w h => ?_)
 refine stA h 0 rfl rfl rfl rfl fun w h => ?_
 refine ldA h 3 rfl rfl ?_
 refine ldA h 1 rfl rfl ?_
 refine cl1 h n_unit_Add (cc10 h.ext) fun w h => ?_
 refine Ex2 (alS h fun g13 w h => ?_)
 refine stA h 0 rfl rfl rfl rfl fun w h => ?_
 dsimp only [List.set] at h
 revert h
 revert w
 apply meet
 ·intro w lfT h
  by_cases e1 : qE o1 = 0
  rotate_left
  ·refine Bn_eqF (by omega) (Gd_FT (Gd_FT (Pick_F (Gd_FT (Gd_FT (Pick_F (Gd_FT (Gd_FT (Pick_F (Gd_FT (Gd_FT (Pick_F (Gd_FT (Gd_FT (Gd_FT (Pick_F (If_F (ldA h 4 rfl rfl ?_))))))))))))))))))
   refine ldA h 7 rfl rfl ?_
   exact lfT _ h
  by_cases e2 : qE o2 = 0
  rotate_left
  ·refine Bn_eqT (by omega) (Gd_T (Gd_T (Bn_eqF (by omega) (Pick_T (Gd_FT (Gd_FT (Pick_F (Gd_FT (Gd_FT (Pick_F (Gd_FT (Gd_FT (Pick_F (Gd_FT (Gd_FT (Gd_FT (Pick_F (If_F (ldA h 4 rfl rfl ?_)))))))))))))))))))
   refine ldA h 7 rfl rfl ?_
   exact lfT _ h
  by_cases e3 : qE o3 = 0
  rotate_left
  ·refine Bn_eqT (by omega) (Gd_T (Gd_T (Bn_eqT (by omega) (Pick_T (Gd_T (Gd_T (Bn_eqF (by omega) (Pick_T (Gd_FT (Gd_FT (Pick_F (Gd_FT (Gd_FT (Pick_F (Gd_FT (Gd_FT (Gd_FT (Pick_F (If_F (ldA h 4 rfl rfl ?_))))))))))))))))))))
   refine ldA h 7 rfl rfl ?_
   exact lfT _ h
  by_cases e4 : qE o4 = 0
  rotate_left
  ·refine Bn_eqT (by omega) (Gd_T (Gd_T (Bn_eqT (by omega) (Pick_T (Gd_T (Gd_T (Bn_eqT (by omega) (Pick_T (Gd_T (Gd_T (Bn_eqF (by omega) (Pick_T (Gd_FT (Gd_FT (Pick_F (Gd_FT (Gd_FT (Gd_FT (Pick_F (If_F (ldA h 4 rfl rfl ?_)))))))))))))))))))))
   refine ldA h 7 rfl rfl ?_
   exact lfT _ h
  by_cases e5 : qE o5 = 0
  rotate_left
  ·refine Bn_eqT (by omega) (Gd_T (Gd_T (Bn_eqT (by omega) (Pick_T (Gd_T (Gd_T (Bn_eqT (by omega) (Pick_T (Gd_T (Gd_T (Bn_eqT (by omega) (Pick_T (Gd_T (Gd_T (Bn_eqF (by omega) (Pick_T (Gd_FT (Gd_FT (Gd_FT (Pick_F (If_F (ldA h 4 rfl rfl ?_))))))))))))))))))))))
   refine ldA h 7 rfl rfl ?_
   exact lfT _ h
  have fe := f1 e1 e2 e3 e4 e5
  refine Bn_eqT (by omega) (Gd_T (Gd_T (Bn_eqT (by omega) (Pick_T (Gd_T (Gd_T (Bn_eqT (by omega) (Pick_T (Gd_T (Gd_T (Bn_eqT (by omega) (Pick_T (Gd_T (Gd_T (Bn_eqT (by omega) (Pick_T (Gd_T (ldA h 1 rfl rfl ?_))))))))))))))))))
  refine Gd_T (ldA h 0 rfl rfl ?_)
  refine Gd_T (qyNeE ‹_› ?_)
  refine Pick_T (If_F (ldA h 4 rfl rfl ?_))
  refine ldA h 7 rfl rfl ?_
  exact lfT _ h
 intro w h
 have cc11 := @dd11
 have cc12 := @dd12
 refine cl1 h n_unit_Mul (cc11 h.ext) fun w h => ?_
 refine Ex2 (alS h fun g14 w h => ?_)
 refine stA h 0 rfl rfl rfl rfl fun w h => ?_
 refine ldA h 9 rfl rfl ?_
 refine ldA h 3 rfl rfl ?_
 refine cl1 h n_unit_Mul (cc12 h.ext) fun w h => ?_
 refine Ex2 (alS h fun g15 w h => ?_)
 refine stA h 0 rfl rfl rfl rfl fun w h => ?_
 dsimp only [List.set] at h
 revert h
 revert w
 apply meet
 ·intro w lfT h
  by_cases e2 : qE o2 = 0
  rotate_left
  ·refine Bn_eqF (by omega) (Gd_FT (Gd_FT (Pick_F (Gd_FT (Gd_FT (Pick_F (Gd_FT (Gd_FT (Pick_F (Gd_FT (Gd_FT (Gd_FT (Pick_F (If_F (ldA h 8 rfl rfl ?_)))))))))))))))
   refine ldA h 9 rfl rfl ?_
   exact lfT _ h
  by_cases e3 : qE o3 = 0
  rotate_left
  ·refine Bn_eqT (by omega) (Gd_T (Gd_T (Bn_eqF (by omega) (Pick_T (Gd_FT (Gd_FT (Pick_F (Gd_FT (Gd_FT (Pick_F (Gd_FT (Gd_FT (Gd_FT (Pick_F (If_F (ldA h 8 rfl rfl ?_))))))))))))))))
   refine ldA h 9 rfl rfl ?_
   exact lfT _ h
  by_cases e6 : qE o6 = 0
  rotate_left
  ·refine Bn_eqT (by omega) (Gd_T (Gd_T (Bn_eqT (by omega) (Pick_T (Gd_T (Gd_T (Bn_eqF (by omega) (Pick_T (Gd_FT (Gd_FT (Pick_F (Gd_FT (Gd_FT (Gd_FT (Pick_F (If_F (ldA h 8 rfl rfl ?_)))))))))))))))))
   refine ldA h 9 rfl rfl ?_
   exact lfT _ h
  by_cases e7 : qE o7 = 0
  rotate_left
  ·refine Bn_eqT (by omega) (Gd_T (Gd_T (Bn_eqT (by omega) (Pick_T (Gd_T (Gd_T (Bn_eqT (by omega) (Pick_T (Gd_T (Gd_T (Bn_eqF (by omega) (Pick_T (Gd_FT (Gd_FT (Gd_FT (Pick_F (If_F (ldA h 8 rfl rfl ?_))))))))))))))))))
   refine ldA h 9 rfl rfl ?_
   exact lfT _ h
  have fe := f2 e2 e3 e6 e7
  refine Bn_eqT (by omega) (Gd_T (Gd_T (Bn_eqT (by omega) (Pick_T (Gd_T (Gd_T (Bn_eqT (by omega) (Pick_T (Gd_T (Gd_T (Bn_eqT (by omega) (Pick_T (Gd_T (ldA h 1 rfl rfl ?_))))))))))))))
  refine Gd_T (ldA h 0 rfl rfl ?_)
  refine Gd_T (qyNeE ‹_› ?_)
  refine Pick_T (If_F (ldA h 8 rfl rfl ?_))
  refine ldA h 9 rfl rfl ?_
  exact lfT _ h
 intro w h
 have cc13 := @dd13
 have cc14 := @dd14
 refine cl1 h n_unit_Sub (cc13 h.ext) fun w h => ?_
 refine Ex2 (alS h fun g16 w h => ?_)
 refine stA h 0 rfl rfl rfl rfl fun w h => ?_
 refine ldA h 7 rfl rfl ?_
 refine ldA h 11 rfl rfl ?_
 refine cl1 h n_unit_Div (cc14 h.ext) fun w h => ?_
 refine Ex2 (alS h fun g17 w h => ?_)
 refine stA h 0 rfl rfl rfl rfl fun w h => ?_
 refine Gd_T (Gd_T ?_)
 dsimp only [List.set] at h
 by_cases e1 : qE o1 = 0
 rotate_left
 ·refine Bn_neT (by omega) (Gd_T (Gd_TF (Gd_TF (Gd_T (Pick_T (Gd_T (Gd_TF (Gd_TF (Gd_TF (Gd_T (Pick_T (Pick_T (Gd_T (Gd_T ?_))))))))))))))
  by_cases e2 : qE o2 = 0
  rotate_left
  ·refine Bn_neT (by omega) (Gd_T (Gd_TF (Gd_TF (Gd_T (Pick_T (Gd_T (Gd_TF (Gd_TF (Gd_TF (Gd_T (Pick_T (Pick_T ?_))))))))))))
   exact lf9 _ (h.pick [] (by decide) rfl)
  by_cases e9 : qE o9 = 0
  rotate_left
  ·refine Bn_neF (by omega) (Gd_T (Gd_F (Gd_F (Bn_neT (by omega) (Gd_T (Pick_F (Gd_T (Gd_TF (Gd_TF (Gd_TF (Gd_T (Pick_T (Pick_T ?_)))))))))))))
   exact lf9 _ (h.pick [] (by decide) rfl)
  have fd := f4 e2 e9
  refine Bn_neF (by omega) (Gd_T (Gd_F (Gd_F (Bn_neF (by omega) (Gd_T (Pick_F (Gd_T (Gd_F (ldA h 0 rfl rfl ?_)))))))))
  refine Gd_F (ldA h 13 rfl rfl ?_)
  refine Gd_F (qyEqE ‹_› ?_)
  refine Gd_T (Pick_F (Pick_T ?_))
  exact lf9 _ (h.pick [] (by decide) rfl)
 by_cases e8 : qE o8 = 0
 rotate_left
 ·refine Bn_neF (by omega) (Gd_T (Gd_F (Gd_F (Bn_neT (by omega) (Gd_T (Pick_F (Gd_T (Gd_TF (Gd_TF (Gd_TF (Gd_T (Pick_T (Pick_T (Gd_T (Gd_T ?_)))))))))))))))
  by_cases e2 : qE o2 = 0
  rotate_left
  ·refine Bn_neT (by omega) (Gd_T (Gd_TF (Gd_TF (Gd_T (Pick_T (Gd_T (Gd_TF (Gd_TF (Gd_TF (Gd_T (Pick_T (Pick_T ?_))))))))))))
   exact lf9 _ (h.pick [] (by decide) rfl)
  by_cases e9 : qE o9 = 0
  rotate_left
  ·refine Bn_neF (by omega) (Gd_T (Gd_F (Gd_F (Bn_neT (by omega) (Gd_T (Pick_F (Gd_T (Gd_TF (Gd_TF (Gd_TF (Gd_T (Pick_T (Pick_T ?_)))))))))))))
   exact lf9 _ (h.pick [] (by decide) rfl)
  have fd := f4 e2 e9
  refine Bn_neF (by omega) (Gd_T (Gd_F (Gd_F (Bn_neF (by omega) (Gd_T (Pick_F (Gd_T (Gd_F (ldA h 0 rfl rfl ?_)))))))))
  refine Gd_F (ldA h 13 rfl rfl ?_)
  refine Gd_F (qyEqE ‹_› ?_)
  refine Gd_T (Pick_F (Pick_T ?_))
  exact lf9 _ (h.pick [] (by decide) rfl)
 have fc := f3 e1 e8
 refine Bn_neF (by omega) (Gd_T (Gd_F (Gd_F (Bn_neF (by omega) (Gd_T (Pick_F (Gd_T (Gd_F (ldA h 1 rfl rfl ?_)))))))))
 refine Gd_F (ldA h 12 rfl rfl ?_)
 refine Gd_F (qyEqE ‹_› ?_)
 refine Gd_T (Pick_F (Pick_T (Gd_T (Gd_T ?_))))
 by_cases e2 : qE o2 = 0
 rotate_left
 ·refine Bn_neT (by omega) (Gd_T (Gd_TF (Gd_TF (Gd_T (Pick_T (Gd_T (Gd_TF (Gd_TF (Gd_TF (Gd_T (Pick_T (Pick_T ?_))))))))))))
  exact lf9 _ (h.pick [] (by decide) rfl)
 by_cases e9 : qE o9 = 0
 rotate_left
 ·refine Bn_neF (by omega) (Gd_T (Gd_F (Gd_F (Bn_neT (by omega) (Gd_T (Pick_F (Gd_T (Gd_TF (Gd_TF (Gd_TF (Gd_T (Pick_T (Pick_T ?_)))))))))))))
  exact lf9 _ (h.pick [] (by decide) rfl)
 have fd := f4 e2 e9
 refine Bn_neF (by omega) (Gd_T (Gd_F (Gd_F (Bn_neF (by omega) (Gd_T (Pick_F (Gd_T (Gd_F (ldA h 0 rfl rfl ?_)))))))))
 refine Gd_F (ldA h 13 rfl rfl ?_)
 refine Gd_F (qyEqE ‹_› ?_)
 refine Gd_T (Pick_F (Pick_T ?_))
 exact lf9 _ (h.pick [] (by decide) rfl)
end Go.Proofs.YtdbcpkihokagkaaGreatDoor
