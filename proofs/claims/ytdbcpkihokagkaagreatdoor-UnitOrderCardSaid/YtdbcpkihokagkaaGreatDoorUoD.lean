/-
  Contracts and plain lemmas. By an AI agent.
-/
import Derived.Test.YtdbcpkihokagkaaGreatDoorLUoD
import Derived.Test.YtdbcpkihokagkaaGreatDoorUnX
set_option linter.unusedSimpArgs false
set_option linter.unusedVariables false
set_option linter.unusedSectionVars false
namespace Go.Proofs.YtdbcpkihokagkaaGreatDoor
open Go Go.Eng Go.Proofs Go.Num Go.RowKit
set_option maxRecDepth 100000
def Hid (p : Prop) : Prop := p
theorem cmp_neg (x y : Rat) : cmpQ y x = - cmpQ x y := by
 rcases cmpQ_cases x y with ⟨h, e⟩ | ⟨h, e⟩ | ⟨h, e⟩
 ·rw [e, cmpQ_gt h]; rfl
 ·rw [e, cmpQ_eq h.symm]; rfl
 ·rw [e, cmpQ_lt h]
theorem cmp_zero (x y : Rat) : cmpQ x y = 0 ↔ x = y := by
 rcases cmpQ_cases x y with ⟨h, e⟩ | ⟨h, e⟩ | ⟨h, e⟩ <;> rw [e]
 ·exact ⟨fun h => by omega, fun h' => by subst h'; exact absurd h Rat.lt_irrefl⟩
 ·exact ⟨fun _ => h, fun _ => rfl⟩
 ·exact ⟨fun h => by omega, fun h' => by subst h'; exact absurd h Rat.lt_irrefl⟩
theorem cmp_le (x y : Rat) : cmpQ x y ≤ 0 ↔ x ≤ y := by
 rcases cmpQ_cases x y with ⟨h, e⟩ | ⟨h, e⟩ | ⟨h, e⟩ <;> rw [e]
 ·exact ⟨fun _ => Rat.le_of_lt h, fun _ => by decide⟩
 ·exact ⟨fun _ => by rw [h]; exact Rat.le_refl, fun _ => by decide⟩
 ·exact ⟨fun h => by omega, fun h' => absurd h (Rat.not_lt.2 h')⟩
theorem cmp_bd (x y : Rat) : -1 ≤ cmpQ x y ∧ cmpQ x y ≤ 1 := by
 rcases cmpQ_cases x y with ⟨_, e⟩ | ⟨_, e⟩ | ⟨_, e⟩ <;> rw [e] <;> decide
theorem cmp_congr {x y u v : Rat} (h1 : x < y → u < v) (h2 : y < x → v < u) (h3 : x = y → u = v) : cmpQ u v = cmpQ x y := by
 rcases cmpQ_cases x y with ⟨h, e⟩ | ⟨h, e⟩ | ⟨h, e⟩ <;> rw [e]
 ·exact cmpQ_lt (h1 h)
 ·exact cmpQ_eq (h3 h)
 ·exact cmpQ_gt (h2 h)
theorem cmp_sub (x y : Rat) : cmpQ (x - y) 0 = cmpQ x y := cmp_congr (fun h => by grind) (fun h => by grind) (fun h => by grind)
theorem cmp_add (x y t : Rat) : cmpQ (x + t) (y + t) = cmpQ x y := cmp_congr (fun h => by grind) (fun h => by grind) (fun h => by grind)
theorem law_Order {w0 : World} {x y z : U4} (hx : UI x) (hy : UI y) (hz : UI z) (he : En w0) : Calls Tryz.prog 7 #[vU x, vU y, vU z] w0 (Ret fun r w' => Ext w0 w' ∧ r = .bool true) := by
 have hB := Tryz.underlying4
 have cc0 := fun {W : World} (e : Ext w0 W) => law_sane (he.ext e)
 have cc1 := fun {W : World} (e : Ext w0 W) => c_Made (w0 := W) hx
 have cc2 := fun {W : World} (e : Ext w0 W) => c_Made (w0 := W) hy
 have cc3 := fun {W : World} (e : Ext w0 W) => c_Made (w0 := W) hz
 have va := made_v x
 have vb : valQ ⟨(madeQ y).p, (madeQ x).u⟩ = some (madeR y) := by
  obtain ⟨_, h1, h2, h3⟩ := valQ_some (made_v y)
  rw [h1, valQ_tx h2, if_pos ⟨(valQ_some va).1, h3⟩]
 have vc : valQ ⟨(madeQ z).p, (madeQ x).u⟩ = some (madeR z) := by
  obtain ⟨_, h1, h2, h3⟩ := valQ_some (made_v z)
  rw [h1, valQ_tx h2, if_pos ⟨(valQ_some va).1, h3⟩]
 generalize madeQ x = a at *
 generalize madeQ y = b0 at *
 generalize madeQ z = c0 at *
 generalize madeR x = X at *
 generalize madeR y = Y at *
 generalize madeR z = Z at *
 have ka := QTk.of (some_s va)
 have kb := QTk.of (some_s vb)
 have kc := QTk.of (some_s vc)
 have cc4 := fun {W : World} (e : Ext w0 W) => c_uCmp (w0 := W) ka kb (he.ext e).hT
 have cc5 := fun {W : World} (e : Ext w0 W) => c_uCmp (w0 := W) kb ka (he.ext e).hT
 have cc6 := fun {W : World} (e : Ext w0 W) => c_uCmp (w0 := W) kb kc (he.ext e).hT
 have cc7 := fun {W : World} (e : Ext w0 W) => c_uCmp (w0 := W) ka kc (he.ext e).hT
 rw [cmpO_v va vb rfl] at cc4
 rw [cmpO_v vb va rfl] at cc5
 rw [cmpO_v vb vc rfl] at cc6
 rw [cmpO_v va vc rfl] at cc7
 dsimp only [cV, cE] at cc4 cc5 cc6 cc7
 have dd8 := fun {W : World} (e : Ext w0 W) => c_uAdd (w0 := W) ka kc (he.ext e).hT
 have dd9 := fun {W : World} (e : Ext w0 W) => c_uAdd (w0 := W) kb kc (he.ext e).hT
 have k1 : QTk (qV (addO a ⟨c0.p, a.u⟩)) := opQ_k
 have k2 : QTk (qV (addO ⟨b0.p, a.u⟩ ⟨c0.p, a.u⟩)) := opQ_k
 have k4 : QTk (qV (subO a ⟨b0.p, a.u⟩)) := opQ_k
 have dd10 := fun {W : World} (e : Ext w0 W) => c_uCmp (w0 := W) k1 k2 (he.ext e).hT
 have dd11 := fun {W : World} (e : Ext w0 W) => c_uSub (w0 := W) ka kb (he.ext e).hT
 have dd12 := fun {W : World} (e : Ext w0 W) => c_qCmp (w := W) k4.p1 k4.p2 (m := [48]) (c := [49]) (by decide) (by decide) (he.ext e).hT
 have g1 : qE (addO a ⟨c0.p, a.u⟩) = 0 → qE (addO ⟨b0.p, a.u⟩ ⟨c0.p, a.u⟩) = 0 → cmpO (qV (addO a ⟨c0.p, a.u⟩)) (qV (addO ⟨b0.p, a.u⟩ ⟨c0.p, a.u⟩)) = some (cmpQ X Y) := by
  intro e1 e2
  obtain ⟨q1, h1⟩ := qE_some e1
  obtain ⟨q2, h2⟩ := qE_some e2
  rw [h1, h2]
  obtain ⟨x1, z1, i1, i2, v1, u1, _⟩ := addO_get h1
  obtain ⟨y2, z2, i3, i4, v2, u2, _⟩ := addO_get h2
  cases val_u i1 va
  cases val_u i2 vc
  cases val_u i3 vb
  cases val_u i4 vc
  rw [cmpO_v v1 v2 (u1.trans u2.symm), cmp_add]
 have g2 : qE (subO a ⟨b0.p, a.u⟩) = 0 → ans2 cmpQ 0 (qV (subO a ⟨b0.p, a.u⟩)).p.1 (qV (subO a ⟨b0.p, a.u⟩)).p.2 [48] [49] = cmpQ X Y := by
  intro e1
  obtain ⟨q1, h1⟩ := qE_some e1
  rw [h1]
  obtain ⟨x1, z1, i1, i2, v1, u1, _⟩ := subO_get h1
  cases val_u i1 va
  cases val_u i2 vb
  obtain ⟨_, p1, r1, _⟩ := valQ_some v1
  obtain ⟨_, p0, r0, _⟩ := valQ_some (v0 (u := uus) uus_k)
  show ans2 cmpQ 0 q1.p.1 q1.p.2 [48] [49] = _
  have e48 : ([48] : List UInt8) = (tx x0).1 := congrArg Prod.fst p0
  have e49 : ([49] : List UInt8) = (tx x0).2 := congrArg Prod.snd p0
  rw [p1, e48, e49]
  refine (ans2_ok r1 r0).trans ?_
  rw [show x0 = 0 by decide +kernel, cmp_sub]
 generalize addO a ⟨c0.p, a.u⟩ = o1 at *
 generalize addO ⟨b0.p, a.u⟩ ⟨c0.p, a.u⟩ = o2 at *
 generalize subO a ⟨b0.p, a.u⟩ = o4 at *
 generalize cmpO (qV o1) (qV o2) = o3 at *
 generalize ans2 cmpQ 0 (qV o4).p.1 (qV o4).p.2 [48] [49] = sg at *
 have z1 := (qE_cases o1).imp (fun h => h.1) (fun h => h.1)
 have z2 := (qE_cases o2).imp (fun h => h.1) (fun h => h.1)
 have z4 := (qE_cases o4).imp (fun h => h.1) (fun h => h.1)
 have hneg := cmp_neg X Y
 have hbd := cmp_bd X Y
 have hz0 := cmp_zero X Y
 have l1 := cmp_le X Y
 have l2 := cmp_le Y Z
 have l3 := cmp_le X Z
 have htr : Hid (cmpQ X Y ≤ 0 → cmpQ Y Z ≤ 0 → cmpQ X Z ≤ 0) := fun h1 h2 => l3.2 (Rat.le_trans (l1.1 h1) (l2.1 h2))
 have hqt : Hid (cmpQ X Y = 0 → Qe a ⟨b0.p, a.u⟩) := fun h => Qe.of (q_eq va (hz0.1 h ▸ vb) rfl)
 have hqf : Hid (cmpQ X Y ≠ 0 → ¬ Qe a ⟨b0.p, a.u⟩) := fun h hq => h (hz0.2 (Option.some.inj (va.symm.trans ((congrArg valQ (QT_ext (Prod.ext hq.1 hq.2.1) rfl)).trans vb))))
 generalize cmpQ X Y = A at *
 generalize cmpQ Y X = A' at *
 generalize cmpQ Y Z = B at *
 generalize cmpQ X Z = C at *
 clear l1 l2 l3 hz0
 suffices main : ∀ (R : Ending → World → Prop), (∀ w, Hp [] w0 w [] → R (.returned (.bool true)) w) → s_law05_UnitOrder Tryz.prog (vU x) (vU y) (vU z) w0 R from
  e_law05_UnitOrder (main _ fun w h => Ret.mk ⟨h.ext, rfl⟩)
 intro R lf9
 unfold s_law05_UnitOrder
 have h := Hp.init [] w0
 refine bxA h fun g3 w h => ?_
 refine bxA h fun g4 w h => ?_
 refine bxA h fun g5 w h => ?_
 refine cl1 h n_law05_sane (cc0 h.ext) fun w h => ?_
 refine ldA h 2 rfl rfl ?_
 refine cl1 h n_ref05_Made (cc1 h.ext) fun w h => ?_
 refine alS h fun g6 w h => ?_
 refine stA h 0 rfl rfl rfl rfl fun w h => ?_
 refine ldA h 2 rfl rfl ?_
 refine cl1 h n_ref05_Made (cc2 h.ext) fun w h => ?_
 refine alS h fun g7 w h => ?_
 refine stA h 0 rfl rfl rfl rfl fun w h => ?_
 refine ldA h 2 rfl rfl ?_
 refine cl1 h n_ref05_Made (cc3 h.ext) fun w h => ?_
 refine alS h fun g8 w h => ?_
 refine stA h 0 rfl rfl rfl rfl fun w h => ?_
 refine faS (ldA h 2 rfl rfl ?_)
 refine faS (stA h 1 rfl rfl rfl rfl fun w h => ?_)
 dsimp only [List.set] at h
 refine faS (ldA h 2 rfl rfl ?_)
 refine faS (stA h 0 rfl rfl rfl rfl fun w h => ?_)
 refine ldA h 2 rfl rfl ?_
 refine ldA h 1 rfl rfl ?_
 refine cl1 h n_unit_Compare (cc4 h.ext) fun w h => ?_
 refine Ex2 (ldA h 1 rfl rfl ?_)
 refine ldA h 2 rfl rfl ?_
 refine cl1 h n_unit_Compare (cc5 h.ext) fun w h => ?_
 refine Ex2 (ldA h 1 rfl rfl ?_)
 refine ldA h 0 rfl rfl ?_
 refine cl1 h n_unit_Compare (cc6 h.ext) fun w h => ?_
 refine Ex2 (ldA h 2 rfl rfl ?_)
 refine ldA h 0 rfl rfl ?_
 refine cl1 h n_unit_Compare (cc7 h.ext) fun w h => ?_
 refine Ex2 (Bn_neF (by omega) (Gd_F (Gd_F (Bn_neF (by omega) (Pick_F (Gd_F (Gd_F (Bn_neF (by omega) (Pick_F (Gd_F (Gd_F (Bn_neF (by omega) (Pick_F (Gd_F (Gd_F (Gd_F (Eng.Un_ng (by omega) (by omega) (Gd_F (Bn_neF (by omega) (Pick_F (Gd_F (Gd_F ?_))))))))))))))))))))))
 dsimp only [List.set] at h
 revert h
 revert w
 apply meet
 ·intro w lfT h
  by_cases hA : A = 0
  ·have hq := hqt hA
   by_cases hb : B ≤ 0
   ·have hc := htr (by omega) hb
    refine Bn_eqT (by omega) (Gd_F (ldA h 2 rfl rfl ?_))
    refine Gd_F (ldA h 1 rfl rfl ?_)
    refine Gd_F (qyEqE ‹_› ?_)
    refine Gd_F (Bn_neB (d := false) ‹_› (by rfl) ?_)
    refine Pick_F (Gd_F (Gd_F (Bn_leT (by omega) (Gd_F (Gd_T (Gd_T (Bn_leT (by omega) (Gd_F (Pick_T (Gd_F (Gd_T (Gd_T (Bn_gtF (by omega) (Gd_F (Pick_T (Pick_F (If_F (ldA h 2 rfl rfl ?_))))))))))))))))))
    refine ldA h 0 rfl rfl ?_
    exact lfT _ h
   ·refine Bn_eqT (by omega) (Gd_F (ldA h 2 rfl rfl ?_))
    refine Gd_F (ldA h 1 rfl rfl ?_)
    refine Gd_F (qyEqE ‹_› ?_)
    refine Gd_F (Bn_neB (d := false) ‹_› (by rfl) ?_)
    refine Pick_F (Gd_F (Gd_F (Bn_leT (by omega) (Gd_F (Gd_T (Gd_T (Bn_leF (by omega) (Gd_F (Pick_T (Gd_F (Gd_FT (Gd_FT (Gd_F (Pick_F (Pick_F (If_F (ldA h 2 rfl rfl ?_)))))))))))))))))
    refine ldA h 0 rfl rfl ?_
    exact lfT _ h
  ·have hq := hqf hA
   by_cases ha : A ≤ 0
   ·by_cases hb : B ≤ 0
    ·have hc := htr ha hb
     refine Bn_eqF (by omega) (Gd_F (ldA h 2 rfl rfl ?_))
     refine Gd_F (ldA h 1 rfl rfl ?_)
     refine Gd_F (qyEqF ‹_› ?_)
     refine Gd_F (Bn_neB (d := false) ‹_› (by rfl) ?_)
     refine Pick_F (Gd_F (Gd_F (Bn_leT (by omega) (Gd_F (Gd_T (Gd_T (Bn_leT (by omega) (Gd_F (Pick_T (Gd_F (Gd_T (Gd_T (Bn_gtF (by omega) (Gd_F (Pick_T (Pick_F (If_F (ldA h 2 rfl rfl ?_))))))))))))))))))
     refine ldA h 0 rfl rfl ?_
     exact lfT _ h
    ·refine Bn_eqF (by omega) (Gd_F (ldA h 2 rfl rfl ?_))
     refine Gd_F (ldA h 1 rfl rfl ?_)
     refine Gd_F (qyEqF ‹_› ?_)
     refine Gd_F (Bn_neB (d := false) ‹_› (by rfl) ?_)
     refine Pick_F (Gd_F (Gd_F (Bn_leT (by omega) (Gd_F (Gd_T (Gd_T (Bn_leF (by omega) (Gd_F (Pick_T (Gd_F (Gd_FT (Gd_FT (Gd_F (Pick_F (Pick_F (If_F (ldA h 2 rfl rfl ?_)))))))))))))))))
     refine ldA h 0 rfl rfl ?_
     exact lfT _ h
   ·refine Bn_eqF (by omega) (Gd_F (ldA h 2 rfl rfl ?_))
    refine Gd_F (ldA h 1 rfl rfl ?_)
    refine Gd_F (qyEqF ‹_› ?_)
    refine Gd_F (Bn_neB (d := false) ‹_› (by rfl) ?_)
    refine Pick_F (Gd_F (Gd_F (Bn_leF (by omega) (Gd_F (Gd_FT (Gd_FT (Gd_F (Pick_F (Gd_F (Gd_FT (Gd_FT (Gd_F (Pick_F (Pick_F (If_F (ldA h 2 rfl rfl ?_))))))))))))))))
    refine ldA h 0 rfl rfl ?_
    exact lfT _ h
 intro w h
 have cc8 := @dd8
 have cc9 := @dd9
 have cc10 := @dd10
 have cc11 := @dd11
 have cc12 := @dd12
 refine cl1 h n_unit_Add (cc8 h.ext) fun w h => ?_
 refine Ex2 (alS h fun g9 w h => ?_)
 refine stA h 0 rfl rfl rfl rfl fun w h => ?_
 refine ldA h 2 rfl rfl ?_
 refine ldA h 1 rfl rfl ?_
 refine cl1 h n_unit_Add (cc9 h.ext) fun w h => ?_
 refine Ex2 (alS h fun g10 w h => ?_)
 refine stA h 0 rfl rfl rfl rfl fun w h => ?_
 refine ldA h 1 rfl rfl ?_
 refine ldA h 0 rfl rfl ?_
 refine cl1 h n_unit_Compare (cc10 h.ext) fun w h => ?_
 refine Ex2 (ldA h 4 rfl rfl ?_)
 refine ldA h 3 rfl rfl ?_
 refine cl1 h n_unit_Sub (cc11 h.ext) fun w h => ?_
 refine Ex2 (alS h fun g11 w h => ?_)
 refine stA h 0 rfl rfl rfl rfl fun w h => ?_
 refine faS (ldA h 0 rfl rfl ?_)
 refine bdS (PC.cons (by rfl) (PC.cons (by rfl) PC.nil)) (by rfl) ?_
 refine cl1 h n_rational_Compare (cc12 h.ext) fun w h => ?_
 refine Gd_T (Gd_T ?_)
 dsimp only [List.set] at h
 by_cases e1 : qE o1 = 0
 rotate_left
 ·refine Bn_neT (by omega) (Gd_T (Gd_TF (Gd_TF (Gd_T (Pick_T (Gd_T (Gd_TF (Gd_TF (Gd_TF (Gd_U (Gd_U (Gd_U (Gd_TF (Gd_T (Pick_T (Pick_T (Gd_T (Gd_T ?_))))))))))))))))))
  by_cases e4 : qE o4 = 0
  ·have hs := g2 e4
   refine Bn_neF (by omega) (Gd_T (Gd_F (Gd_F (Gd_F (Bn_eqT (by omega) (Gd_T (Pick_F (Pick_T ?_))))))))
   exact lf9 _ (h.pick [] (by decide) rfl)
  ·refine Bn_neT (by omega) (Gd_T (Gd_TF (Gd_TF (Gd_TF (Gd_T (Pick_T (Pick_T ?_)))))))
   exact lf9 _ (h.pick [] (by decide) rfl)
 by_cases e2 : qE o2 = 0
 rotate_left
 ·refine Bn_neF (by omega) (Gd_T (Gd_F (Gd_F (Bn_neT (by omega) (Gd_T (Pick_F (Gd_T (Gd_TF (Gd_TF (Gd_TF (Gd_U (Gd_U (Gd_U (Gd_TF (Gd_T (Pick_T (Pick_T (Gd_T (Gd_T ?_)))))))))))))))))))
  by_cases e4 : qE o4 = 0
  ·have hs := g2 e4
   refine Bn_neF (by omega) (Gd_T (Gd_F (Gd_F (Gd_F (Bn_eqT (by omega) (Gd_T (Pick_F (Pick_T ?_))))))))
   exact lf9 _ (h.pick [] (by decide) rfl)
  ·refine Bn_neT (by omega) (Gd_T (Gd_TF (Gd_TF (Gd_TF (Gd_T (Pick_T (Pick_T ?_)))))))
   exact lf9 _ (h.pick [] (by decide) rfl)
 have h3 := g1 e1 e2
 have h3e : cE o3 = 0 := by rw [h3]
 have h3v : cV o3 = A := by rw [h3]
 refine Bn_neF (by omega) (Gd_T (Gd_F (Gd_F (Bn_neF (by omega) (Gd_T (Pick_F (Gd_T (Gd_F (Gd_F (Bn_eqT (by omega) (Gd_F (Gd_T (Gd_T (Gd_T (Bn_eqT (by omega) (Gd_F (Pick_T (Gd_T (Pick_F (Pick_T (Gd_T (Gd_T ?_))))))))))))))))))))))
 by_cases e4 : qE o4 = 0
 ·have hs := g2 e4
  refine Bn_neF (by omega) (Gd_T (Gd_F (Gd_F (Gd_F (Bn_eqT (by omega) (Gd_T (Pick_F (Pick_T ?_))))))))
  exact lf9 _ (h.pick [] (by decide) rfl)
 ·refine Bn_neT (by omega) (Gd_T (Gd_TF (Gd_TF (Gd_TF (Gd_T (Pick_T (Pick_T ?_)))))))
  exact lf9 _ (h.pick [] (by decide) rfl)
end Go.Proofs.YtdbcpkihokagkaaGreatDoor
