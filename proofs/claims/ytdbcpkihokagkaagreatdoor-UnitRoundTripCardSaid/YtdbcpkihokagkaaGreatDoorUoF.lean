/-
  Contracts and plain lemmas. By an AI agent.
-/
import Derived.Test.YtdbcpkihokagkaaGreatDoorLUoF
import Derived.Test.YtdbcpkihokagkaaGreatDoorUnX
set_option linter.unusedSimpArgs false
set_option linter.unusedVariables false
set_option linter.unusedSectionVars false
namespace Go.Proofs.YtdbcpkihokagkaaGreatDoor
open Go Go.Eng Go.Proofs Go.Num Go.RowKit
set_option maxRecDepth 100000
theorem encQ_le {q : QT} (h : (valQ q).isSome = true) : (encQ q).length ≤ 200 := by
 obtain ⟨b1, b2, hu⟩ := enc_bd h
 have z1 := putS_len b1 (by decide)
 have z2 := putS_len b2 (by decide)
 have j1 := hu.1
 have j2 := hu.2.1
 have j3 := hu.2.2.1
 have j4 := hu.2.2.2
 have i1 := putI_len9 (n := q.u.1) (by omega) (by omega)
 have i2 := putI_len9 (n := q.u.2.1) (by omega) (by omega)
 have i3 := putI_len9 (n := q.u.2.2.1) (by omega) (by omega)
 have i4 := putI_len9 (n := q.u.2.2.2) (by omega) (by omega)
 unfold encQ
 simp only [List.length_append]
 omega
theorem prQ_le {q : QT} : (prQ q).length ≤ 200 := by
 rcases h : (valQ q).isSome with _ | _
 ·rw [prQ_n h]; simp
 ·obtain ⟨b1, b2, hu⟩ := enc_bd h
  have hl := printS_len b1 b2
  have l1 := pT_len (w := wUs) hu.1 (by decide)
  have l2 := pT_len (w := wBy) hu.2.1 (by decide)
  have l3 := pT_len (w := wCe) hu.2.2.1 (by decide)
  have l4 := pT_len (w := wOn) hu.2.2.2 (by decide)
  rw [prQ_y h]
  unfold prU
  simp only [List.length_append]
  omega
theorem dec_at {q : QT} {b f : List UInt8} (h : (valQ q).isSome = true) : decV (b ++ encQ q ++ f) (b.length : Int) = .tuple #[vQ q, .int .i64 ((b.length + (encQ q).length : Nat) : Int), .int .i64 0] := by
 unfold decV
 rw [if_pos (by simp only [List.length_append]; omega), Int.toNat_natCast, List.append_assoc, List.drop_left, decQ_put h]
theorem law_Trip {w0 : World} {x y : U4} {b f : List UInt8} (hx : UI x) (hy : UI y) (hb : b.length ≤ 9223372036854775807) (hf : f.length ≤ 9223372036854775807) (he : En w0) : Calls Tryz.prog 8 #[vU x, vU y, str b, str f] w0 (Ret fun r w' => Ext w0 w' ∧ r = .bool true) := by
 have hB := Tryz.underlying4
 have cc0 := fun {W : World} (e : Ext w0 W) => law_sane (he.ext e)
 have cc1 := fun {W : World} (e : Ext w0 W) => c_Made (w0 := W) hx
 have cc2 := fun {W : World} (e : Ext w0 W) => c_Made (w0 := W) hy
 have va := some_s (made_v x)
 have vb := some_s (made_v y)
 generalize madeQ x = p at *
 generalize madeQ y = q at *
 have kp := QTk.of va
 have kq := QTk.of vb
 have lp := encQ_le va
 have lq := encQ_le vb
 have tp := prQ_le (q := p)
 obtain ⟨b', hb'⟩ : ∃ b', b' = b.take (min (b.length : Int) 100).toNat := ⟨_, rfl⟩
 obtain ⟨f', hf'⟩ : ∃ f', f' = f.take (min (f.length : Int) 100).toNat := ⟨_, rfl⟩
 have bl : b'.length ≤ 100 := by rw [hb', List.length_take]; omega
 have fl : f'.length ≤ 100 := by rw [hf', List.length_take]; omega
 have cc3 := fun {W : World} (e : Ext w0 W) => c_uPrint (w0 := W) kp (he.ext e).hT (he.ext e).hW
 have cc4 : ∀ {W : World}, Ext w0 W → Calls Tryz.prog 31 #[str (prQ p)] W (Ret fun r w' => Ext W w' ∧ r = .tuple #[vQ p, .int .i64 0]) := fun {W} e => by
  have := c_uParse (w0 := W) (s := prQ p) (by omega) (he.ext e).hT (he.ext e).hM (he.ext e).hW (he.ext e).hE
  rw [parQ_y va] at this
  exact this
 have cc5 : ∀ {W : World}, Ext w0 W → Calls Tryz.prog 27 #[vQ p] W (Ret fun r w' => Ext W w' ∧ r = .tuple #[str (encQ p), .int .i64 0]) := fun {W} e => by
  have := c_uEncode (w0 := W) kp (he.ext e).hT
  unfold enc2 at this
  rw [va, if_pos rfl] at this
  exact this
 have cc6 : ∀ {W : World}, Ext w0 W → Calls Tryz.prog 27 #[vQ q] W (Ret fun r w' => Ext W w' ∧ r = .tuple #[str (encQ q), .int .i64 0]) := fun {W} e => by
  have := c_uEncode (w0 := W) kq (he.ext e).hT
  unfold enc2 at this
  rw [vb, if_pos rfl] at this
  exact this
 have cc7 : ∀ {W : World}, Ext w0 W → Calls Tryz.prog 33 #[str (b' ++ encQ p ++ f'), .int .i64 (b'.length : Int)] W (Ret fun r w' => Ext W w' ∧ r = .tuple #[vQ p, .int .i64 ((b'.length + (encQ p).length : Nat) : Int), .int .i64 0]) := fun {W} e => by
  have := c_uDecode (w0 := W) (s := b' ++ encQ p ++ f') (by simp only [List.length_append]; omega) (a := (b'.length : Int)) (he.ext e).hT
  rw [dec_at va] at this
  exact this
 have cc8 := fun {W : World} (e : Ext w0 W) => c_uPrint (w0 := W) kq (he.ext e).hT (he.ext e).hW
 rw [hb', hf'] at cc7
 rw [hb'] at bl
 rw [hf'] at fl
 clear hb' hf'
 suffices main : ∀ (R : Ending → World → Prop), (∀ w, Hp [] w0 w [] → R (.returned (.bool true)) w) → s_law05_UnitRoundTrip Tryz.prog (vU x) (vU y) (str b) (str f) w0 R from
  e_law05_UnitRoundTrip (main _ fun w h => Ret.mk ⟨h.ext, rfl⟩)
 intro R lf9
 by_cases hpq : p = q
 ·subst hpq
  unfold s_law05_UnitRoundTrip
  have h := Hp.init [] w0
  refine bxA h fun g1 w h => ?_
  refine bxA h fun g2 w h => ?_
  refine cl1 h n_law05_sane (cc0 h.ext) fun w h => ?_
  refine ldA h 1 rfl rfl ?_
  refine cl1 h n_ref05_Made (cc1 h.ext) fun w h => ?_
  refine alS h fun g3 w h => ?_
  refine stA h 0 rfl rfl rfl rfl fun w h => ?_
  refine ldA h 1 rfl rfl ?_
  refine cl1 h n_ref05_Made (cc2 h.ext) fun w h => ?_
  refine alS h fun g4 w h => ?_
  refine stA h 0 rfl rfl rfl rfl fun w h => ?_
  refine Bt_lenT ?_
  refine Bt_mi ?_
  refine Sc_tH (by omega) (by omega) ?_
  refine Bt_lenT ?_
  refine Bt_mi ?_
  refine Sc_tH (by omega) (by omega) ?_
  refine ldA h 1 rfl rfl ?_
  refine cl1 h n_unit_Print (cc8 h.ext) fun w h => ?_
  refine cl1 h n_unit_Parse (cc4 h.ext) fun w h => ?_
  refine Ex2 (alS h fun g5 w h => ?_)
  refine stA h 0 rfl rfl rfl rfl fun w h => ?_
  refine ldA h 2 rfl rfl ?_
  refine cl1 h n_unit_Encode (cc6 h.ext) fun w h => ?_
  refine Ex2 (ldA h 1 rfl rfl ?_)
  refine cl1 h n_unit_Encode (cc6 h.ext) fun w h => ?_
  refine Ex2 (Bn_cat (by first | omega | (simp only [List.length_append, List.length_cons, List.length_nil]; omega)) ?_)
  refine Bn_cat (by first | omega | (simp only [List.length_append, List.length_cons, List.length_nil]; omega)) ?_
  refine Bt_lenT ?_
  refine cl1 h n_unit_Decode (cc7 h.ext) fun w h => ?_
  refine Ex3 (alS h fun g6 w h => ?_)
  refine stA h 0 rfl rfl rfl rfl fun w h => ?_
  dsimp only [List.set] at h
  refine GdP_T (GdP_T ?_)
  replace h := h.dr
  refine Dv_eqT (by omega) (PickP_T (GdP_T (dlA h 1 rfl rfl ?_)))
  refine GdP_T (dlA h 3 rfl rfl ?_)
  refine GdP_T (dqyEqS ?_)
  refine PickP_T (GdP_T (GdP_T (Dv_eqT (by omega) (PickP_T (GdP_T (GdP_T (Dv_eqT (by omega) (PickP_T (GdP_T (GdP_T (Dv_eqT (by omega) (PickP_T (GdP_T (dlA h 0 rfl rfl ?_))))))))))))))
  refine GdP_T (dlA h 3 rfl rfl ?_)
  refine GdP_T (dqyEqS ?_)
  refine PickP_T (GdP_T (GdP_T (GdP_T (Dv_lenT (GdP_T (GdP_T (Dv_lenT (GdP_T (Dv_ad (by omega) (by omega) (GdP_T (Dv_eqT (by omega) (PickP_T (GdP_T (GdP_T (GdP_T (Dv_eqST (GdP_T (dlA h 3 rfl rfl ?_))))))))))))))))))
  refine GdP_T (dlA h 2 rfl rfl ?_)
  refine GdP_T (dqyEqS ?_)
  refine GdP_T (Dv_eqB (d := true) ‹_› (by rfl) ?_)
  refine PickP_T (GdP_T (dlA h 3 rfl rfl ?_))
  refine GdP_T (dlA h 2 rfl rfl ?_)
  refine GdP_T (dlA h 3 rfl rfl ?_)
  refine GdP_T (dlA h 2 rfl rfl ?_)
  refine GdP_T (dqyEqS ?_)
  refine Gd_T (cl1 h n_unit_Print (cc8 h.ext) fun w h => ?_)
  refine Kg_T ?_
  refine klA h 2 rfl rfl ?_
  refine Kg_T ?_
  refine klA h 3 rfl rfl ?_
  refine Kg_T ?_
  refine klA h 2 rfl rfl ?_
  refine Kg_T ?_
  refine Ke_dv (dqyEqS rfl) ?_
  refine Gd_T (cl1 h n_unit_Print (cc8 h.ext) fun w h => ?_)
  refine Kg_T ?_
  refine klA h 3 rfl rfl ?_
  refine Kg_T ?_
  refine klA h 2 rfl rfl ?_
  refine Kg_T ?_
  refine Ke_dv (dqyEqS rfl) ?_
  refine GdP_T (Dv_eqST (GdP_T (Dv_eqB (d := true) ‹_› (by rfl) ?_)))
  refine PickP_T ?_
  exact lf9 _ (h.pick [] (by decide) rfl)
 ·have n1 : (encQ p == encQ q) = false := by
   rw [beq_eq_false_iff_ne]
   exact fun e => hpq (encQ_inj va vb e)
  have n2 : (prQ p == prQ q) = false := by
   rw [beq_eq_false_iff_ne]
   exact fun e => hpq (prQ_inj va vb e)
  have n3 : ¬ Qe p q := fun h => hpq (QT_ext (Prod.ext h.1 h.2.1) (Prod.ext h.2.2.1 (Prod.ext h.2.2.2.1 (Prod.ext h.2.2.2.2.1 h.2.2.2.2.2))))
  unfold s_law05_UnitRoundTrip
  have h := Hp.init [] w0
  refine bxA h fun g1 w h => ?_
  refine bxA h fun g2 w h => ?_
  refine cl1 h n_law05_sane (cc0 h.ext) fun w h => ?_
  refine ldA h 1 rfl rfl ?_
  refine cl1 h n_ref05_Made (cc1 h.ext) fun w h => ?_
  refine alS h fun g3 w h => ?_
  refine stA h 0 rfl rfl rfl rfl fun w h => ?_
  refine ldA h 1 rfl rfl ?_
  refine cl1 h n_ref05_Made (cc2 h.ext) fun w h => ?_
  refine alS h fun g4 w h => ?_
  refine stA h 0 rfl rfl rfl rfl fun w h => ?_
  refine Bt_lenT ?_
  refine Bt_mi ?_
  refine Sc_tH (by omega) (by omega) ?_
  refine Bt_lenT ?_
  refine Bt_mi ?_
  refine Sc_tH (by omega) (by omega) ?_
  refine ldA h 1 rfl rfl ?_
  refine cl1 h n_unit_Print (cc3 h.ext) fun w h => ?_
  refine cl1 h n_unit_Parse (cc4 h.ext) fun w h => ?_
  refine Ex2 (alS h fun g5 w h => ?_)
  refine stA h 0 rfl rfl rfl rfl fun w h => ?_
  refine ldA h 2 rfl rfl ?_
  refine cl1 h n_unit_Encode (cc5 h.ext) fun w h => ?_
  refine Ex2 (ldA h 1 rfl rfl ?_)
  refine cl1 h n_unit_Encode (cc6 h.ext) fun w h => ?_
  refine Ex2 (Bn_cat (by first | omega | (simp only [List.length_append, List.length_cons, List.length_nil]; omega)) ?_)
  refine Bn_cat (by first | omega | (simp only [List.length_append, List.length_cons, List.length_nil]; omega)) ?_
  refine Bt_lenT ?_
  refine cl1 h n_unit_Decode (cc7 h.ext) fun w h => ?_
  refine Ex3 (alS h fun g6 w h => ?_)
  refine stA h 0 rfl rfl rfl rfl fun w h => ?_
  dsimp only [List.set] at h
  refine GdP_T (GdP_T ?_)
  replace h := h.dr
  refine Dv_eqT (by omega) (PickP_T (GdP_T (dlA h 1 rfl rfl ?_)))
  refine GdP_T (dlA h 3 rfl rfl ?_)
  refine GdP_T (dqyEqS ?_)
  refine PickP_T (GdP_T (GdP_T (Dv_eqT (by omega) (PickP_T (GdP_T (GdP_T (Dv_eqT (by omega) (PickP_T (GdP_T (GdP_T (Dv_eqT (by omega) (PickP_T (GdP_T (dlA h 0 rfl rfl ?_))))))))))))))
  refine GdP_T (dlA h 3 rfl rfl ?_)
  refine GdP_T (dqyEqS ?_)
  refine PickP_T (GdP_T (GdP_T (GdP_T (Dv_lenT (GdP_T (GdP_T (Dv_lenT (GdP_T (Dv_ad (by omega) (by omega) (GdP_T (Dv_eqT (by omega) (PickP_T (GdP_T (GdP_T (GdP_T (Dv_eqSF ‹_› ?_))))))))))))))))
  refine GdP_T (dlA h 3 rfl rfl ?_)
  refine GdP_T (dlA h 2 rfl rfl ?_)
  refine GdP_T (dqyEqF ‹_› ?_)
  refine GdP_T (Dv_eqB (d := true) ‹_› (by rfl) ?_)
  refine PickP_T (GdP_T (dlA h 3 rfl rfl ?_))
  refine GdP_T (dlA h 2 rfl rfl ?_)
  refine GdP_T (dlA h 3 rfl rfl ?_)
  refine GdP_T (dlA h 2 rfl rfl ?_)
  refine GdP_T (dqyEqF ‹_› ?_)
  refine Gd_T (cl1 h n_unit_Print (cc3 h.ext) fun w h => ?_)
  refine Kg_T ?_
  refine klA h 2 rfl rfl ?_
  refine Kg_T ?_
  refine klA h 3 rfl rfl ?_
  refine Kg_T ?_
  refine klA h 2 rfl rfl ?_
  refine Kg_T ?_
  refine Ke_dv (dqyEqF ‹_› rfl) ?_
  refine Gd_T (cl1 h n_unit_Print (cc8 h.ext) fun w h => ?_)
  refine Kg_T ?_
  refine klA h 3 rfl rfl ?_
  refine Kg_T ?_
  refine klA h 2 rfl rfl ?_
  refine Kg_T ?_
  refine Ke_dv (dqyEqF ‹_› rfl) ?_
  refine GdP_T (Dv_eqSF ‹_› ?_)
  refine GdP_T (Dv_eqB (d := true) ‹_› (by rfl) ?_)
  refine PickP_T ?_
  exact lf9 _ (h.pick [] (by decide) rfl)
end Go.Proofs.YtdbcpkihokagkaaGreatDoor
