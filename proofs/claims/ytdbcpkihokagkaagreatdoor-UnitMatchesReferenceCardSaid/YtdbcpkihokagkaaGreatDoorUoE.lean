/-
  Contracts and plain lemmas. By an AI agent.
-/
import Derived.Test.YtdbcpkihokagkaaGreatDoorLUoE
import Derived.Test.YtdbcpkihokagkaaGreatDoorUnX
set_option linter.unusedSimpArgs false
set_option linter.unusedVariables false
set_option linter.unusedSectionVars false
namespace Go.Proofs.YtdbcpkihokagkaaGreatDoor
open Go Go.Eng Go.Proofs Go.Num Go.RowKit
set_option maxRecDepth 100000
def cutQ (q : QT) : QT := ⟨(q.p.1.take 70, q.p.2.take 70), q.u⟩
theorem cutQ_k (q : QT) : QTk (cutQ q) := ⟨by simp only [cutQ, List.length_take]; omega, by simp only [cutQ, List.length_take]; omega⟩
structure QTi (q : QT) : Prop where
 p1 : q.p.1.length ≤ 9223372036854775807
 p2 : q.p.2.length ≤ 9223372036854775807
 u : UI q.u
theorem tk_min {s : List UInt8} : s.take (min (s.length : Int) 70).toNat = s.take 70 := take_min (k := 70)
theorem c_cut {w0 : World} {q : QT} (hq : QTi q) : Calls Tryz.prog 11 #[vQ q] w0 (Ret fun r w' => Ext w0 w' ∧ r = vQ (cutQ q)) := by
 have k1 := hq.p1
 have k2 := hq.p2
 apply e_law05_cut
 unfold s_law05_cut
 have h := Hp.init [] w0
 refine bxA h fun g1 w h => ?_
 refine alS h fun g2 w h => ?_
 refine faS (faS (Eng.ld1 h 1 rfl rfl (faS (faS (Eng.ld1 h 1 rfl rfl (Bt_lenT ?_))))))
 refine Bt_mi ?_
 refine Sc_tH (by omega) (by omega) ?_
 refine faS (faS (st1 h 1 rfl rfl rfl rfl fun w h => ?_))
 refine faS (faS (Eng.ld1 h 1 rfl rfl (faS (faS (Eng.ld1 h 1 rfl rfl (Bt_lenT ?_))))))
 refine Bt_mi ?_
 refine Sc_tH (by omega) (by omega) ?_
 refine faS (faS (st1 h 1 rfl rfl rfl rfl fun w h => ?_))
 refine ldA h 1 rfl rfl ?_
 refine stA h 0 rfl rfl rfl rfl fun w h => ?_
 refine rcA h 0 rfl rfl ?_
 dsimp only [List.set] at h
 exact Ret.mk ⟨h.ext, by simp only [tk_min]; rfl⟩
theorem law_Match {w0 : World} {x y : QT} {m n : U4} (hx : QTi x) (hy : QTi y) (hm : UI m) (hn : UI n) (he : En w0) : Calls Tryz.prog 3 #[vQ x, vQ y, vU m, vU n] w0 (Ret fun r w' => Ext w0 w' ∧ r = .bool true) := by
 have hB := Tryz.underlying4
 have cc0 := fun {W : World} (e : Ext w0 W) => law_sane (he.ext e)
 have cc1 := fun {W : World} (e : Ext w0 W) => c_cut (w0 := W) hx
 have cc2 := fun {W : World} (e : Ext w0 W) => c_cut (w0 := W) hy
 have cc3 := fun {W : World} (e : Ext w0 W) => c_Made (w0 := W) hm
 have cc4 := fun {W : World} (e : Ext w0 W) => c_Made (w0 := W) hn
 obtain ⟨L, hL⟩ : ∃ L, L = [cutQ x, cutQ y, madeQ m, madeQ n] := ⟨_, rfl⟩
 have hLk : ∀ q ∈ L, QTk q := by
  rw [hL]
  intro q hq
  simp only [List.mem_cons, List.not_mem_nil, or_false] at hq
  rcases hq with rfl | rfl | rfl | rfl
  ·exact cutQ_k x
  ·exact cutQ_k y
  ·exact .of (some_s (made_v m))
  ·exact .of (some_s (made_v n))
 have hLl : L.length = 4 := by rw [hL]; rfl
 have hseg : ∀ {j : Nat} {a : QT}, L[j]? = some a → Seg (L.flatMap fQ) (j * 6) (fQ a) := fun {j a} h => flat_seg (f := fQ) (c := 6) (fun _ => rfl) h
 suffices main : ∀ (R : Ending → World → Prop), (∀ w, Hp [] w0 w [] → R (.returned (.bool true)) w) → s_law05_UnitMatchesReference Tryz.prog (vQ x) (vQ y) (vU m) (vU n) w0 R from
  e_law05_UnitMatchesReference (main _ fun w h => Ret.mk ⟨h.ext, rfl⟩)
 intro R lf9
 unfold s_law05_UnitMatchesReference
 have h := Hp.init [] w0
 refine bxA h fun g1 w h => ?_
 refine bxA h fun g2 w h => ?_
 refine bxA h fun g3 w h => ?_
 refine bxA h fun g4 w h => ?_
 refine cl1 h n_law05_sane (cc0 h.ext) fun w h => ?_
 replace h := h.dr
 refine dlA h 3 rfl rfl ?_
 refine dlA h 2 rfl rfl ?_
 refine dlA h 1 rfl rfl ?_
 refine dlA h 0 rfl rfl ?_
 refine cl1 h n_law05_cut (cc1 h.ext) fun w h => ?_
 refine klA h 2 rfl rfl ?_
 refine klA h 1 rfl rfl ?_
 refine klA h 0 rfl rfl ?_
 refine cl1 h n_law05_cut (cc2 h.ext) fun w h => ?_
 refine klA h 1 rfl rfl ?_
 refine klA h 0 rfl rfl ?_
 refine cl1 h n_ref05_Made (cc3 h.ext) fun w h => ?_
 refine klA h 0 rfl rfl ?_
 refine cl1 h n_ref05_Made (cc4 h.ext) fun w h => ?_
 refine bsN (vs := [_, _, _, _]) h (.cons (by rfl) (by rfl) (.cons (by rfl) (by rfl) (.cons (by rfl) (by rfl) (.cons (by rfl) (by rfl) .nil)))) (by rfl) (by rfl) (by decide) (by decide) (by decide) fun v1 w h => ?_
 have h2 : Hp [] w0 w [ro tQy 6 v1 4 (L.flatMap fQ)] := by
  rw [hL]
  exact h.pick [0] (by decide) rfl
 clear h
 refine Lp1.mk (fun i W => ∃ j : Nat, j ≤ 4 ∧ i = .int .i64 (j : Int) ∧ Hp [] w0 W [ro tQy 6 v1 4 (L.flatMap fQ)]) (fun i _ => match i with | .int _ i' => 4 - i'.toNat | _ => 0) ⟨0, by decide, rfl, h2⟩ ?_
 clear h2
 rintro _ w ⟨i, hi, rfl, h⟩
 by_cases hi4 : i < 4
 rotate_left
 ·refine leS (qZ 0 h rfl) ?_
  refine Bn_ltF (by omega) (If_F ?_)
  exact lf9 _ (h.pick [] (by decide) rfl)
 have ha0 : ∃ a, L[i]? = some a := ⟨_, List.getElem?_eq_getElem (by omega)⟩
 refine Exists.elim ha0 fun a ha => ?_
 clear ha0
 have ka := hLk a (List.mem_of_getElem? ha)
 have sa := hseg ha
 revert h
 revert w
 apply meet
 ·intro w lfT h
  have cv := fun (b : Bool) (hb : (valQ a).isSome = b) {W : World} (e : Ext w0 W) => c_ValidQ (w0 := W) ka hb (he.ext e).hT
  have cf := fun (b : Bool) (hb : (valQ a).isSome = b) {W : World} (e : Ext w0 W) => c_fValidQ (w0 := W) ka hb
  have cu := fun (b : Bool) (hb : decide (uOk a.u) = b) {W : World} (e : Ext w0 W) => c_ValidUnit (w0 := W) hb
  have cg := fun (b : Bool) (hb : decide (uOk a.u) = b) {W : World} (e : Ext w0 W) => c_fValidUnit (w0 := W) hb
  by_cases hv1 : (valQ a).isSome = true
  ·have cc10 := @cv _ hv1
   have cc11 := @cf _ hv1
   by_cases u1 : uOk a.u
   ·have cc12 := @cu _ (decide_eq_true u1)
    have cc13 := @cg _ (decide_eq_true u1)
    refine leS (qZ 0 h rfl) ?_
    refine Bn_ltT (by omega) (If_T ?_)
    replace h := h.dr
    refine diR h 0 rfl (by omega) fun zg zk zv => ?_
    refine drA h 0 rfl ‹_› sa (by rfl) ?_
    refine diR h 0 rfl (by omega) fun zg zk zv => ?_
    refine drA h 0 rfl ‹_› sa (by rfl) ?_
    refine cl1 h n_unit_Valid (cc10 h.ext) fun w h => ?_
    refine krA h 0 rfl ‹_› sa (by rfl) ?_
    refine cl1 h n_ref05_Valid (cc11 h.ext) fun w h => ?_
    refine Dv_neB (d := false) ‹_› (by rfl) ?_
    refine GdP_F (GdP_F (GdP_F (diR h 0 rfl (by omega) fun zg zk zv => ?_)))
    refine GdP_F (dfS (GdP_F (drP h 0 rfl ‹_› sa (by rfl) ?_)))
    refine GdP_F (GdP_F (GdP_F (diR h 0 rfl (by omega) fun zg zk zv => ?_)))
    refine GdP_F (dfS (GdP_F (drP h 0 rfl ‹_› sa (by rfl) ?_)))
    refine Gd_F (cl1 h n_unit_ValidUnit (cc12 h.ext) fun w h => ?_)
    refine Kg_F ?_
    refine krP h 0 rfl ‹_› sa (by rfl) ?_
    refine Gd_F (cl1 h n_ref05_ValidUnit (cc13 h.ext) fun w h => ?_)
    refine GdP_F (Dv_neB (d := false) ‹_› (by rfl) ?_)
    refine PickP_F (If_F ?_)
    exact lfT _ h
   ·have cc12 := @cu _ (decide_eq_false u1)
    have cc13 := @cg _ (decide_eq_false u1)
    refine leS (qZ 0 h rfl) ?_
    refine Bn_ltT (by omega) (If_T ?_)
    replace h := h.dr
    refine diR h 0 rfl (by omega) fun zg zk zv => ?_
    refine drA h 0 rfl ‹_› sa (by rfl) ?_
    refine diR h 0 rfl (by omega) fun zg zk zv => ?_
    refine drA h 0 rfl ‹_› sa (by rfl) ?_
    refine cl1 h n_unit_Valid (cc10 h.ext) fun w h => ?_
    refine krA h 0 rfl ‹_› sa (by rfl) ?_
    refine cl1 h n_ref05_Valid (cc11 h.ext) fun w h => ?_
    refine Dv_neB (d := false) ‹_› (by rfl) ?_
    refine GdP_F (GdP_F (GdP_F (diR h 0 rfl (by omega) fun zg zk zv => ?_)))
    refine GdP_F (dfS (GdP_F (drP h 0 rfl ‹_› sa (by rfl) ?_)))
    refine GdP_F (GdP_F (GdP_F (diR h 0 rfl (by omega) fun zg zk zv => ?_)))
    refine GdP_F (dfS (GdP_F (drP h 0 rfl ‹_› sa (by rfl) ?_)))
    refine Gd_F (cl1 h n_unit_ValidUnit (cc12 h.ext) fun w h => ?_)
    refine Kg_F ?_
    refine krP h 0 rfl ‹_› sa (by rfl) ?_
    refine Gd_F (cl1 h n_ref05_ValidUnit (cc13 h.ext) fun w h => ?_)
    refine GdP_F (Dv_neB (d := false) ‹_› (by rfl) ?_)
    refine PickP_F (If_F ?_)
    exact lfT _ h
  ·have hv1 : (valQ a).isSome = false := by simpa using hv1
   have cc10 := @cv _ hv1
   have cc11 := @cf _ hv1
   by_cases u1 : uOk a.u
   ·have cc12 := @cu _ (decide_eq_true u1)
    have cc13 := @cg _ (decide_eq_true u1)
    refine leS (qZ 0 h rfl) ?_
    refine Bn_ltT (by omega) (If_T ?_)
    replace h := h.dr
    refine diR h 0 rfl (by omega) fun zg zk zv => ?_
    refine drA h 0 rfl ‹_› sa (by rfl) ?_
    refine diR h 0 rfl (by omega) fun zg zk zv => ?_
    refine drA h 0 rfl ‹_› sa (by rfl) ?_
    refine cl1 h n_unit_Valid (cc10 h.ext) fun w h => ?_
    refine krA h 0 rfl ‹_› sa (by rfl) ?_
    refine cl1 h n_ref05_Valid (cc11 h.ext) fun w h => ?_
    refine Dv_neB (d := false) ‹_› (by rfl) ?_
    refine GdP_F (GdP_F (GdP_F (diR h 0 rfl (by omega) fun zg zk zv => ?_)))
    refine GdP_F (dfS (GdP_F (drP h 0 rfl ‹_› sa (by rfl) ?_)))
    refine GdP_F (GdP_F (GdP_F (diR h 0 rfl (by omega) fun zg zk zv => ?_)))
    refine GdP_F (dfS (GdP_F (drP h 0 rfl ‹_› sa (by rfl) ?_)))
    refine Gd_F (cl1 h n_unit_ValidUnit (cc12 h.ext) fun w h => ?_)
    refine Kg_F ?_
    refine krP h 0 rfl ‹_› sa (by rfl) ?_
    refine Gd_F (cl1 h n_ref05_ValidUnit (cc13 h.ext) fun w h => ?_)
    refine GdP_F (Dv_neB (d := false) ‹_› (by rfl) ?_)
    refine PickP_F (If_F ?_)
    exact lfT _ h
   ·have cc12 := @cu _ (decide_eq_false u1)
    have cc13 := @cg _ (decide_eq_false u1)
    refine leS (qZ 0 h rfl) ?_
    refine Bn_ltT (by omega) (If_T ?_)
    replace h := h.dr
    refine diR h 0 rfl (by omega) fun zg zk zv => ?_
    refine drA h 0 rfl ‹_› sa (by rfl) ?_
    refine diR h 0 rfl (by omega) fun zg zk zv => ?_
    refine drA h 0 rfl ‹_› sa (by rfl) ?_
    refine cl1 h n_unit_Valid (cc10 h.ext) fun w h => ?_
    refine krA h 0 rfl ‹_› sa (by rfl) ?_
    refine cl1 h n_ref05_Valid (cc11 h.ext) fun w h => ?_
    refine Dv_neB (d := false) ‹_› (by rfl) ?_
    refine GdP_F (GdP_F (GdP_F (diR h 0 rfl (by omega) fun zg zk zv => ?_)))
    refine GdP_F (dfS (GdP_F (drP h 0 rfl ‹_› sa (by rfl) ?_)))
    refine GdP_F (GdP_F (GdP_F (diR h 0 rfl (by omega) fun zg zk zv => ?_)))
    refine GdP_F (dfS (GdP_F (drP h 0 rfl ‹_› sa (by rfl) ?_)))
    refine Gd_F (cl1 h n_unit_ValidUnit (cc12 h.ext) fun w h => ?_)
    refine Kg_F ?_
    refine krP h 0 rfl ‹_› sa (by rfl) ?_
    refine Gd_F (cl1 h n_ref05_ValidUnit (cc13 h.ext) fun w h => ?_)
    refine GdP_F (Dv_neB (d := false) ‹_› (by rfl) ?_)
    refine PickP_F (If_F ?_)
    exact lfT _ h
 intro w h
 refine Lp1.mk (fun i W => ∃ j : Nat, j ≤ 4 ∧ i = .int .i64 (j : Int) ∧ Hp [] w0 W [ro tQy 6 v1 4 (L.flatMap fQ)]) (fun i _ => match i with | .int _ i' => 4 - i'.toNat | _ => 0) ⟨0, by decide, rfl, h⟩ ?_
 clear h
 rintro _ w ⟨k, hk, rfl, h⟩
 by_cases hk4 : k < 4
 rotate_left
 ·refine leS (qZ 0 h rfl) ?_
  refine Bn_ltF (by omega) (If_F (Bn_ad (by omega) (by omega) ?_))
  refine ⟨⟨i + 1, by omega, rfl, h⟩, ?_⟩
  show 4 - ((i : Int) + 1).toNat < 4 - (i : Int).toNat
  omega
 have hb0 : ∃ b, L[k]? = some b := ⟨_, List.getElem?_eq_getElem (by omega)⟩
 refine Exists.elim hb0 fun b hb => ?_
 clear hb0
 have kb := hLk b (List.mem_of_getElem? hb)
 have sb := hseg hb
 have cc20 := fun {W : World} (e : Ext w0 W) => c_uAdd (w0 := W) ka kb (he.ext e).hT
 have cc21 := fun {W : World} (e : Ext w0 W) => c_fAddQ (w0 := W) ka kb
 have cc22 := fun {W : World} (e : Ext w0 W) => c_uSub (w0 := W) ka kb (he.ext e).hT
 have cc23 := fun {W : World} (e : Ext w0 W) => c_fSubQ (w0 := W) ka kb
 have cc24 := fun {W : World} (e : Ext w0 W) => c_uMul (w0 := W) ka kb (he.ext e).hT
 have cc25 := fun {W : World} (e : Ext w0 W) => c_fMulQ (w0 := W) ka kb
 have cc26 := fun {W : World} (e : Ext w0 W) => c_uDiv (w0 := W) ka kb (he.ext e).hT
 have cc27 := fun {W : World} (e : Ext w0 W) => c_fDivQ (w0 := W) ka kb
 have cc28 := fun {W : World} (e : Ext w0 W) => c_uCmp (w0 := W) ka kb (he.ext e).hT
 have cc29 := fun {W : World} (e : Ext w0 W) => c_fCmpQ (w0 := W) ka kb
 refine leS (qZ 0 h rfl) ?_
 refine Bn_ltT (by omega) (If_T (Jn2.mk fun K0 hK0 => ?_))
 have lf1 : ∀ d0 w, Hp [] w0 w [bx d0 tQy (fQ (qV (addO a b))), ro tQy 6 v1 4 (L.flatMap fQ)] → K0 (pr d0 0) (.int .i64 (qE (addO a b))) w := by
  clear h
  intro d0 w h
  refine hK0 _ _ _ ?_
  clear hK0
  refine Jn2.mk fun K1 hK1 => ?_
  have lf1 : ∀ d1 w, Hp [] w0 w [bx d1 tQy (fQ (qV (addO a b))), bx d0 tQy (fQ (qV (addO a b))), ro tQy 6 v1 4 (L.flatMap fQ)] → K1 (pr d1 0) (.int .i64 (qE (addO a b))) w := by
   clear h
   intro d1 w h
   refine hK1 _ _ _ ?_
   clear hK1
   refine Jn2.mk fun K2 hK2 => ?_
   have lf1 : ∀ d2 w, Hp [] w0 w [bx d2 tQy (fQ (qV (subO a b))), bx d1 tQy (fQ (qV (addO a b))), bx d0 tQy (fQ (qV (addO a b))), ro tQy 6 v1 4 (L.flatMap fQ)] → K2 (pr d2 0) (.int .i64 (qE (subO a b))) w := by
    clear h
    intro d2 w h
    refine hK2 _ _ _ ?_
    clear hK2
    refine Jn2.mk fun K3 hK3 => ?_
    have lf1 : ∀ d3 w, Hp [] w0 w [bx d3 tQy (fQ (qV (subO a b))), bx d2 tQy (fQ (qV (subO a b))), bx d1 tQy (fQ (qV (addO a b))), bx d0 tQy (fQ (qV (addO a b))), ro tQy 6 v1 4 (L.flatMap fQ)] → K3 (pr d3 0) (.int .i64 (qE (subO a b))) w := by
     clear h
     intro d3 w h
     refine hK3 _ _ _ ?_
     clear hK3
     refine ldA h 3 rfl rfl ?_
     refine ldA h 2 rfl rfl ?_
     refine qyNeS ?_
     refine Gd_F (Gd_F (Gd_F (Bn_neF (by omega) (Pick_F (Gd_F (ldA h 1 rfl rfl ?_))))))
     refine Gd_F (ldA h 0 rfl rfl ?_)
     refine Gd_F (qyNeS ?_)
     refine Pick_F (Gd_F (Gd_F (Gd_F (Bn_neF (by omega) (Pick_F (If_F ?_))))))
     replace h := h.dr
     refine diR h 4 rfl (by omega) fun zg zk zv => ?_
     refine drA h 4 rfl ‹_› sa (by rfl) ?_
     refine diR h 4 rfl (by omega) fun zg zk zv => ?_
     refine drA h 4 rfl ‹_› sb (by rfl) ?_
     refine cl1 h n_unit_Mul (cc24 h.ext) fun w h => ?_
     refine ExP2 (stA h 3 rfl rfl rfl rfl fun w h => ?_)
     replace h := h.dr
     refine diR h 4 rfl (by omega) fun zg zk zv => ?_
     refine drA h 4 rfl ‹_› sa (by rfl) ?_
     refine diR h 4 rfl (by omega) fun zg zk zv => ?_
     refine drA h 4 rfl ‹_› sb (by rfl) ?_
     refine cl1 h n_ref05_Mul (cc25 h.ext) fun w h => ?_
     refine ExP2 (stA h 2 rfl rfl rfl rfl fun w h => ?_)
     replace h := h.dr
     refine diR h 4 rfl (by omega) fun zg zk zv => ?_
     refine drA h 4 rfl ‹_› sa (by rfl) ?_
     refine diR h 4 rfl (by omega) fun zg zk zv => ?_
     refine drA h 4 rfl ‹_› sb (by rfl) ?_
     refine cl1 h n_unit_Div (cc26 h.ext) fun w h => ?_
     refine ExP2 (stA h 1 rfl rfl rfl rfl fun w h => ?_)
     replace h := h.dr
     refine diR h 4 rfl (by omega) fun zg zk zv => ?_
     refine drA h 4 rfl ‹_› sa (by rfl) ?_
     refine diR h 4 rfl (by omega) fun zg zk zv => ?_
     refine drA h 4 rfl ‹_› sb (by rfl) ?_
     refine cl1 h n_ref05_Div (cc27 h.ext) fun w h => ?_
     refine ExP2 (stA h 0 rfl rfl rfl rfl fun w h => ?_)
     dsimp only [List.set] at h
     refine ldA h 3 rfl rfl ?_
     refine ldA h 2 rfl rfl ?_
     refine qyNeS ?_
     refine Gd_F (Gd_F (Gd_F (Bn_neF (by omega) (Pick_F (Gd_F (ldA h 1 rfl rfl ?_))))))
     refine Gd_F (ldA h 0 rfl rfl ?_)
     refine Gd_F (qyNeS ?_)
     refine Pick_F (Gd_F (Gd_F (Gd_F (Bn_neF (by omega) (Pick_F (If_F ?_))))))
     replace h := h.dr
     refine diR h 4 rfl (by omega) fun zg zk zv => ?_
     refine drA h 4 rfl ‹_› sa (by rfl) ?_
     refine diR h 4 rfl (by omega) fun zg zk zv => ?_
     refine drA h 4 rfl ‹_› sb (by rfl) ?_
     refine cl1 h n_unit_Compare (cc28 h.ext) fun w h => ?_
     refine ExP2 ?_
     replace h := h.dr
     refine diR h 4 rfl (by omega) fun zg zk zv => ?_
     refine drA h 4 rfl ‹_› sa (by rfl) ?_
     refine diR h 4 rfl (by omega) fun zg zk zv => ?_
     refine drA h 4 rfl ‹_› sb (by rfl) ?_
     refine cl1 h n_ref05_Compare (cc29 h.ext) fun w h => ?_
     refine ExP2 (Bn_neF (by omega) (Gd_F (Gd_F (Gd_F (Bn_neF (by omega) (Pick_F (If_F (Bn_ad (by omega) (by omega) ?_))))))))
     refine ⟨⟨k + 1, by omega, rfl, h.pick [4] (by decide) rfl⟩, ?_⟩
     show 4 - ((k : Int) + 1).toNat < 4 - (k : Int).toNat
     omega
    clear hK3
    replace h := h.dr
    refine diR h 3 rfl (by omega) fun zg zk zv => ?_
    refine drA h 3 rfl ‹_› sa (by rfl) ?_
    refine diR h 3 rfl (by omega) fun zg zk zv => ?_
    refine drA h 3 rfl ‹_› sb (by rfl) ?_
    refine ⟨?_, ?_⟩
    refine cl1 h n_ref05_Sub (cc23 h.ext) fun w h => ?_
    refine ExP2 (alS h fun g5 w h => ?_)
    refine krA h 4 rfl ‹_› sa (by rfl) ?_
    refine krA h 4 rfl ‹_› sb (by rfl) ?_
    refine stA h 0 rfl rfl rfl rfl fun w h => ?_
    exact lf1 _ _ h
    refine alS h fun g5 w h => ?_
    refine krA h 4 rfl ‹_› sa (by rfl) ?_
    refine krA h 4 rfl ‹_› sb (by rfl) ?_
    refine cl1 h n_ref05_Sub (cc23 h.ext) fun w h => ?_
    refine ExP2 (stA h 0 rfl rfl rfl rfl fun w h => ?_)
    exact lf1 _ _ h
   clear hK2
   replace h := h.dr
   refine diR h 2 rfl (by omega) fun zg zk zv => ?_
   refine drA h 2 rfl ‹_› sa (by rfl) ?_
   refine diR h 2 rfl (by omega) fun zg zk zv => ?_
   refine drA h 2 rfl ‹_› sb (by rfl) ?_
   refine ⟨?_, ?_⟩
   refine cl1 h n_unit_Sub (cc22 h.ext) fun w h => ?_
   refine ExP2 (alS h fun g5 w h => ?_)
   refine krA h 3 rfl ‹_› sa (by rfl) ?_
   refine krA h 3 rfl ‹_› sb (by rfl) ?_
   refine stA h 0 rfl rfl rfl rfl fun w h => ?_
   exact lf1 _ _ h
   refine alS h fun g5 w h => ?_
   refine krA h 3 rfl ‹_› sa (by rfl) ?_
   refine krA h 3 rfl ‹_› sb (by rfl) ?_
   refine cl1 h n_unit_Sub (cc22 h.ext) fun w h => ?_
   refine ExP2 (stA h 0 rfl rfl rfl rfl fun w h => ?_)
   exact lf1 _ _ h
  clear hK1
  replace h := h.dr
  refine diR h 1 rfl (by omega) fun zg zk zv => ?_
  refine drA h 1 rfl ‹_› sa (by rfl) ?_
  refine diR h 1 rfl (by omega) fun zg zk zv => ?_
  refine drA h 1 rfl ‹_› sb (by rfl) ?_
  refine ⟨?_, ?_⟩
  refine cl1 h n_ref05_Add (cc21 h.ext) fun w h => ?_
  refine ExP2 (alS h fun g5 w h => ?_)
  refine krA h 2 rfl ‹_› sa (by rfl) ?_
  refine krA h 2 rfl ‹_› sb (by rfl) ?_
  refine stA h 0 rfl rfl rfl rfl fun w h => ?_
  exact lf1 _ _ h
  refine alS h fun g5 w h => ?_
  refine krA h 2 rfl ‹_› sa (by rfl) ?_
  refine krA h 2 rfl ‹_› sb (by rfl) ?_
  refine cl1 h n_ref05_Add (cc21 h.ext) fun w h => ?_
  refine ExP2 (stA h 0 rfl rfl rfl rfl fun w h => ?_)
  exact lf1 _ _ h
 clear hK0
 replace h := h.dr
 refine diR h 0 rfl (by omega) fun zg zk zv => ?_
 refine drA h 0 rfl ‹_› sa (by rfl) ?_
 refine diR h 0 rfl (by omega) fun zg zk zv => ?_
 refine drA h 0 rfl ‹_› sb (by rfl) ?_
 refine ⟨?_, ?_⟩
 refine cl1 h n_unit_Add (cc20 h.ext) fun w h => ?_
 refine ExP2 (alS h fun g5 w h => ?_)
 refine krA h 1 rfl ‹_› sa (by rfl) ?_
 refine krA h 1 rfl ‹_› sb (by rfl) ?_
 refine stA h 0 rfl rfl rfl rfl fun w h => ?_
 exact lf1 _ _ h
 refine alS h fun g5 w h => ?_
 refine krA h 1 rfl ‹_› sa (by rfl) ?_
 refine krA h 1 rfl ‹_› sb (by rfl) ?_
 refine cl1 h n_unit_Add (cc20 h.ext) fun w h => ?_
 refine ExP2 (stA h 0 rfl rfl rfl rfl fun w h => ?_)
 exact lf1 _ _ h
end Go.Proofs.YtdbcpkihokagkaaGreatDoor
