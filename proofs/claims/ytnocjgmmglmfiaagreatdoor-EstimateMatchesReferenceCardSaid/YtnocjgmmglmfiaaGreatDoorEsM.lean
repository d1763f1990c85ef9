/-
  Contracts and plain lemmas. By an AI agent.
-/
import Derived.Test.YtnocjgmmglmfiaaGreatDoorEsI
import Derived.Test.YtnocjgmmglmfiaaGreatDoorTyp
set_option linter.unusedSimpArgs false
set_option linter.unusedVariables false
set_option linter.unusedSectionVars false
namespace Go.Proofs.YtnocjgmmglmfiaaGreatDoor
open Go Go.Eng Go.Proofs Go.Num Go.RowKit
set_option maxRecDepth 100000
set_option linter.unusedVariables false
set_option linter.unusedSectionVars false
abbrev RS := List UInt8 × List UInt8
abbrev tx (x : Rat) : RS := (Lib.itoa x.num, Lib.itoa (x.den : Int))
abbrev fR (p : RS) : List Value := [str p.1, str p.2]
abbrev fE (e : El) : List Value := [str (Lib.itoa e.1.num), str (Lib.itoa (e.1.den : Int)), str (Lib.itoa e.2.num), str (Lib.itoa (e.2.den : Int))]
open Classical in
noncomputable def qv (p : RS) : Option Rat := if h : okR p.1 p.2 then some (Classical.choose h) else none
theorem qv_none {p : RS} (h : ¬ okR p.1 p.2) : qv p = none := by unfold qv; rw [dif_neg h]
theorem tx_inj {x y : Rat} (h : tx x = tx y) : x = y := by
  unfold tx at h
  simp only [Prod.mk.injEq] at h
  have h1 := itoa_inj h.1
  have h2 := itoa_inj h.2
  exact Rat.ext h1 (by omega)
theorem qv_tx {x : Rat} (h : RB x) : qv (tx x) = some x := by
  have ho : okR (tx x).1 (tx x).2 := ⟨x, rfl, rfl, h⟩
  unfold qv
  rw [dif_pos ho]
  have hs := Classical.choose_spec ho
  have : tx (Classical.choose ho) = tx x := Prod.ext hs.1.symm hs.2.1.symm
  rw [tx_inj this]
theorem qv_ex {p : RS} (h : okR p.1 p.2) : ∃ x, p = tx x ∧ RB x ∧ qv p = some x := by
  obtain ⟨x, h1, h2, h3⟩ := h
  have hp : p = tx x := Prod.ext h1 h2
  exact ⟨x, hp, h3, by rw [hp]; exact qv_tx h3⟩
noncomputable def toEl (a : RS × RS) : Option El :=
  match qv a.1, qv a.2 with
  | some x, some p => if 0 < p ∧ p ≤ 1 then some (x, p) else none
  | _, _ => none
noncomputable def allE : List (RS × RS) → Option (List El)
  | [] => some []
  | a :: l => match toEl a, allE l with
    | some e, some r => some (e :: r)
    | _, _ => none
theorem allE_snoc : ∀ {l : List (RS × RS)} {r : List El} {a : RS × RS} {e : El}, allE l = some r → toEl a = some e → allE (l ++ [a]) = some (r ++ [e])
  | [], r, a, e, h, he => by cases h; simp [allE, he]
  | x :: l, r, a, e, h, he => by
    unfold allE at h
    split at h
    · next e' r' h1 h2 =>
      cases h
      simp only [List.cons_append]
      unfold allE
      rw [h1, allE_snoc h2 he]
    · cases h
theorem allE_bad : ∀ (l : List (RS × RS)) {a : RS × RS} (m : List (RS × RS)), toEl a = none → allE (l ++ a :: m) = none
  | [], a, m, he => by simp [allE, he]
  | x :: l, a, m, he => by simp [allE, allE_bad l m he]
theorem allE_len : ∀ {l : List (RS × RS)} {r : List El}, allE l = some r → r.length = l.length
  | [], r, h => by cases h; rfl
  | x :: l, r, h => by
    unfold allE at h
    split at h
    · next e' r' h1 h2 => cases h; simp [allE_len h2]
    · cases h
noncomputable def elsOf (lx lp : List RS) : Option (List El) := if lx.length = lp.length ∧ lx.length ≤ 400 then allE (lx.zip lp) else none
def RSok (l : List RS) : Prop := ∀ p ∈ l, p.1.length ≤ 1000000 ∧ p.2.length ≤ 1000000
def SlR (w : World) (v : Value) (l : List RS) : Prop := SlC w 2 v l.length (l.flatMap fR)
theorem o_cmp {x y : Rat} {w : World} (hx : RB x) (hy : RB y) (hT : Tab w) : Calls Tryz.prog 21 #[fq x, fq y] w (Ret fun r w' => Ext w w' ∧ r = .int .i64 (cmpQ x y)) := by
  have := c_qCmp (w := w) (itoa_ok hx.n) (itoa_ok hx.d) (itoa_ok hy.n) (itoa_ok hy.d) hT
  rw [ans2_ok hx hy] at this; exact this
theorem o_fcmp {x y : Rat} {w : World} (hx : RB x) (hy : RB y) : Calls Tryz.prog 66 #[fq x, fq y] w (Ret fun r w' => Ext w w' ∧ r = .int .i64 (cmpQ x y)) := fCmp_ok hx hy
theorem rb0 : RB (0 : Rat) := Sml.rb ⟨by unfold Sz; decide, by unfold Sz; decide⟩
theorem rb1 : RB (1 : Rat) := Sml.rb Sml.one
theorem fq0 : fq 0 = .agg #[str [48], str [49]] := zero_ov
theorem fq1 : fq 1 = .agg #[str [49], str [49]] := one_ov
theorem toEl_ok {x p : Rat} (hx : RB x) (hp : RB p) (h0 : 0 < p) (h1 : p ≤ 1) : toEl (tx x, tx p) = some (x, p) := by
  unfold toEl; simp only [qv_tx hx, qv_tx hp]; rw [if_pos ⟨h0, h1⟩]
theorem toEl_no {x p : Rat} (hx : RB x) (hp : RB p) (h : ¬ (0 < p ∧ p ≤ 1)) : toEl (tx x, tx p) = none := by
  unfold toEl; simp only [qv_tx hx, qv_tx hp]; rw [if_neg h]
theorem toEl_n1 {a b : RS} (h : ¬ okR a.1 a.2) : toEl (a, b) = none := by unfold toEl; simp only [qv_none h]
theorem toEl_n2 {a b : RS} (h : ¬ okR b.1 b.2) : toEl (a, b) = none := by
  unfold toEl; simp only [qv_none h]
  split
  · next h1 h2 => cases h2
  · rfl
theorem cmp_le (x y : Rat) : cmpQ x y ≤ 0 ↔ x ≤ y := by
  rcases cmpQ_cases x y with ⟨h, e⟩ | ⟨h, e⟩ | ⟨h, e⟩ <;> rw [e]
  · exact ⟨fun _ => Rat.le_of_lt h, fun _ => by decide⟩
  · exact ⟨fun _ => by rw [h]; exact Rat.le_refl, fun _ => by decide⟩
  · exact ⟨fun hc => absurd hc (by decide), fun hc => absurd h (Rat.not_lt.2 hc)⟩
def ElsP (w : World) (lx lp : List RS) (r : Value) (w' : World) : Prop :=
  Ext w w' ∧ ((∃ l v, elsOf lx lp = some l ∧ r = .tuple #[v, .bool true] ∧ w'.ownsRow w.heap.size tEl 4 v l.length (l.flatMap fE)) ∨ (elsOf lx lp = none ∧ r = .tuple #[.slice none 0 0, .bool false]))
theorem ElsP.bad {w w' : World} {lx lp : List RS} (x : Ext w w') (h : elsOf lx lp = none) : ElsP w lx lp (.tuple #[.slice none 0 0, .bool false]) w' := ⟨x, .inr ⟨h, rfl⟩⟩
theorem zip_at {lx lp : List RS} {j : Nat} {a b : RS} (ha : lx[j]? = some a) (hb : lp[j]? = some b) : lx.zip lp = (lx.zip lp).take j ++ (a, b) :: (lx.zip lp).drop (j + 1) := by
  have : (lx.zip lp)[j]? = some (a, b) := List.getElem?_zip_eq_some.2 ⟨ha, hb⟩
  obtain ⟨h1, h2⟩ := List.getElem?_eq_some_iff.1 this
  rw [← h2, ← List.drop_eq_getElem_cons h1, List.take_append_drop]
theorem _root_.Go.Eng.Hp.own0 {S : List Nat} {w0 w : World} {L : List Et} (h : Hp S w0 w L) {i : Nat} {e : TypeId} {c n : Nat} {v : Value} {xs : List Value} (hi : L[i]? = some (ro e c v n xs)) (hS : S = []) : w.ownsRow w0.heap.size e c v n xs := by
  have ho := h.get hi
  have hk := h.ks _ (List.mem_of_getElem? hi)
  obtain ⟨h1, h2 | ⟨g, cap, cur, h2, _, h3⟩⟩ := ho
  · exact ⟨h1, .inl h2⟩
  · refine ⟨h1, .inr ⟨g, cap, cur, h2, ?_, h3⟩⟩
    subst hS
    have := (hk g (by rw [h2]; simp [Value.ownBlock])).2
    simpa using this
set_option maxHeartbeats 2000000 in
theorem c_elements {w0 : World} {vx vp : Value} {lx lp : List RS} (hx : SlR w0 vx lx) (hp : SlR w0 vp lp) (kx : RSok lx) (kp : RSok lp) (hz : ZO w0) (hT : Tab w0) :
    Calls Tryz.prog 31 #[vx, vp] w0 (Ret (ElsP w0 lx lp)) := by
  have hx : SlC w0 2 vx lx.length (lx.flatMap fR) := hx
  have hp : SlC w0 2 vp lp.length (lp.flatMap fR) := hp
  apply e_estimate_elements
  unfold s_estimate_elements
  have h := Hp.init [] w0
  by_cases hlen : lx.length = lp.length
  rotate_left
  · refine leS (hx.hp h) ?_
    refine leS (hp.hp h) ?_
    refine Bn_neT (by omega) ?_
    iterate 3 refine Gd_TF ?_
    refine Pick_T ?_
    refine If_T ?_
    exact Ret.mk (ElsP.bad h.ext (by unfold elsOf; rw [if_neg (by omega)]))
  by_cases h400 : lx.length ≤ 400
  rotate_left
  · refine leS (hx.hp h) ?_
    refine leS (hp.hp h) ?_
    refine Bn_neF (by omega) ?_
    iterate 2 refine Gd_F ?_
    refine leS (hx.hp h) ?_
    refine Gd_F ?_
    refine Bn_gtT (by omega) ?_
    refine Pick_F ?_
    refine If_T ?_
    exact Ret.mk (ElsP.bad h.ext (by unfold elsOf; rw [if_neg (by omega)]))
  refine leS (hx.hp h) ?_
  refine leS (hp.hp h) ?_
  refine Bn_neF (by omega) ?_
  iterate 2 refine Gd_F ?_
  refine leS (hx.hp h) ?_
  refine Gd_F ?_
  refine Bn_gtF (by omega) ?_
  refine Pick_F ?_
  refine If_F ?_
  refine leS (hx.hp h) ?_
  have hels : elsOf lx lp = allE (lx.zip lp) := by unfold elsOf; rw [if_pos ⟨hlen, h400⟩]
  have h := h.nil tEl 4
  refine Lp2.mk (fun v i W => ∃ (j : Nat) (l : List El), j ≤ lx.length ∧ i = .int .i64 j ∧ allE ((lx.zip lp).take j) = some l ∧ Hp [] w0 W [ro tEl 4 v l.length (l.flatMap fE)])
    (fun _ i _ => match i with | .int _ i' => lx.length - i'.toNat | _ => 0) ⟨0, [], by omega, rfl, by simp [allE], h⟩ ?_
  clear h
  rintro v _ W ⟨j, l, hj, rfl, hl, h⟩
  have hll : l.length = j := by rw [allE_len hl, List.length_take, List.length_zip]; omega
  by_cases hjl : j < lx.length
  rotate_left
  · refine Bn_ltF (by omega) ?_
    refine If_F ?_
    have : (lx.zip lp).take j = lx.zip lp := List.take_of_length_le (by rw [List.length_zip]; omega)
    rw [this] at hl
    exact Ret.mk ⟨h.ext, .inl ⟨l, v, by rw [hels, hl], rfl, h.own0 (i := 0) rfl rfl⟩⟩
  have hjp : j < lp.length := by omega
  refine Exists.elim (p := fun a => lx[j]? = some a) ⟨_, List.getElem?_eq_getElem hjl⟩ fun a ha => ?_
  refine Exists.elim (p := fun b => lp[j]? = some b) ⟨_, List.getElem?_eq_getElem hjp⟩ fun b hb => ?_
  have sa : Seg (lx.flatMap fR) (j * 2) [str a.1, str a.2] := flat_seg (f := fR) (fun _ => rfl) ha
  have sb : Seg (lp.flatMap fR) (j * 2) [str b.1, str b.2] := flat_seg (f := fR) (fun _ => rfl) hb
  have ka := kx a (List.mem_of_getElem? ha)
  have kb := kp b (List.mem_of_getElem? hb)
  have hzip := zip_at ha hb
  have bad : toEl (a, b) = none → elsOf lx lp = none := fun h => by rw [hels, hzip]; exact allE_bad _ _ h
  have hT' := fun {W} (h : Ext w0 W) => hT.ext h
  by_cases oa : okR a.1 a.2
  rotate_left
  · have cc1 := fun {W : World} (h : Ext w0 W) => c_qValid (w := W) ka.1 ka.2 (hT.ext h)
    rw [okB_f oa] at cc1
    refine Bn_ltT (by omega) ?_
    refine If_T ?_
    replace h := h.dr
    refine diH h (by assumption) (by omega) fun zb zo zk zv zc => ?_
    refine dhA h (by assumption) (by assumption) (by rfl) ?_
    refine cl1 h n_rational_Valid (cc1 h.ext) fun w h => ?_
    refine Dv_nF ?_
    iterate 4 refine GdP_TF ?_
    refine Gd_TF ?_
    refine GdP_TF ?_
    refine PickP_T ?_
    iterate 5 refine GdP_TF ?_
    refine Gd_TF ?_
    refine GdP_TF ?_
    refine PickP_T ?_
    iterate 5 refine GdP_TF ?_
    refine Gd_TF ?_
    refine GdP_TF ?_
    refine PickP_T ?_
    refine If_T ?_
    exact Ret.mk (ElsP.bad h.ext (bad (toEl_n1 oa)))
  have cc1 := fun {W : World} (h : Ext w0 W) => c_qValid (w := W) ka.1 ka.2 (hT.ext h)
  rw [okB_t oa] at cc1
  by_cases ob : okR b.1 b.2
  rotate_left
  · have cc2 := fun {W : World} (h : Ext w0 W) => c_qValid (w := W) kb.1 kb.2 (hT.ext h)
    rw [okB_f ob] at cc2
    refine Bn_ltT (by omega) ?_
    refine If_T ?_
    replace h := h.dr
    refine diH h (by assumption) (by omega) fun zb zo zk zv zc => ?_
    refine dhA h (by assumption) (by assumption) (by rfl) ?_
    refine cl1 h n_rational_Valid (cc1 h.ext) fun w h => ?_
    refine Dv_nT ?_
    iterate 3 refine GdP_F ?_
    refine diH h (by assumption) (by omega) fun zb zo zk zv zc => ?_
    refine GdP_F ?_
    refine dhA h (by assumption) (by assumption) (by rfl) ?_
    refine Gd_F ?_
    refine cl1 h n_rational_Valid (cc2 h.ext) fun w h => ?_
    refine GdP_F ?_
    refine Dv_nF ?_
    refine PickP_F ?_
    iterate 5 refine GdP_TF ?_
    refine Gd_TF ?_
    refine GdP_TF ?_
    refine PickP_T ?_
    iterate 5 refine GdP_TF ?_
    refine Gd_TF ?_
    refine GdP_TF ?_
    refine PickP_T ?_
    refine If_T ?_
    exact Ret.mk (ElsP.bad h.ext (bad (toEl_n2 ob)))
  have cc2 := fun {W : World} (h : Ext w0 W) => c_qValid (w := W) kb.1 kb.2 (hT.ext h)
  rw [okB_t ob] at cc2
  refine Exists.elim (qv_ex oa) fun x hx' => ?_
  refine Exists.elim (qv_ex ob) fun p hp' => ?_
  have eab : (a, b) = (tx x, tx p) := by rw [hx'.1, hp'.1]
  have cc3 : ∀ {W : World}, Ext w0 W → Calls Tryz.prog 21 #[.agg #[str b.1, str b.2], .agg #[str [48], str [49]]] W (Ret fun r w' => Ext W w' ∧ r = .int .i64 (cmpQ p 0)) := fun h => by
    rw [hp'.1, ← fq0]; exact o_cmp hp'.2.1 rb0 (hT.ext h)
  have cc4 : ∀ {W : World}, Ext w0 W → Calls Tryz.prog 21 #[.agg #[str b.1, str b.2], .agg #[str [49], str [49]]] W (Ret fun r w' => Ext W w' ∧ r = .int .i64 (cmpQ p 1)) := fun h => by
    rw [hp'.1, ← fq1]; exact o_cmp hp'.2.1 rb1 (hT.ext h)
  have z0 := hz.1
  have z1 := hz.2
  by_cases p0 : 0 < p
  rotate_left
  · have hcm : cmpQ p 0 ≤ 0 := (cmp_le p 0).2 (Rat.not_lt.1 p0)
    refine Bn_ltT (by omega) ?_
    refine If_T ?_
    replace h := h.dr
    refine diH h (by assumption) (by omega) fun zb zo zk zv zc => ?_
    refine dhA h (by assumption) (by assumption) (by rfl) ?_
    refine cl1 h n_rational_Valid (cc1 h.ext) fun w h => ?_
    refine Dv_nT ?_
    iterate 3 refine GdP_F ?_
    refine diH h (by assumption) (by omega) fun zb zo zk zv zc => ?_
    refine GdP_F ?_
    refine dhA h (by assumption) (by assumption) (by rfl) ?_
    refine Gd_F ?_
    refine cl1 h n_rational_Valid (cc2 h.ext) fun w h => ?_
    refine GdP_F ?_
    refine Dv_nT ?_
    refine PickP_F ?_
    iterate 3 refine GdP_F ?_
    refine diH h (by assumption) (by omega) fun zb zo zk zv zc => ?_
    refine GdP_F ?_
    refine dhA h (by assumption) (by assumption) (by rfl) ?_
    refine GdP_F ?_
    refine dgA h (by assumption) (by rfl) ?_
    refine Gd_F ?_
    refine cl1 h n_rational_Compare (cc3 h.ext) fun w h => ?_
    refine GdP_F ?_
    refine Dv_leT (by omega) ?_
    refine PickP_F ?_
    iterate 5 refine GdP_TF ?_
    refine Gd_TF ?_
    refine GdP_TF ?_
    refine PickP_T ?_
    refine If_T ?_
    exact Ret.mk (ElsP.bad h.ext (bad (by rw [eab]; exact toEl_no hx'.2.1 hp'.2.1 (fun hc => p0 hc.1))))
  have hcm : 0 < cmpQ p 0 := by
    have := mt (cmp_le p 0).1 (Rat.not_le.2 p0); omega
  by_cases p1 : p ≤ 1
  rotate_left
  · have hcm1 : 0 < cmpQ p 1 := by
      have := mt (cmp_le p 1).1 p1; omega
    refine Bn_ltT (by omega) ?_
    refine If_T ?_
    replace h := h.dr
    refine diH h (by assumption) (by omega) fun zb zo zk zv zc => ?_
    refine dhA h (by assumption) (by assumption) (by rfl) ?_
    refine cl1 h n_rational_Valid (cc1 h.ext) fun w h => ?_
    refine Dv_nT ?_
    iterate 3 refine GdP_F ?_
    refine diH h (by assumption) (by omega) fun zb zo zk zv zc => ?_
    refine GdP_F ?_
    refine dhA h (by assumption) (by assumption) (by rfl) ?_
    refine Gd_F ?_
    refine cl1 h n_rational_Valid (cc2 h.ext) fun w h => ?_
    refine GdP_F ?_
    refine Dv_nT ?_
    refine PickP_F ?_
    iterate 3 refine GdP_F ?_
    refine diH h (by assumption) (by omega) fun zb zo zk zv zc => ?_
    refine GdP_F ?_
    refine dhA h (by assumption) (by assumption) (by rfl) ?_
    refine GdP_F ?_
    refine dgA h (by assumption) (by rfl) ?_
    refine Gd_F ?_
    refine cl1 h n_rational_Compare (cc3 h.ext) fun w h => ?_
    refine GdP_F ?_
    refine Dv_leF (by omega) ?_
    refine PickP_F ?_
    iterate 3 refine GdP_F ?_
    refine diH h (by assumption) (by omega) fun zb zo zk zv zc => ?_
    refine GdP_F ?_
    refine dhA h (by assumption) (by assumption) (by rfl) ?_
    refine GdP_F ?_
    refine dgA h (by assumption) (by rfl) ?_
    refine Gd_F ?_
    refine cl1 h n_rational_Compare (cc4 h.ext) fun w h => ?_
    refine GdP_F ?_
    refine Dv_gtT (by omega) ?_
    refine PickP_F ?_
    refine If_T ?_
    exact Ret.mk (ElsP.bad h.ext (bad (by rw [eab]; exact toEl_no hx'.2.1 hp'.2.1 (fun hc => p1 hc.2))))
  have hcm1 : cmpQ p 1 ≤ 0 := (cmp_le p 1).2 p1
  refine Bn_ltT (by omega) ?_
  refine If_T ?_
  replace h := h.dr
  refine diH h (by assumption) (by omega) fun zb zo zk zv zc => ?_
  refine dhA h (by assumption) (by assumption) (by rfl) ?_
  refine cl1 h n_rational_Valid (cc1 h.ext) fun w h => ?_
  refine Dv_nT ?_
  iterate 3 refine GdP_F ?_
  refine diH h (by assumption) (by omega) fun zb zo zk zv zc => ?_
  refine GdP_F ?_
  refine dhA h (by assumption) (by assumption) (by rfl) ?_
  refine Gd_F ?_
  refine cl1 h n_rational_Valid (cc2 h.ext) fun w h => ?_
  refine GdP_F ?_
  refine Dv_nT ?_
  refine PickP_F ?_
  iterate 3 refine GdP_F ?_
  refine diH h (by assumption) (by omega) fun zb zo zk zv zc => ?_
  refine GdP_F ?_
  refine dhA h (by assumption) (by assumption) (by rfl) ?_
  refine GdP_F ?_
  refine dgA h (by assumption) (by rfl) ?_
  refine Gd_F ?_
  refine cl1 h n_rational_Compare (cc3 h.ext) fun w h => ?_
  refine GdP_F ?_
  refine Dv_leF (by omega) ?_
  refine PickP_F ?_
  iterate 3 refine GdP_F ?_
  refine diH h (by assumption) (by omega) fun zb zo zk zv zc => ?_
  refine GdP_F ?_
  refine dhA h (by assumption) (by assumption) (by rfl) ?_
  refine GdP_F ?_
  refine dgA h (by assumption) (by rfl) ?_
  refine Gd_F ?_
  refine cl1 h n_rational_Compare (cc4 h.ext) fun w h => ?_
  refine GdP_F ?_
  refine Dv_gtF (by omega) ?_
  refine PickP_F ?_
  refine If_F ?_
  replace h := h.dr
  refine diH h (by assumption) (by omega) fun zb zo zk zv zc => ?_
  refine dhA h (by assumption) (by assumption) (by rfl) ?_
  refine diH h (by assumption) (by omega) fun zb zo zk zv zc => ?_
  refine dhA h (by assumption) (by assumption) (by rfl) ?_
  refine dbS (PC.cons (by rfl) (PC.cons (by rfl) PC.nil)) (by rfl) ?_
  refine bs1A h (by rfl) (by decide) (by rfl) (by decide) fun v1 w h => ?_
  refine apR (by rfl) (by decide) h 1 rfl (h.sl (i := 0) rfl) (by first | rfl | assumption) (by omega) fun v2 w h => ?_
  refine Bn_ad (by omega) (by omega) ?_
  dsimp only [List.set] at h
  have hsn : (lx.zip lp).take (j + 1) = (lx.zip lp).take j ++ [(a, b)] := by
    rw [List.take_add_one, show (lx.zip lp)[j]? = some (a, b) from List.getElem?_zip_eq_some.2 ⟨ha, hb⟩]; rfl
  have hfe : l.flatMap fE ++ [str a.1, str a.2, str b.1, str b.2] = (l ++ [(x, p)]).flatMap fE := by rw [List.flatMap_append, hx'.1, hp'.1]; rfl
  have hll2 : l.length + 1 = (l ++ [(x, p)]).length := by simp
  have h := h.drop 1
  rw [hfe, hll2] at h
  exact ⟨⟨j + 1, l ++ [(x, p)], by omega, rfl, by rw [hsn]; exact allE_snoc hl (by rw [eab]; exact toEl_ok hx'.2.1 hp'.2.1 p0 p1), h⟩, by show lx.length - ((j : Int) + 1).toNat < lx.length - (j : Int).toNat; omega⟩
abbrev fO (o : Option Rat) : List Value := [str (eN o), str (eD o)]
abbrev fX (e : El) : List Value := [str (eN (some e.1)), str (eD (some e.1))]
abbrev fP (e : El) : List Value := [str (eN (some e.2)), str (eD (some e.2))]
theorem toEl_some {a : RS × RS} {e : El} (h : toEl a = some e) : a = (tx e.1, tx e.2) ∧ El.ok e ∧ 0 < e.2 ∧ e.2 ≤ 1 := by
  obtain ⟨a, b⟩ := a
  by_cases oa : okR a.1 a.2
  rotate_left
  · rw [toEl_n1 oa] at h; cases h
  by_cases ob : okR b.1 b.2
  rotate_left
  · rw [toEl_n2 ob] at h; cases h
  obtain ⟨x, rfl, hx, _⟩ := qv_ex oa
  obtain ⟨p, rfl, hp, _⟩ := qv_ex ob
  by_cases hh : 0 < p ∧ p ≤ 1
  · rw [toEl_ok hx hp hh.1 hh.2] at h
    cases h
    exact ⟨rfl, ⟨hx, hp⟩, hh⟩
  · rw [toEl_no hx hp hh] at h; cases h
def Good (l : List El) : Prop := ∀ e ∈ l, El.ok e ∧ 0 < e.2 ∧ e.2 ≤ 1
theorem allE_some : ∀ {l : List (RS × RS)} {r : List El}, allE l = some r → l = r.map (fun e => (tx e.1, tx e.2)) ∧ Good r
  | [], r, h => by cases h; exact ⟨rfl, fun e he => by simp at he⟩
  | a :: l, r, h => by
    unfold allE at h
    split at h
    · next e r' h1 h2 =>
      cases h
      obtain ⟨i1, i2⟩ := allE_some h2
      obtain ⟨j1, j2⟩ := toEl_some h1
      refine ⟨by rw [i1, j1]; rfl, fun x hx => ?_⟩
      rcases List.mem_cons.1 hx with rfl | hx
      · exact j2
      · exact i2 x hx
    · cases h
theorem zip_map {α β γ : Type} {f : γ → α} {g : γ → β} : ∀ {l : List α} {m : List β} {r : List γ}, l.length = m.length → l.zip m = r.map (fun e => (f e, g e)) → l = r.map f ∧ m = r.map g
  | [], [], r, _, h => by cases r with | nil => exact ⟨rfl, rfl⟩ | cons a r => simp at h
  | a :: l, b :: m, [], _, h => by simp at h
  | a :: l, b :: m, e :: r, hl, h => by
    simp at h hl
    obtain ⟨i1, i2⟩ := zip_map (f := f) (g := g) hl h.2
    exact ⟨by rw [List.map_cons, ← i1, h.1.1], by rw [List.map_cons, ← i2, h.1.2]⟩
theorem elsOf_some {lx lp : List RS} {l : List El} (h : elsOf lx lp = some l) : lx = l.map (fun e => tx e.1) ∧ lp = l.map (fun e => tx e.2) ∧ Good l ∧ l.length ≤ 400 := by
  unfold elsOf at h
  split at h
  · next h1 =>
    obtain ⟨i1, i2⟩ := allE_some h
    obtain ⟨j1, j2⟩ := zip_map (f := fun e : El => tx e.1) (g := fun e : El => tx e.2) h1.1 i1
    refine ⟨j1, j2, i2, ?_⟩
    have := h1.2
    rw [j1] at this
    simpa using this
  · cases h
theorem allE_map : ∀ {l : List El}, Good l → allE (l.map fun e => (tx e.1, tx e.2)) = some l
  | [], _ => rfl
  | e :: l, h => by
    have he := h e (by simp)
    rw [List.map_cons]
    unfold allE
    rw [toEl_ok he.1.1 he.1.2 he.2.1 he.2.2, allE_map (fun x hx => h x (by simp [hx]))]
theorem elsOf_map {l : List El} (h : Good l) (hl : l.length ≤ 400) : elsOf (l.map fun e => tx e.1) (l.map fun e => tx e.2) = some l := by
  unfold elsOf
  rw [if_pos ⟨by simp, by simpa using hl⟩, List.zip_map', allE_map h]
theorem SlR.x {w : World} {v : Value} {l : List El} (h : SlR w v (l.map fun e => tx e.1)) : SlC w 2 v l.length (l.flatMap fX) := by
  unfold SlR at h
  rw [List.length_map, List.flatMap_map] at h
  exact h
theorem SlR.p {w : World} {v : Value} {l : List El} (h : SlR w v (l.map fun e => tx e.2)) : SlC w 2 v l.length (l.flatMap fP) := by
  unfold SlR at h
  rw [List.length_map, List.flatMap_map] at h
  exact h
theorem SlR.ofx {w : World} {v : Value} {l : List El} (h : SlC w 2 v l.length (l.flatMap fX)) : SlR w v (l.map fun e => tx e.1) := by
  unfold SlR
  rw [List.length_map, List.flatMap_map]
  exact h
theorem SlR.ofp {w : World} {v : Value} {l : List El} (h : SlC w 2 v l.length (l.flatMap fP)) : SlR w v (l.map fun e => tx e.2) := by
  unfold SlR
  rw [List.length_map, List.flatMap_map]
  exact h
theorem o_w0 {w : World} : Calls Tryz.prog 41 #[.int .i64 0] w (Ret fun r w' => Ext w w' ∧ r = ov (some 0)) := r_whole (by decide) (by decide)
theorem o_w1 {w : World} : Calls Tryz.prog 41 #[.int .i64 1] w (Ret fun r w' => Ext w w' ∧ r = ov (some 1)) := r_whole (by decide) (by decide)
set_option maxHeartbeats 2000000 in
theorem c_fElements {w0 : World} {vx vp : Value} {lx lp : List RS} (hx : SlR w0 vx lx) (hp : SlR w0 vp lp) (kx : RSok lx) (kp : RSok lp) :
    Calls Tryz.prog 34 #[vx, vp] w0 (Ret fun r w' => Ext w0 w' ∧ r = .bool (elsOf lx lp).isSome) := by
  have hx : SlC w0 2 vx lx.length (lx.flatMap fR) := hx
  have hp : SlC w0 2 vp lp.length (lp.flatMap fR) := hp
  apply e_ref16_Elements
  unfold s_ref16_Elements
  have h := Hp.init [] w0
  have bad : ∀ {w}, Ext w0 w → elsOf lx lp = none → Ret (fun r w' => Ext w0 w' ∧ r = .bool (elsOf lx lp).isSome) (.returned (.bool false)) w := fun x h => Ret.mk ⟨x, by rw [h]; rfl⟩
  by_cases hlen : lx.length = lp.length
  rotate_left
  · refine leS (hx.hp h) ?_
    refine leS (hp.hp h) ?_
    refine Bn_neT (by omega) ?_
    iterate 3 refine Gd_TF ?_
    refine Pick_T ?_
    refine If_T ?_
    exact bad h.ext (by unfold elsOf; rw [if_neg (by omega)])
  by_cases h400 : lx.length ≤ 400
  rotate_left
  · refine leS (hx.hp h) ?_
    refine leS (hp.hp h) ?_
    refine Bn_neF (by omega) ?_
    iterate 2 refine Gd_F ?_
    refine leS (hx.hp h) ?_
    refine Gd_F ?_
    refine Bn_gtT (by omega) ?_
    refine Pick_F ?_
    refine If_T ?_
    exact bad h.ext (by unfold elsOf; rw [if_neg (by omega)])
  refine leS (hx.hp h) ?_
  refine leS (hp.hp h) ?_
  refine Bn_neF (by omega) ?_
  iterate 2 refine Gd_F ?_
  refine leS (hx.hp h) ?_
  refine Gd_F ?_
  refine Bn_gtF (by omega) ?_
  refine Pick_F ?_
  refine If_F ?_
  have hels : elsOf lx lp = allE (lx.zip lp) := by unfold elsOf; rw [if_pos ⟨hlen, h400⟩]
  refine Lp1.mk (fun i W => ∃ (j : Nat) (l : List El), j ≤ lx.length ∧ i = .int .i64 j ∧ allE ((lx.zip lp).take j) = some l ∧ Hp [] w0 W [])
    (fun i _ => match i with | .int _ i' => lx.length - i'.toNat | _ => 0) ⟨0, [], by omega, rfl, by simp [allE], h⟩ ?_
  clear h
  rintro _ W ⟨j, l, hj, rfl, hl, h⟩
  by_cases hjl : j < lx.length
  rotate_left
  · refine leS (hx.hp h) ?_
    refine Bn_ltF (by omega) ?_
    refine If_F ?_
    have : (lx.zip lp).take j = lx.zip lp := List.take_of_length_le (by rw [List.length_zip]; omega)
    rw [this] at hl
    exact Ret.mk ⟨h.ext, by rw [hels, hl]; rfl⟩
  have hjp : j < lp.length := by omega
  refine Exists.elim (p := fun a => lx[j]? = some a) ⟨_, List.getElem?_eq_getElem hjl⟩ fun a ha => ?_
  refine Exists.elim (p := fun b => lp[j]? = some b) ⟨_, List.getElem?_eq_getElem hjp⟩ fun b hb => ?_
  have sa : Seg (lx.flatMap fR) (j * 2) [str a.1, str a.2] := flat_seg (f := fR) (fun _ => rfl) ha
  have sb : Seg (lp.flatMap fR) (j * 2) [str b.1, str b.2] := flat_seg (f := fR) (fun _ => rfl) hb
  have ka := kx a (List.mem_of_getElem? ha)
  have kb := kp b (List.mem_of_getElem? hb)
  have hzip := zip_at ha hb
  have badj : toEl (a, b) = none → elsOf lx lp = none := fun h => by rw [hels, hzip]; exact allE_bad _ _ h
  have cc1 := fun {W : World} (h : Ext w0 W) => c_fValid (w := W) ka.1 ka.2
  have cc2 := fun {W : World} (h : Ext w0 W) => c_fValid (w := W) kb.1 kb.2
  by_cases oa : okR a.1 a.2
  rotate_left
  · rw [okB_f oa] at cc1
    refine leS (hx.hp h) ?_
    refine Bn_ltT (by omega) ?_
    refine If_T ?_
    refine iaH h (by assumption) (by omega) fun zb zo zk zv zc => ?_
    refine lhA h (by assumption) (by assumption) (by rfl) ?_
    refine cl1 h n_ref04_Valid (cc1 h.ext) fun w h => ?_
    refine Un_F ?_
    iterate 6 refine Gd_TF ?_
    refine Pick_T ?_
    refine If_T ?_
    exact bad h.ext (badj (toEl_n1 oa))
  rw [okB_t oa] at cc1
  by_cases ob : okR b.1 b.2
  rotate_left
  · rw [okB_f ob] at cc2
    refine leS (hx.hp h) ?_
    refine Bn_ltT (by omega) ?_
    refine If_T ?_
    refine iaH h (by assumption) (by omega) fun zb zo zk zv zc => ?_
    refine lhA h (by assumption) (by assumption) (by rfl) ?_
    refine cl1 h n_ref04_Valid (cc1 h.ext) fun w h => ?_
    refine Un_T ?_
    iterate 3 refine Gd_F ?_
    refine iaH h (by assumption) (by omega) fun zb zo zk zv zc => ?_
    refine Gd_F ?_
    refine lhA h (by assumption) (by assumption) (by rfl) ?_
    refine Gd_F ?_
    refine cl1 h n_ref04_Valid (cc2 h.ext) fun w h => ?_
    refine Gd_F ?_
    refine Un_F ?_
    refine Pick_F ?_
    refine If_T ?_
    exact bad h.ext (badj (toEl_n2 ob))
  rw [okB_t ob] at cc2
  refine Exists.elim (qv_ex oa) fun x hx' => ?_
  refine Exists.elim (qv_ex ob) fun p hp' => ?_
  have eab : (a, b) = (tx x, tx p) := by rw [hx'.1, hp'.1]
  have cc5 := fun {W : World} (h : Ext w0 W) => o_w0 (w := W)
  have cc6 := fun {W : World} (h : Ext w0 W) => o_w1 (w := W)
  have cc3 : ∀ {W : World}, Ext w0 W → Calls Tryz.prog 66 #[.agg #[str b.1, str b.2], ov (some 0)] W (Ret fun r w' => Ext W w' ∧ r = .int .i64 (cmpQ p 0)) := fun h => by
    rw [hp'.1]; exact o_fcmp hp'.2.1 rb0
  have cc4 : ∀ {W : World}, Ext w0 W → Calls Tryz.prog 66 #[.agg #[str b.1, str b.2], ov (some 1)] W (Ret fun r w' => Ext W w' ∧ r = .int .i64 (cmpQ p 1)) := fun h => by
    rw [hp'.1]; exact o_fcmp hp'.2.1 rb1
  by_cases p0 : 0 < p
  rotate_left
  · have hcm : cmpQ p 0 ≤ 0 := (cmp_le p 0).2 (Rat.not_lt.1 p0)
    refine leS (hx.hp h) ?_
    refine Bn_ltT (by omega) ?_
    refine If_T ?_
    refine iaH h (by assumption) (by omega) fun zb zo zk zv zc => ?_
    refine lhA h (by assumption) (by assumption) (by rfl) ?_
    refine cl1 h n_ref04_Valid (cc1 h.ext) fun w h => ?_
    refine Un_T ?_
    iterate 3 refine Gd_F ?_
    refine iaH h (by assumption) (by omega) fun zb zo zk zv zc => ?_
    refine Gd_F ?_
    refine lhA h (by assumption) (by assumption) (by rfl) ?_
    refine Gd_F ?_
    refine cl1 h n_ref04_Valid (cc2 h.ext) fun w h => ?_
    refine Gd_F ?_
    refine Un_T ?_
    refine Pick_F ?_
    refine If_F ?_
    replace h := h.dr
    refine diH h (by assumption) (by omega) fun zb zo zk zv zc => ?_
    refine dhA h (by assumption) (by assumption) (by rfl) ?_
    refine cl1 h n_ref16_whole (cc5 h.ext) fun w h => ?_
    refine khA h (by assumption) (by assumption) (by rfl) ?_
    refine cl1 h n_ref04_Compare (cc3 h.ext) fun w h => ?_
    replace h := h.dr
    refine diH h (by assumption) (by omega) fun zb zo zk zv zc => ?_
    refine dhA h (by assumption) (by assumption) (by rfl) ?_
    refine cl1 h n_ref16_whole (cc6 h.ext) fun w h => ?_
    refine khA h (by assumption) (by assumption) (by rfl) ?_
    refine cl1 h n_ref04_Compare (cc4 h.ext) fun w h => ?_
    refine Bn_leT (by omega) ?_
    iterate 2 refine Gd_TF ?_
    refine Pick_T ?_
    refine If_T ?_
    exact bad h.ext (badj (by rw [eab]; exact toEl_no hx'.2.1 hp'.2.1 (fun hc => p0 hc.1)))
  have hcm : 0 < cmpQ p 0 := by
    have := mt (cmp_le p 0).1 (Rat.not_le.2 p0); omega
  by_cases p1 : p ≤ 1
  rotate_left
  · have hcm1 : 0 < cmpQ p 1 := by
      have := mt (cmp_le p 1).1 p1; omega
    refine leS (hx.hp h) ?_
    refine Bn_ltT (by omega) ?_
    refine If_T ?_
    refine iaH h (by assumption) (by omega) fun zb zo zk zv zc => ?_
    refine lhA h (by assumption) (by assumption) (by rfl) ?_
    refine cl1 h n_ref04_Valid (cc1 h.ext) fun w h => ?_
    refine Un_T ?_
    iterate 3 refine Gd_F ?_
    refine iaH h (by assumption) (by omega) fun zb zo zk zv zc => ?_
    refine Gd_F ?_
    refine lhA h (by assumption) (by assumption) (by rfl) ?_
    refine Gd_F ?_
    refine cl1 h n_ref04_Valid (cc2 h.ext) fun w h => ?_
    refine Gd_F ?_
    refine Un_T ?_
    refine Pick_F ?_
    refine If_F ?_
    replace h := h.dr
    refine diH h (by assumption) (by omega) fun zb zo zk zv zc => ?_
    refine dhA h (by assumption) (by assumption) (by rfl) ?_
    refine cl1 h n_ref16_whole (cc5 h.ext) fun w h => ?_
    refine khA h (by assumption) (by assumption) (by rfl) ?_
    refine cl1 h n_ref04_Compare (cc3 h.ext) fun w h => ?_
    replace h := h.dr
    refine diH h (by assumption) (by omega) fun zb zo zk zv zc => ?_
    refine dhA h (by assumption) (by assumption) (by rfl) ?_
    refine cl1 h n_ref16_whole (cc6 h.ext) fun w h => ?_
    refine khA h (by assumption) (by assumption) (by rfl) ?_
    refine cl1 h n_ref04_Compare (cc4 h.ext) fun w h => ?_
    refine Bn_leF (by omega) ?_
    iterate 2 refine Gd_F ?_
    refine Bn_gtT (by omega) ?_
    refine Pick_F ?_
    refine If_T ?_
    exact bad h.ext (badj (by rw [eab]; exact toEl_no hx'.2.1 hp'.2.1 (fun hc => p1 hc.2)))
  have hcm1 : cmpQ p 1 ≤ 0 := (cmp_le p 1).2 p1
  refine leS (hx.hp h) ?_
  refine Bn_ltT (by omega) ?_
  refine If_T ?_
  refine iaH h (by assumption) (by omega) fun zb zo zk zv zc => ?_
  refine lhA h (by assumption) (by assumption) (by rfl) ?_
  refine cl1 h n_ref04_Valid (cc1 h.ext) fun w h => ?_
  refine Un_T ?_
  iterate 3 refine Gd_F ?_
  refine iaH h (by assumption) (by omega) fun zb zo zk zv zc => ?_
  refine Gd_F ?_
  refine lhA h (by assumption) (by assumption) (by rfl) ?_
  refine Gd_F ?_
  refine cl1 h n_ref04_Valid (cc2 h.ext) fun w h => ?_
  refine Gd_F ?_
  refine Un_T ?_
  refine Pick_F ?_
  refine If_F ?_
  replace h := h.dr
  refine diH h (by assumption) (by omega) fun zb zo zk zv zc => ?_
  refine dhA h (by assumption) (by assumption) (by rfl) ?_
  refine cl1 h n_ref16_whole (cc5 h.ext) fun w h => ?_
  refine khA h (by assumption) (by assumption) (by rfl) ?_
  refine cl1 h n_ref04_Compare (cc3 h.ext) fun w h => ?_
  replace h := h.dr
  refine diH h (by assumption) (by omega) fun zb zo zk zv zc => ?_
  refine dhA h (by assumption) (by assumption) (by rfl) ?_
  refine cl1 h n_ref16_whole (cc6 h.ext) fun w h => ?_
  refine khA h (by assumption) (by assumption) (by rfl) ?_
  refine cl1 h n_ref04_Compare (cc4 h.ext) fun w h => ?_
  refine Bn_leF (by omega) ?_
  iterate 2 refine Gd_F ?_
  refine Bn_gtF (by omega) ?_
  refine Pick_F ?_
  refine If_F ?_
  refine Bn_ad (by omega) (by omega) ?_
  have hsn : (lx.zip lp).take (j + 1) = (lx.zip lp).take j ++ [(a, b)] := by
    rw [List.take_add_one, show (lx.zip lp)[j]? = some (a, b) from List.getElem?_zip_eq_some.2 ⟨ha, hb⟩]; rfl
  exact ⟨⟨j + 1, l ++ [(x, p)], by omega, rfl, by rw [hsn]; exact allE_snoc hl (by rw [eab]; exact toEl_ok hx'.2.1 hp'.2.1 p0 p1), h⟩, by show lx.length - ((j : Int) + 1).toNat < lx.length - (j : Int).toNat; omega⟩
noncomputable def totO (lx lp : List RS) : Option (Rat × Rat) := (elsOf lx lp).bind fun l => (oEst l).bind fun a => (oEsd l).map fun b => (a, b)
noncomputable def varO (lx lp : List RS) : Option Rat := (elsOf lx lp).bind oVar
abbrev e160 : Value := .int .i64 160
abbrev e0 : Value := .int .i64 0
def totV : Option (Rat × Rat) → Value
  | some (a, b) => .tuple #[ov (some a), ov (some b), e0]
  | none => .tuple #[ov none, ov none, e160]
def varV : Option Rat → Value
  | some a => .tuple #[ov (some a), e0]
  | none => .tuple #[ov none, e160]
theorem ob_est (l : List El) : OB (oEst l) := oSum_B (.some rb0)
theorem ob_esd (l : List El) : OB (oEsd l) := oSum_B (.some rb0)
theorem ob_var (l : List El) : OB (oVar l) := oSum_B (.some rb0)
theorem SlR.ext {w w' : World} {v : Value} {l : List RS} (h : SlR w v l) (x : Ext w w') : SlR w' v l := SlC.ext h x
theorem take_snoc {α : Type} {l : List α} {j : Nat} {a : α} (h : l[j]? = some a) : l.take (j + 1) = l.take j ++ [a] := by
  rw [List.take_add_one, h]; rfl
set_option maxHeartbeats 2000000 in
theorem c_ftotal {w0 : World} {vx vp : Value} {l : List El} (hx : SlC w0 2 vx l.length (l.flatMap fX)) (hp : SlC w0 2 vp l.length (l.flatMap fP)) (hok : ∀ e ∈ l, El.ok e) (hlen : l.length ≤ 1000000) :
    Calls Tryz.prog 35 #[vx, vp] w0 (Ret fun r w' => Ext w0 w' ∧ r = .tuple #[ov (oEst l), ov (oEsd l)]) := by
  apply e_ref16_total
  unfold s_ref16_total
  have h := Hp.init [] w0
  have cc1 := fun {W : World} (h : Ext w0 W) => o_w0 (w := W)
  refine alS h fun g1 w h => ?_
  refine alS h fun g2 w h => ?_
  refine cl1 h n_ref16_whole (cc1 h.ext) fun w h => ?_
  refine alS h fun g3 w h => ?_
  refine stA h 0 rfl rfl rfl rfl fun w h => ?_
  refine cl1 h n_ref16_whole (cc1 h.ext) fun w h => ?_
  refine alS h fun g4 w h => ?_
  refine stA h 0 rfl rfl rfl rfl fun w h => ?_
  dsimp only [List.set] at h
  refine Lp1.mk (fun i W => ∃ j : Nat, j ≤ l.length ∧ i = .int .i64 j ∧ Hp [] w0 W [bx g4 tR (fO (oSum oD (l.take j) (some 0))), bx g3 tR (fO (oSum oE (l.take j) (some 0))), bx g2 tR (fO none), bx g1 tR (fO none)])
    (fun i _ => match i with | .int _ i' => l.length - i'.toNat | _ => 0) ⟨0, by omega, rfl, h⟩ ?_
  clear h
  rintro _ W ⟨j, hj, rfl, h⟩
  by_cases hjl : j < l.length
  rotate_left
  · refine leS (hx.hp h) ?_
    refine Bn_ltF (by omega) ?_
    refine If_F ?_
    replace h := h.dr
    refine dlA h 1 rfl rfl ?_
    refine dlA h 0 rfl rfl ?_
    refine stA h 3 rfl rfl rfl rfl fun w h => ?_
    refine klA h 0 rfl rfl ?_
    refine stA h 2 rfl rfl rfl rfl fun w h => ?_
    refine rcA h 3 rfl rfl ?_
    refine rcA h 2 rfl rfl ?_
    dsimp only [List.set] at h
    have : l.take j = l := List.take_of_length_le (by omega)
    rw [this] at h
    exact Ret.mk ⟨h.ext, by rw [this]; rfl⟩
  refine Exists.elim (p := fun a => l[j]? = some a) ⟨_, List.getElem?_eq_getElem hjl⟩ fun e he => ?_
  have sx : Seg (l.flatMap fX) (j * 2) (fX e) := flat_seg (f := fX) (fun _ => rfl) he
  have sp : Seg (l.flatMap fP) (j * 2) (fP e) := flat_seg (f := fP) (fun _ => rfl) he
  have ho := hok e (List.mem_of_getElem? he)
  have ox : OB (some e.1) := .some ho.1
  have op : OB (some e.2) := .some ho.2
  have cc2 := fun {W : World} (h : Ext w0 W) => o_w1 (w := W)
  have cc3 : ∀ {W : World}, Ext w0 W → Calls Tryz.prog 43 #[ov (some e.1), ov (some e.2)] W (Ret fun r w' => Ext W w' ∧ r = ov (oE e)) := fun _ => r_div ox op
  have cc4 : ∀ {W : World}, Ext w0 W → Calls Tryz.prog 42 #[ov (oSum oE (l.take j) (some 0)), ov (oE e)] W (Ret fun r w' => Ext W w' ∧ r = ov (oSum oE (l.take (j + 1)) (some 0))) := fun _ => by
    rw [take_snoc he, oSum_snoc]; exact r_add (oSum_B (.some rb0)) (oE_B e)
  have cc5 := fun {W : World} (h : Ext w0 W) => r_mul (w := W) ox ox
  have cc6 := fun {W : World} (h : Ext w0 W) => r_sub (w := W) ob1 op
  have cc7 : ∀ {W : World}, Ext w0 W → Calls Tryz.prog 44 #[ov (oMul (some e.1) (some e.1)), ov (oSub (some 1) (some e.2))] W (Ret fun r w' => Ext W w' ∧ r = ov (oRest e)) := fun _ => r_mul (oBin_B fit_mul _ _) (oBin_B fit_sub _ _)
  have cc8 := fun {W : World} (h : Ext w0 W) => r_mul (w := W) op op
  have cc9 : ∀ {W : World}, Ext w0 W → Calls Tryz.prog 43 #[ov (oRest e), ov (oMul (some e.2) (some e.2))] W (Ret fun r w' => Ext W w' ∧ r = ov (oD e)) := fun _ => r_div (oBin_B fit_mul _ _) (oBin_B fit_mul _ _)
  have cc10 : ∀ {W : World}, Ext w0 W → Calls Tryz.prog 42 #[ov (oSum oD (l.take j) (some 0)), ov (oD e)] W (Ret fun r w' => Ext W w' ∧ r = ov (oSum oD (l.take (j + 1)) (some 0))) := fun _ => by
    rw [take_snoc he, oSum_snoc]; exact r_add (oSum_B (.some rb0)) (oD_B e)
  refine leS (hx.hp h) ?_
  refine Bn_ltT (by omega) ?_
  refine If_T ?_
  replace h := h.dr
  refine dlA h 1 rfl rfl ?_
  refine diH h (by assumption) (by omega) fun zb zo zk zv zc => ?_
  refine dhA h (by assumption) (by assumption) (by rfl) ?_
  refine diH h (by assumption) (by omega) fun zb zo zk zv zc => ?_
  refine dhA h (by assumption) (by assumption) (by rfl) ?_
  refine cl1 h n_ref16_div (cc3 h.ext) fun w h => ?_
  refine klA h 1 rfl rfl ?_
  refine cl1 h n_ref16_add (cc4 h.ext) fun w h => ?_
  refine stA h 1 rfl rfl rfl rfl fun w h => ?_
  replace h := h.dr
  refine dlA h 0 rfl rfl ?_
  refine diH h (by assumption) (by omega) fun zb zo zk zv zc => ?_
  refine dhA h (by assumption) (by assumption) (by rfl) ?_
  refine diH h (by assumption) (by omega) fun zb zo zk zv zc => ?_
  refine dhA h (by assumption) (by assumption) (by rfl) ?_
  refine diH h (by assumption) (by omega) fun zb zo zk zv zc => ?_
  refine dhA h (by assumption) (by assumption) (by rfl) ?_
  refine diH h (by assumption) (by omega) fun zb zo zk zv zc => ?_
  refine dhA h (by assumption) (by assumption) (by rfl) ?_
  refine diH h (by assumption) (by omega) fun zb zo zk zv zc => ?_
  refine dhA h (by assumption) (by assumption) (by rfl) ?_
  refine cl1 h n_ref16_mul (cc5 h.ext) fun w h => ?_
  refine klA h 0 rfl rfl ?_
  iterate 3 refine khA h (by assumption) (by assumption) (by rfl) ?_
  refine cl1 h n_ref16_whole (cc2 h.ext) fun w h => ?_
  refine klA h 0 rfl rfl ?_
  iterate 3 refine khA h (by assumption) (by assumption) (by rfl) ?_
  refine cl1 h n_ref16_sub (cc6 h.ext) fun w h => ?_
  refine klA h 0 rfl rfl ?_
  iterate 2 refine khA h (by assumption) (by assumption) (by rfl) ?_
  refine cl1 h n_ref16_mul (cc7 h.ext) fun w h => ?_
  refine klA h 0 rfl rfl ?_
  iterate 2 refine khA h (by assumption) (by assumption) (by rfl) ?_
  refine cl1 h n_ref16_mul (cc8 h.ext) fun w h => ?_
  refine klA h 0 rfl rfl ?_
  refine cl1 h n_ref16_div (cc9 h.ext) fun w h => ?_
  refine klA h 0 rfl rfl ?_
  refine cl1 h n_ref16_add (cc10 h.ext) fun w h => ?_
  refine stA h 0 rfl rfl rfl rfl fun w h => ?_
  refine Bn_ad (by omega) (by omega) ?_
  dsimp only [List.set] at h
  exact ⟨⟨j + 1, by omega, rfl, h⟩, by show l.length - ((j : Int) + 1).toNat < l.length - (j : Int).toNat; omega⟩
set_option maxHeartbeats 2000000 in
theorem c_fTotal {w0 : World} {vx vp : Value} {lx lp : List RS} (hx : SlR w0 vx lx) (hp : SlR w0 vp lp) (kx : RSok lx) (kp : RSok lp) :
    Calls Tryz.prog 15 #[vx, vp] w0 (Ret fun r w' => Ext w0 w' ∧ r = totV (totO lx lp)) := by
  rcases hE : elsOf lx lp with _ | l
  · have ht : totO lx lp = none := by unfold totO; rw [hE]; rfl
    have cc1 := fun {W : World} (h : Ext w0 W) => c_fElements (w0 := W) (hx.ext h) (hp.ext h) kx kp
    simp only [hE, Option.isSome_none] at cc1
    apply e_ref16_Total
    unfold s_ref16_Total
    have h := Hp.init [] w0
    refine alS h fun g1 w h => ?_
    refine alS h fun g2 w h => ?_
    refine cl1 h n_ref16_Elements (cc1 h.ext) fun w h => ?_
    refine Un_F ?_
    refine If_T ?_
    iterate 2 refine bdS PC.nil (by rfl) ?_
    refine stA h 1 rfl rfl rfl rfl fun w h => ?_
    refine stA h 0 rfl rfl rfl rfl fun w h => ?_
    refine rcA h 1 rfl rfl ?_
    refine rcA h 0 rfl rfl ?_
    dsimp only [List.set] at h
    exact Ret.mk ⟨h.ext, by rw [ht]; rfl⟩
  · obtain ⟨rfl, rfl, hg, hl⟩ := elsOf_some hE
    have cc1 := fun {W : World} (h : Ext w0 W) => c_fElements (w0 := W) (hx.ext h) (hp.ext h) kx kp
    simp only [hE, Option.isSome_some] at cc1
    have cc2 := fun {W : World} (h : Ext w0 W) => c_ftotal (w0 := W) (hx.x.ext h) (hp.p.ext h) (fun e he => (hg e he).1) (by omega)
    have cc3 := fun {W : World} (h : Ext w0 W) => o_fvalid (w := W) (ob_est l)
    have cc4 := fun {W : World} (h : Ext w0 W) => o_fvalid (w := W) (ob_esd l)
    have ht : totO (l.map fun e => tx e.1) (l.map fun e => tx e.2) = (oEst l).bind fun a => (oEsd l).map fun b => (a, b) := by unfold totO; rw [hE]; rfl
    rcases h1 : oEst l with _ | a
    · rw [h1] at cc2 ht
      simp only [h1, Option.isSome_none] at cc3
      apply e_ref16_Total
      unfold s_ref16_Total
      have h := Hp.init [] w0
      refine alS h fun g1 w h => ?_
      refine alS h fun g2 w h => ?_
      refine cl1 h n_ref16_Elements (cc1 h.ext) fun w h => ?_
      refine Un_T ?_
      refine If_F ?_
      refine cl1 h n_ref16_total (cc2 h.ext) fun w h => ?_
      refine Ex2 ?_
      refine alS h fun g3 w h => ?_
      refine alS h fun g4 w h => ?_
      refine stA h 1 rfl rfl rfl rfl fun w h => ?_
      refine stA h 0 rfl rfl rfl rfl fun w h => ?_
      refine ldA h 1 rfl rfl ?_
      refine cl1 h n_ref04_Valid (cc3 h.ext) fun w h => ?_
      refine Un_F ?_
      iterate 3 refine Gd_TF ?_
      refine Pick_T ?_
      refine If_T ?_
      iterate 2 refine bdS PC.nil (by rfl) ?_
      refine stA h 3 rfl rfl rfl rfl fun w h => ?_
      refine stA h 2 rfl rfl rfl rfl fun w h => ?_
      refine rcA h 3 rfl rfl ?_
      refine rcA h 2 rfl rfl ?_
      dsimp only [List.set] at h
      exact Ret.mk ⟨h.ext, by rw [ht]; rfl⟩
    · rcases h2 : oEsd l with _ | b
      · rw [h1, h2] at cc2
        rw [h1, h2] at ht
        simp only [h1, Option.isSome_some] at cc3
        simp only [h2, Option.isSome_none] at cc4
        apply e_ref16_Total
        unfold s_ref16_Total
        have h := Hp.init [] w0
        refine alS h fun g1 w h => ?_
        refine alS h fun g2 w h => ?_
        refine cl1 h n_ref16_Elements (cc1 h.ext) fun w h => ?_
        refine Un_T ?_
        refine If_F ?_
        refine cl1 h n_ref16_total (cc2 h.ext) fun w h => ?_
        refine Ex2 ?_
        refine alS h fun g3 w h => ?_
        refine alS h fun g4 w h => ?_
        refine stA h 1 rfl rfl rfl rfl fun w h => ?_
        refine stA h 0 rfl rfl rfl rfl fun w h => ?_
        refine ldA h 1 rfl rfl ?_
        refine cl1 h n_ref04_Valid (cc3 h.ext) fun w h => ?_
        refine Un_T ?_
        refine Gd_F ?_
        refine ldA h 0 rfl rfl ?_
        refine Gd_F ?_
        refine cl1 h n_ref04_Valid (cc4 h.ext) fun w h => ?_
        refine Gd_F ?_
        refine Un_F ?_
        refine Pick_F ?_
        refine If_T ?_
        iterate 2 refine bdS PC.nil (by rfl) ?_
        refine stA h 3 rfl rfl rfl rfl fun w h => ?_
        refine stA h 2 rfl rfl rfl rfl fun w h => ?_
        refine rcA h 3 rfl rfl ?_
        refine rcA h 2 rfl rfl ?_
        dsimp only [List.set] at h
        exact Ret.mk ⟨h.ext, by rw [ht]; rfl⟩
      · rw [h1, h2] at cc2
        rw [h1, h2] at ht
        simp only [h1, Option.isSome_some] at cc3
        simp only [h2, Option.isSome_some] at cc4
        apply e_ref16_Total
        unfold s_ref16_Total
        have h := Hp.init [] w0
        refine alS h fun g1 w h => ?_
        refine alS h fun g2 w h => ?_
        refine cl1 h n_ref16_Elements (cc1 h.ext) fun w h => ?_
        refine Un_T ?_
        refine If_F ?_
        refine cl1 h n_ref16_total (cc2 h.ext) fun w h => ?_
        refine Ex2 ?_
        refine alS h fun g3 w h => ?_
        refine alS h fun g4 w h => ?_
        refine stA h 1 rfl rfl rfl rfl fun w h => ?_
        refine stA h 0 rfl rfl rfl rfl fun w h => ?_
        refine ldA h 1 rfl rfl ?_
        refine cl1 h n_ref04_Valid (cc3 h.ext) fun w h => ?_
        refine Un_T ?_
        refine Gd_F ?_
        refine ldA h 0 rfl rfl ?_
        refine Gd_F ?_
        refine cl1 h n_ref04_Valid (cc4 h.ext) fun w h => ?_
        refine Gd_F ?_
        refine Un_T ?_
        refine Pick_F ?_
        refine If_F ?_
        replace h := h.dr
        refine dlA h 1 rfl rfl ?_
        refine dlA h 0 rfl rfl ?_
        refine stA h 3 rfl rfl rfl rfl fun w h => ?_
        refine klA h 0 rfl rfl ?_
        refine stA h 2 rfl rfl rfl rfl fun w h => ?_
        refine rcA h 3 rfl rfl ?_
        refine rcA h 2 rfl rfl ?_
        dsimp only [List.set] at h
        exact Ret.mk ⟨h.ext, by rw [ht]; rfl⟩
set_option maxHeartbeats 2000000 in
theorem c_fVariance {w0 : World} {vx vp : Value} {lx lp : List RS} (hx : SlR w0 vx lx) (hp : SlR w0 vp lp) (kx : RSok lx) (kp : RSok lp) :
    Calls Tryz.prog 17 #[vx, vp] w0 (Ret fun r w' => Ext w0 w' ∧ r = varV (varO lx lp)) := by
  rcases hE : elsOf lx lp with _ | l
  · have ht : varO lx lp = none := by unfold varO; rw [hE]; rfl
    have cc1 := fun {W : World} (h : Ext w0 W) => c_fElements (w0 := W) (hx.ext h) (hp.ext h) kx kp
    simp only [hE, Option.isSome_none] at cc1
    apply e_ref16_Variance
    unfold s_ref16_Variance
    have h := Hp.init [] w0
    refine alS h fun g1 w h => ?_
    refine cl1 h n_ref16_Elements (cc1 h.ext) fun w h => ?_
    refine Un_F ?_
    refine If_T ?_
    refine bdS PC.nil (by rfl) ?_
    refine stA h 0 rfl rfl rfl rfl fun w h => ?_
    refine rcA h 0 rfl rfl ?_
    dsimp only [List.set] at h
    exact Ret.mk ⟨h.ext, by rw [ht]; rfl⟩
  obtain ⟨rfl, rfl, hg, hl⟩ := elsOf_some hE
  have cc1 := fun {W : World} (h : Ext w0 W) => c_fElements (w0 := W) (hx.ext h) (hp.ext h) kx kp
  simp only [hE, Option.isSome_some] at cc1
  have hx := hx.x
  have hp := hp.p
  have cc2 := fun {W : World} (h : Ext w0 W) => o_w0 (w := W)
  have cc3 := fun {W : World} (h : Ext w0 W) => o_fvalid (w := W) (ob_var l)
  have ht : varO (l.map fun e => tx e.1) (l.map fun e => tx e.2) = oVar l := by unfold varO; rw [hE]; rfl
  obtain ⟨V, hV⟩ : ∃ V, V = oVar l := ⟨_, rfl⟩
  rw [← hV] at cc3
  apply e_ref16_Variance
  unfold s_ref16_Variance
  have h := Hp.init [] w0
  refine alS h fun g1 w h => ?_
  refine cl1 h n_ref16_Elements (cc1 h.ext) fun w h => ?_
  refine Un_T ?_
  refine If_F ?_
  refine cl1 h n_ref16_whole (cc2 h.ext) fun w h => ?_
  refine alS h fun g2 w h => ?_
  refine stA h 0 rfl rfl rfl rfl fun w h => ?_
  dsimp only [List.set] at h
  refine Lp1.mk (fun i W => ∃ j : Nat, j ≤ l.length ∧ i = .int .i64 j ∧ Hp [] w0 W [bx g2 tR (fO (oSum oV (l.take j) (some 0))), bx g1 tR (fO none)])
    (fun i _ => match i with | .int _ i' => l.length - i'.toNat | _ => 0) ⟨0, by omega, rfl, h⟩ ?_
  clear h
  rintro _ W ⟨j, hj, rfl, h⟩
  by_cases hjl : j < l.length
  rotate_left
  · have : oSum oV (l.take j) (some 0) = V := by rw [List.take_of_length_le (by omega), hV]; rfl
    rw [this] at h
    clear this
    rcases V with _ | a
    · simp only [Option.isSome_none] at cc3
      refine leS (hx.hp h) ?_
      refine Bn_ltF (by omega) ?_
      refine If_F ?_
      refine ldA h 0 rfl rfl ?_
      refine cl1 h n_ref04_Valid (cc3 h.ext) fun w h => ?_
      refine Un_F ?_
      refine If_T ?_
      refine bdS PC.nil (by rfl) ?_
      refine stA h 1 rfl rfl rfl rfl fun w h => ?_
      refine rcA h 1 rfl rfl ?_
      dsimp only [List.set] at h
      exact Ret.mk ⟨h.ext, by rw [ht, ← hV]; rfl⟩
    · simp only [Option.isSome_some] at cc3
      refine leS (hx.hp h) ?_
      refine Bn_ltF (by omega) ?_
      refine If_F ?_
      refine ldA h 0 rfl rfl ?_
      refine cl1 h n_ref04_Valid (cc3 h.ext) fun w h => ?_
      refine Un_T ?_
      refine If_F ?_
      refine ldA h 0 rfl rfl ?_
      refine stA h 1 rfl rfl rfl rfl fun w h => ?_
      refine rcA h 1 rfl rfl ?_
      dsimp only [List.set] at h
      exact Ret.mk ⟨h.ext, by rw [ht, ← hV]; rfl⟩
  refine Exists.elim (p := fun a => l[j]? = some a) ⟨_, List.getElem?_eq_getElem hjl⟩ fun e he => ?_
  have sx : Seg (l.flatMap fX) (j * 2) (fX e) := flat_seg (f := fX) (fun _ => rfl) he
  have sp : Seg (l.flatMap fP) (j * 2) (fP e) := flat_seg (f := fP) (fun _ => rfl) he
  have ho := (hg e (List.mem_of_getElem? he)).1
  have ox : OB (some e.1) := .some ho.1
  have op : OB (some e.2) := .some ho.2
  have cc2 := fun {W : World} (h : Ext w0 W) => o_w1 (w := W)
  have cc5 := fun {W : World} (h : Ext w0 W) => r_mul (w := W) ox ox
  have cc6 := fun {W : World} (h : Ext w0 W) => r_sub (w := W) ob1 op
  have cc7 : ∀ {W : World}, Ext w0 W → Calls Tryz.prog 44 #[ov (oMul (some e.1) (some e.1)), ov (oSub (some 1) (some e.2))] W (Ret fun r w' => Ext W w' ∧ r = ov (oRest e)) := fun _ => r_mul (oBin_B fit_mul _ _) (oBin_B fit_sub _ _)
  have cc9 : ∀ {W : World}, Ext w0 W → Calls Tryz.prog 43 #[ov (oRest e), ov (some e.2)] W (Ret fun r w' => Ext W w' ∧ r = ov (oV e)) := fun _ => r_div (oBin_B fit_mul _ _) op
  have cc10 : ∀ {W : World}, Ext w0 W → Calls Tryz.prog 42 #[ov (oSum oV (l.take j) (some 0)), ov (oV e)] W (Ret fun r w' => Ext W w' ∧ r = ov (oSum oV (l.take (j + 1)) (some 0))) := fun _ => by
    rw [take_snoc he, oSum_snoc]; exact r_add (oSum_B (.some rb0)) (oV_B e)
  refine leS (hx.hp h) ?_
  refine Bn_ltT (by omega) ?_
  refine If_T ?_
  replace h := h.dr
  refine dlA h 0 rfl rfl ?_
  refine diH h (by assumption) (by omega) fun zb zo zk zv zc => ?_
  refine dhA h (by assumption) (by assumption) (by rfl) ?_
  refine diH h (by assumption) (by omega) fun zb zo zk zv zc => ?_
  refine dhA h (by assumption) (by assumption) (by rfl) ?_
  refine diH h (by assumption) (by omega) fun zb zo zk zv zc => ?_
  refine dhA h (by assumption) (by assumption) (by rfl) ?_
  refine diH h (by assumption) (by omega) fun zb zo zk zv zc => ?_
  refine dhA h (by assumption) (by assumption) (by rfl) ?_
  refine cl1 h n_ref16_mul (cc5 h.ext) fun w h => ?_
  refine klA h 0 rfl rfl ?_
  iterate 2 refine khA h (by assumption) (by assumption) (by rfl) ?_
  refine cl1 h n_ref16_whole (cc2 h.ext) fun w h => ?_
  refine klA h 0 rfl rfl ?_
  iterate 2 refine khA h (by assumption) (by assumption) (by rfl) ?_
  refine cl1 h n_ref16_sub (cc6 h.ext) fun w h => ?_
  refine klA h 0 rfl rfl ?_
  refine khA h (by assumption) (by assumption) (by rfl) ?_
  refine cl1 h n_ref16_mul (cc7 h.ext) fun w h => ?_
  refine klA h 0 rfl rfl ?_
  refine khA h (by assumption) (by assumption) (by rfl) ?_
  refine cl1 h n_ref16_div (cc9 h.ext) fun w h => ?_
  refine klA h 0 rfl rfl ?_
  refine cl1 h n_ref16_add (cc10 h.ext) fun w h => ?_
  refine stA h 0 rfl rfl rfl rfl fun w h => ?_
  refine Bn_ad (by omega) (by omega) ?_
  dsimp only [List.set] at h
  exact ⟨⟨j + 1, by omega, rfl, h⟩, by show l.length - ((j : Int) + 1).toNat < l.length - (j : Int).toNat; omega⟩
theorem Own.mo {g : Nat} {w w' : World} (o : Own g w w') : Mo [g] w w' := ⟨o.below.os, o.below.tape, o.below.output, o.below.size, fun k hk hs => o.other k (by simpa using hs) hk⟩
section
variable {S : List Nat} {w0 w : World} {L : List Et} {g : Nat} {f fl : Bool} {q : Option Rat} {K : Value → World → Prop} {fid : FuncId} {args : Array Value} {pan : List PanicEntry → World → Prop}
theorem clC (h : Hp S w0 w L) (i : Nat) (hi : L[i]? = some (bx g tC [.bool f])) (hn : Enters Tryz.prog fid) (hc : Blk w g tC [.bool f] → Calls Tryz.prog fid args w (Ret (CoP g w q f))) (hk : ∀ w1, Hp S w0 w1 (L.set i (bx g tC [.bool (f || q.isNone)])) → K (ov (nV f q)) w1) : Cl Tryz.prog fid args w pan K :=
  Cl_i hn (hc (h.get hi)) fun r w' ⟨e, o, b⟩ => by subst e; exact hk w' (h.bxu i hi o.mo b)
theorem clF (h : Hp S w0 w L) (i : Nat) (hi : L[i]? = some (bx g tC [.bool f])) (hn : Enters Tryz.prog fid) (hc : Calls Tryz.prog fid args w (Ret fun r w' => ∃ a, OB a ∧ r = ov a ∧ Own g w w' ∧ Blk w' g tC [.bool (f || q.isNone)] ∧ ((f || q.isNone) = false → a = q)))
    (hf : (f || q.isNone) = fl) (hk : ∀ a w1, OB a → (fl = false → a = q) → Hp S w0 w1 (L.set i (bx g tC [.bool fl])) → K (ov a) w1) : Cl Tryz.prog fid args w pan K :=
  Cl_i hn hc fun r w' ⟨a, oa, e, o, b, ha⟩ => by subst e; subst hf; exact hk a w' oa ha (h.bxu i hi o.mo b)
end
theorem GB.of {w0 : World} {g : Nat} (hz : ZO w0) (hT : Tab w0) (hg : w0.heap.size ≤ g) : GB g := by
  have h1 := hz.1.lt
  have h2 := hz.2.lt
  have hn : Tryz.prog.globalNamed "internal/strconv.uint64pow10" = some 4 := by kernel_rfl
  have h : w0.var? Tryz.prog "internal/strconv.uint64pow10" = _ := hT
  unfold World.var? at h
  rw [hn] at h
  simp only [Option.bind_some] at h
  have hlt : 4 < w0.heap.size := by
    rcases Nat.lt_or_ge 4 w0.heap.size with h' | h'
    · exact h'
    · rw [Array.getElem?_eq_none h'] at h; cases h
  exact ⟨by omega, by omega, by omega⟩
theorem cellsE_flat : ∀ l : List El, l.flatMap fE = cellsE l
  | [] => rfl
  | e :: l => by rw [List.flatMap_cons, cellsE_flat l]; rfl
theorem tLs_u : ∃ e, Tryz.prog.underlying tLs = some (.slice e) := ⟨_, Tryz.underlying55⟩
structure En (w : World) : Prop where
  hz : ZO w
  hT : Tab w
theorem En.ext {w w' : World} (h : En w) (x : Ext w w') : En w' := ⟨h.hz.ext x, h.hT.ext x⟩
section
variable {w0 w : World} {L : List Et} {g : Nat} {f : Bool} {l : List El} {v : Value} {n : Nat}
theorem ro_ne (h : Hp [] w0 w L) {i j : Nat} {cs : List Value} {ty e : TypeId} {c : Nat} {xs : List Value} (hi : L[i]? = some (bx g ty cs)) (hj : L[j]? = some (ro e c v n xs)) (hij : j ≠ i) : ∀ k, v.ownBlock = some k → k ≠ g := by
  intro k hk hc
  subst hc
  exact h.ne hj hi hij k (by simp [hk]) (by simp)
theorem ge0 {cs : List Value} {ty : TypeId} {i : Nat} (h : Hp [] w0 w L) (hi : L[i]? = some (bx g ty cs)) : w0.heap.size ≤ g := by
  have := (h.ks _ (List.mem_of_getElem? hi) g (by simp)).2
  simpa using this
theorem w_est (h : Hp [] w0 w L) (he : En w0) (i j : Nat) (hi : L[i]? = some (bx g tC [.bool f])) (hj : L[j]? = some (ro tEl 4 v l.length (l.flatMap fE))) (hij : j ≠ i) (hl : l.length ≤ 100000) (hok : ∀ e ∈ l, El.ok e) :
    Calls Tryz.prog 32 #[pt g, v] w (Ret fun r w' => ∃ a, OB a ∧ r = ov a ∧ Own g w w' ∧ Blk w' g tC [.bool (f || (oEst l).isNone)] ∧ ((f || (oEst l).isNone) = false → a = oEst l)) := by
  have hs := h.sl hj
  rw [cellsE_flat] at hs
  exact k_estimate tLs_u hl hok (ro_ne h hi hj hij) (.of he.hz he.hT (ge0 h hi)) (h.get hi) (he.hT.ext h.ext) (he.hz.ext h.ext) hs
theorem w_esd (h : Hp [] w0 w L) (he : En w0) (i j : Nat) (hi : L[i]? = some (bx g tC [.bool f])) (hj : L[j]? = some (ro tEl 4 v l.length (l.flatMap fE))) (hij : j ≠ i) (hl : l.length ≤ 100000) (hok : ∀ e ∈ l, El.ok e) :
    Calls Tryz.prog 33 #[pt g, v] w (Ret fun r w' => ∃ a, OB a ∧ r = ov a ∧ Own g w w' ∧ Blk w' g tC [.bool (f || (oEsd l).isNone)] ∧ ((f || (oEsd l).isNone) = false → a = oEsd l)) := by
  have hs := h.sl hj
  rw [cellsE_flat] at hs
  exact k_estimated tLs_u hl hok (ro_ne h hi hj hij) (.of he.hz he.hT (ge0 h hi)) (h.get hi) (he.hT.ext h.ext) (he.hz.ext h.ext) hs
theorem w_var (h : Hp [] w0 w L) (he : En w0) (i j : Nat) (hi : L[i]? = some (bx g tC [.bool f])) (hj : L[j]? = some (ro tEl 4 v l.length (l.flatMap fE))) (hij : j ≠ i) (hl : l.length ≤ 100000) (hok : ∀ e ∈ l, El.ok e) :
    Calls Tryz.prog 37 #[v, .agg #[str [48], str [49]], pt g, .func (.func 38) #[] #[pt g]] w (Ret fun r w' => ∃ a, OB a ∧ r = ov a ∧ Own g w w' ∧ Blk w' g tC [.bool (f || (oVar l).isNone)] ∧ ((f || (oVar l).isNone) = false → a = oVar l)) := by
  have hs := h.sl hj
  rw [cellsE_flat] at hs
  have hg' := GB.of he.hz he.hT (ge0 h hi)
  have hv := ro_ne h hi hj hij
  have := k_fold (g := g) (Inv := fun W => Tab W ∧ ZO W ∧ SlE W v l) (v0 := v) (cap := pt g) (l := l) (t := oV) (x := 0) (w := w) (f := f) tLs_u n_estimate_Variance_1 hl
    (fun W W' hi o => ⟨hi.1.owng hg' o, hi.2.1.own hg' o, hi.2.2.own hv o⟩) (fun W hi => hi.1) (fun W hi => hi.2.2)
    (fun W f e he hi hb => k_var1 hb hg' (hok e he) hi.2.1 hi.1) oV_B rb0 (h.get hi) ⟨he.hT.ext h.ext, he.hz.ext h.ext, hs⟩
  rw [zero_ov] at this
  refine this.mono ?_
  rintro e w' ⟨r, rfl, a, oa, ra, o, _, b, ha⟩
  exact ⟨r, rfl, a, oa, ra, o, b, ha⟩
end
theorem clEl {S : List Nat} {w0 w : World} {L : List Et} {lx lp : List RS} {args : Array Value} {pan : List PanicEntry → World → Prop} {K : Value → World → Prop} (h : Hp S w0 w L) (hc : Calls Tryz.prog 31 args w (Ret (ElsP w lx lp)))
    (k1 : ∀ l v w1, elsOf lx lp = some l → Good l → l.length ≤ 400 → Hp S w0 w1 (ro tEl 4 v l.length (l.flatMap fE) :: L) → K (.tuple #[v, .bool true]) w1)
    (k2 : ∀ w1, elsOf lx lp = none → Hp S w0 w1 (ro tEl 4 (.slice none 0 0) ([] : List El).length (([] : List El).flatMap fE) :: L) → K (.tuple #[.slice none 0 0, .bool false]) w1) : Cl Tryz.prog 31 args w pan K := by
  refine Cl_i n_estimate_elements hc fun r w' ⟨x, hr⟩ => ?_
  rcases hr with ⟨l, v, h1, h2, h3⟩ | ⟨h1, h2⟩
  · subst h2
    have := elsOf_some h1
    exact k1 l v w' h1 this.2.2.1 this.2.2.2 (h.row x h3)
  · subst h2
    exact k2 w' h1 ((h.x x).nil _ _)
theorem tot_n {lx lp : List RS} (h : elsOf lx lp = none) : totO lx lp = none := by unfold totO; rw [h]; rfl
theorem tot_s {lx lp : List RS} {l : List El} (h : elsOf lx lp = some l) : totO lx lp = (oEst l).bind fun a => (oEsd l).map fun b => (a, b) := by unfold totO; rw [h]; rfl
theorem var_n {lx lp : List RS} (h : elsOf lx lp = none) : varO lx lp = none := by unfold varO; rw [h]; rfl
theorem var_s {lx lp : List RS} {l : List El} (h : elsOf lx lp = some l) : varO lx lp = oVar l := by unfold varO; rw [h]; rfl
theorem good_nil : ∀ e ∈ ([] : List El), El.ok e := fun e he => by simp at he
theorem oc {α : Type} (o : Option α) : o = none ∨ ∃ a, o = some a := by
  cases o
  · exact .inl rfl
  · exact .inr ⟨_, rfl⟩
set_option maxHeartbeats 2000000 in
theorem c_Total {w0 : World} {vx vp : Value} {lx lp : List RS} (hx : SlR w0 vx lx) (hp : SlR w0 vp lp) (kx : RSok lx) (kp : RSok lp) (he : En w0) :
    Calls Tryz.prog 14 #[vx, vp] w0 (Ret fun r w' => Ext w0 w' ∧ r = totV (totO lx lp)) := by
  apply e_estimate_Total
  unfold s_estimate_Total
  have h := Hp.init [] w0
  refine alS h fun g1 w h => ?_
  refine alS h fun g2 w h => ?_
  refine clEl h (c_elements (hx.ext h.ext) (hp.ext h.ext) kx kp (he.hz.ext h.ext) (he.hT.ext h.ext)) (fun l v w hE hg hl h => ?_) (fun w hE h => ?_)
  · have ht := tot_s hE
    have hok := fun e he => (hg e he).1
    refine Ex2 ?_
    refine alS h fun g3 w h => ?_
    refine Or.elim (oc (oEst l)) (fun hA => ?_) (fun hA => Exists.elim hA fun a hA => ?_)
    · refine clF h 0 rfl n_estimate_calculator_estimate (w_est h he 0 1 rfl rfl (by decide) (by omega) hok) (fl := true) (by rw [hA]; rfl) fun a w oa ha h => ?_
      refine clF h 0 rfl n_estimate_calculator_estimated (w_esd h he 0 1 rfl rfl (by decide) (by omega) hok) (fl := true) (by rfl) fun b w ob hb h => ?_
      refine alS h fun g4 w h => ?_
      refine alS h fun g5 w h => ?_
      refine stA h 1 rfl rfl rfl rfl fun w h => ?_
      refine stA h 0 rfl rfl rfl rfl fun w h => ?_
      refine Un_T ?_
      refine Gd_F ?_
      refine faS ?_
      refine Gd_F ?_
      refine faS ?_
      refine Gd_F ?_
      refine Eng.ld1 h 2 rfl rfl ?_
      refine Pick_F ?_
      refine If_T ?_
      iterate 2 refine bdS PC.nil (by rfl) ?_
      refine stA h 5 rfl rfl rfl rfl fun w h => ?_
      refine stA h 4 rfl rfl rfl rfl fun w h => ?_
      refine rcA h 5 rfl rfl ?_
      refine rcA h 4 rfl rfl ?_
      dsimp only [List.set] at h
      exact Ret.mk ⟨h.ext, by rw [ht, hA]; rfl⟩
    · refine clF h 0 rfl n_estimate_calculator_estimate (w_est h he 0 1 rfl rfl (by decide) (by omega) hok) (fl := false) (by rw [hA]; rfl) fun a w oa ha h => ?_
      refine Or.elim (oc (oEsd l)) (fun hB => ?_) (fun hB => Exists.elim hB fun b hB => ?_)
      · refine clF h 0 rfl n_estimate_calculator_estimated (w_esd h he 0 1 rfl rfl (by decide) (by omega) hok) (fl := true) (by rw [hB]; rfl) fun b w ob hb h => ?_
        refine alS h fun g4 w h => ?_
        refine alS h fun g5 w h => ?_
        refine stA h 1 rfl rfl rfl rfl fun w h => ?_
        refine stA h 0 rfl rfl rfl rfl fun w h => ?_
        refine Un_T ?_
        refine Gd_F ?_
        refine faS ?_
        refine Gd_F ?_
        refine faS ?_
        refine Gd_F ?_
        refine Eng.ld1 h 2 rfl rfl ?_
        refine Pick_F ?_
        refine If_T ?_
        iterate 2 refine bdS PC.nil (by rfl) ?_
        refine stA h 5 rfl rfl rfl rfl fun w h => ?_
        refine stA h 4 rfl rfl rfl rfl fun w h => ?_
        refine rcA h 5 rfl rfl ?_
        refine rcA h 4 rfl rfl ?_
        dsimp only [List.set] at h
        exact Ret.mk ⟨h.ext, by rw [ht, hA, hB]; rfl⟩
      · refine clF h 0 rfl n_estimate_calculator_estimated (w_esd h he 0 1 rfl rfl (by decide) (by omega) hok) (fl := false) (by rw [hB]; rfl) fun b w ob hb h => ?_
        refine alS h fun g4 w h => ?_
        refine alS h fun g5 w h => ?_
        refine stA h 1 rfl rfl rfl rfl fun w h => ?_
        refine stA h 0 rfl rfl rfl rfl fun w h => ?_
        refine Un_T ?_
        refine Gd_F ?_
        refine faS ?_
        refine Gd_F ?_
        refine faS ?_
        refine Gd_F ?_
        refine Eng.ld1 h 2 rfl rfl ?_
        refine Pick_F ?_
        refine If_F ?_
        replace h := h.dr
        refine dlA h 1 rfl rfl ?_
        refine dlA h 0 rfl rfl ?_
        refine stA h 5 rfl rfl rfl rfl fun w h => ?_
        refine klA h 0 rfl rfl ?_
        refine stA h 4 rfl rfl rfl rfl fun w h => ?_
        refine rcA h 5 rfl rfl ?_
        refine rcA h 4 rfl rfl ?_
        dsimp only [List.set] at h
        exact Ret.mk ⟨h.ext, by rw [ht, hA, hB, ha rfl, hA, hb rfl, hB]; rfl⟩
  · refine Ex2 ?_
    refine alS h fun g3 w h => ?_
    refine clF h 0 rfl n_estimate_calculator_estimate (w_est (l := []) h he 0 1 rfl rfl (by decide) (by decide) good_nil) (fl := false) (by rfl) fun a w oa ha h => ?_
    refine clF h 0 rfl n_estimate_calculator_estimated (w_esd (l := []) h he 0 1 rfl rfl (by decide) (by decide) good_nil) (fl := false) (by rfl) fun b w ob hb h => ?_
    refine alS h fun g4 w h => ?_
    refine alS h fun g5 w h => ?_
    refine stA h 1 rfl rfl rfl rfl fun w h => ?_
    refine stA h 0 rfl rfl rfl rfl fun w h => ?_
    refine Un_F ?_
    iterate 3 refine Gd_TF ?_
    refine Pick_T ?_
    refine If_T ?_
    iterate 2 refine bdS PC.nil (by rfl) ?_
    refine stA h 5 rfl rfl rfl rfl fun w h => ?_
    refine stA h 4 rfl rfl rfl rfl fun w h => ?_
    refine rcA h 5 rfl rfl ?_
    refine rcA h 4 rfl rfl ?_
    dsimp only [List.set] at h
    exact Ret.mk ⟨h.ext, by rw [tot_n hE]; rfl⟩
set_option maxHeartbeats 2000000 in
theorem c_Variance {w0 : World} {vx vp : Value} {lx lp : List RS} (hx : SlR w0 vx lx) (hp : SlR w0 vp lp) (kx : RSok lx) (kp : RSok lp) (he : En w0) :
    Calls Tryz.prog 16 #[vx, vp] w0 (Ret fun r w' => Ext w0 w' ∧ r = varV (varO lx lp)) := by
  apply e_estimate_Variance
  unfold s_estimate_Variance
  have h := Hp.init [] w0
  have z0 := he.hz.1
  refine alS h fun g1 w h => ?_
  refine clEl h (c_elements (hx.ext h.ext) (hp.ext h.ext) kx kp (he.hz.ext h.ext) (he.hT.ext h.ext)) (fun l v w hE hg hl h => ?_) (fun w hE h => ?_)
  · have ht := var_s hE
    have hok := fun e he => (hg e he).1
    refine Ex2 ?_
    refine alS h fun g2 w h => ?_
    refine lgA h (by assumption) (by rfl) ?_
    refine Or.elim (oc (oVar l)) (fun hA => ?_) (fun hA => Exists.elim hA fun a hA => ?_)
    · refine clF h 0 rfl n_estimate_fold_estimate_element (w_var h he 0 1 rfl rfl (by decide) (by omega) hok) (fl := true) (by rw [hA]; rfl) fun a w oa ha h => ?_
      refine alS h fun g3 w h => ?_
      refine stA h 0 rfl rfl rfl rfl fun w h => ?_
      refine Un_T ?_
      refine Gd_F ?_
      refine faS ?_
      refine Gd_F ?_
      refine faS ?_
      refine Gd_F ?_
      refine Eng.ld1 h 1 rfl rfl ?_
      refine Pick_F ?_
      refine If_T ?_
      refine bdS PC.nil (by rfl) ?_
      refine stA h 3 rfl rfl rfl rfl fun w h => ?_
      refine rcA h 3 rfl rfl ?_
      dsimp only [List.set] at h
      exact Ret.mk ⟨h.ext, by rw [ht, hA]; rfl⟩
    · refine clF h 0 rfl n_estimate_fold_estimate_element (w_var h he 0 1 rfl rfl (by decide) (by omega) hok) (fl := false) (by rw [hA]; rfl) fun a w oa ha h => ?_
      refine alS h fun g3 w h => ?_
      refine stA h 0 rfl rfl rfl rfl fun w h => ?_
      refine Un_T ?_
      refine Gd_F ?_
      refine faS ?_
      refine Gd_F ?_
      refine faS ?_
      refine Gd_F ?_
      refine Eng.ld1 h 1 rfl rfl ?_
      refine Pick_F ?_
      refine If_F ?_
      refine ldA h 0 rfl rfl ?_
      refine stA h 3 rfl rfl rfl rfl fun w h => ?_
      refine rcA h 3 rfl rfl ?_
      dsimp only [List.set] at h
      exact Ret.mk ⟨h.ext, by rw [ht, hA, ha rfl, hA]; rfl⟩
  · refine Ex2 ?_
    refine alS h fun g2 w h => ?_
    refine lgA h (by assumption) (by rfl) ?_
    refine clF h 0 rfl n_estimate_fold_estimate_element (w_var (l := []) h he 0 1 rfl rfl (by decide) (by decide) good_nil) (fl := false) (by rfl) fun a w oa ha h => ?_
    refine alS h fun g3 w h => ?_
    refine stA h 0 rfl rfl rfl rfl fun w h => ?_
    refine Un_F ?_
    iterate 3 refine Gd_TF ?_
    refine Pick_T ?_
    refine If_T ?_
    refine bdS PC.nil (by rfl) ?_
    refine stA h 3 rfl rfl rfl rfl fun w h => ?_
    refine rcA h 3 rfl rfl ?_
    dsimp only [List.set] at h
    exact Ret.mk ⟨h.ext, by rw [var_n hE]; rfl⟩
end Go.Proofs.YtnocjgmmglmfiaaGreatDoor
