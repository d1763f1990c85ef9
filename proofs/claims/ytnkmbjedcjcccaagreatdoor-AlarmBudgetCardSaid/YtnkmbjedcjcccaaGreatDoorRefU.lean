/-
  Contracts and plain lemmas. By an AI agent.
-/
import Derived.Test.YtnkmbjedcjcccaaGreatDoorRefZ
import Derived.Test.YtnkmbjedcjcccaaGreatDoorStrY
set_option linter.unusedSimpArgs false
set_option linter.unusedVariables false
set_option linter.unusedSectionVars false
namespace Go.Proofs.YtnkmbjedcjcccaaGreatDoor
open Go Go.Eng Go.Proofs Go.Num Go.RowKit
set_option maxRecDepth 100000
theorem bdI {x : Int} (hx : x.natAbs < MaxI) : (x.natAbs : Int) < 10 ^ 200 := by
 have e : ((MaxI : Nat) : Int) = 10 ^ 200 := by unfold MaxI; rfl
 rw [← e]; omega
theorem c_rDiv {x y : Int} {w : World} (hx : x.natAbs < MaxI) (hy : y.natAbs < MaxI) (hy1 : y ≠ 0) : Calls Tryz.prog 84 #[str (Lib.itoa x), str (Lib.itoa y)] w (Ret fun r w' => Ext w w' ∧ r = .tuple #[str (Lib.itoa (x / y)), str (Lib.itoa (x % y)), .int .i64 0]) := by
 have vx := vOK hx
 have vy := vOK hy
 have hM := MaxI_Mx
 have hp := MaxI_pos
 have hB := Tryz.underlying4
 have hL := hL44
 have hyne0 := not0 hy1
 by_cases hx0 : x < 0
 ·by_cases hy0 : y < 0
  ·apply e_ref03_Div
   unfold s_ref03_Div
   refine Cl1 n_ref03_Valid (vx w) fun w1 h1 => ?_
   (refine Un_T ?_; refine Gd_F ?_; refine Gd_F ?_)
   refine Cl1 n_ref03_Valid (vy w1) fun w2 h2 => ?_
   have h2 := h1.tr h2
   (refine Gd_F ?_; refine Un_T ?_; refine Pick_F ?_; refine Gd_F ?_; refine Gd_F ?_; (refine Bn_eqSF ?_ ?_; focus assumption); refine Pick_F ?_; refine If_F ?_)
   refine Cl_i n_ref03_digits (digits_b (b := true) hx (by simp; omega)) ?_
   rintro _ w3 ⟨h3, u, rfl, hu⟩
   have h3 := h2.tr h3
   refine Ex2 (Cl_i n_ref03_digits (digits_b (b := true) hy (by simp; omega)) ?_)
   rintro _ w4 ⟨h4, v, rfl, hv⟩
   have hu := hu.ext h4
   have h4 := h3.tr h4
   refine Ex2 ?_
   obtain ⟨xs, x1, x2, x3, x4⟩ := hu.bd (k := 200) (bdI hx)
   obtain ⟨ys, y1, y2, y3, y4⟩ := hv.bd (k := 200) (bdI hy)
   have hyne : ys ≠ [] := by intro hc; rw [hc] at y3; simp [num10] at y3; omega
   refine Cl_i n_ref03_divided (c_divided x1 y1 x2 y2 (by omega) (by omega) hyne) ?_
   rintro _ w5 ⟨h5, q, r, rfl, hq, hr⟩
   rw [x3, y3] at hq hr
   have h5' := h4.tr h5
   have em := Int.mul_ediv_add_emod (x.natAbs : Int) y.natAbs
   have r0 := Int.emod_nonneg (x.natAbs : Int) (show (y.natAbs : Int) ≠ 0 by omega)
   have r1 := Int.emod_lt_of_pos (x.natAbs : Int) (show (0 : Int) < y.natAbs by omega)
   obtain ⟨Q, hQ⟩ : ∃ Q, Q = (x.natAbs : Int) / y.natAbs := ⟨_, rfl⟩
   obtain ⟨R, hR⟩ : ∃ R, R = (x.natAbs : Int) % y.natAbs := ⟨_, rfl⟩
   rw [← hQ] at hq em
   rw [← hR] at hr em r0 r1
   have hq0 := hq.nonneg
   have hqx : Q ≤ x.natAbs := by rw [hQ]; exact Int.ediv_le_self _ (by omega)
   obtain ⟨zs, z1, z2, z3, z4⟩ := hr.bd (k := 200) (by have := bdI hy; omega)
   obtain ⟨a3, cap3, rfl⟩ := z1.slice
   refine Ex2 (Jn2.mk fun K hK => ?_)
   have fin : ∀ (u : Value) (Q' : Int) (v : Value) (R' : Int) W, DAt W u Q' → DAt W v R' → Ext w W → R' + y.natAbs * (sgn (decide (x < 0)) Q') = x → 0 ≤ R' → R' < y.natAbs → 0 ≤ Q' → Q' < Mx → K u v W := by
    intro u' Q' v' R' W hu' hv' hW e1 e2 e3 e4 e5
    obtain ⟨d1, d2⟩ := div_fin (show y ≠ 0 by omega) e1 e2 e3
    have hxy : (!decide (x < 0) == decide (y < 0)) = (true != true) := by rw [show decide (x < 0) = true from by simp; omega, show decide (y < 0) = true from by simp; omega]; rfl
    rw [hxy] at d1
    have hsz : (x / y).natAbs < MaxI := Nat.lt_of_le_of_lt (Int.natAbs_ediv_le_natAbs x y) hx
    refine hK _ _ _ ?_
    ((refine Bn_neBF ?_ ?_ ?_; (focus assumption); (focus decide)))
    refine Cl2 n_ref03_checked (Ret.lit (c_checked hu' e5) (by show resI (sgn (true != true) Q') = _; rw [← d1, resT hsz])) fun w6 h6 => ?_
    obtain ⟨rs, p1, p2, p3, p4⟩ := (hv'.ext h6).bd (k := 200) (by have := bdI hy; omega)
    refine Cl2 n_ref03_text (c_rtext (neg := false) p1 p2 (by omega)) fun w7 h7 => ?_
    ((refine Bn_neF ?_ ?_; focus omega); refine If_F ?_)
    refine Ret.mk ⟨(hW.tr h6).tr h7, ?_⟩
    rw [d2, p3]
    rfl
   by_cases hR0 : R = 0
   ·have hzl : zs.length = 0 := by
     refine Classical.byContradiction fun hc => ?_
     have := num10_pos z2 (by intro h; rw [h] at hc; exact hc rfl)
     omega
    (refine Gd_T ?_; refine Gd_T ?_; (refine Bt_lenL ?_ ?_; (focus assumption)); refine Gd_T ?_; (refine Bn_gtF ?_ ?_; focus omega); refine Pick_T ?_; refine If_F ?_)
    exact fin _ _ _ _ _ hq hr h5' (by simp only [sgn, decide_eq_true hx0, if_true]; rw [Int.mul_neg]; omega) r0 r1 hq0 (by omega)
   ·have hzl : 0 < zs.length := by
     refine List.length_pos_iff.2 ?_
     intro hc; rw [hc] at z3; simp [num10] at z3; omega
    (refine Gd_T ?_; refine Gd_T ?_; (refine Bt_lenL ?_ ?_; (focus assumption)); refine Gd_T ?_; (refine Bn_gtT ?_ ?_; focus omega); refine Pick_T ?_; refine If_T ?_)
    refine Bs_own sliI rfl (Nat.le_refl w5.heap.size) ?_
    intro v1 w6 o6 g6 _
    have h6 := World.grownBy.ext g6
    obtain ⟨qs, q1, q2, q3, q4⟩ := (hq.ext h6).get (by omega)
    refine Cl_i n_ref03_plus (c_rplus (ys := [1]) q1 o6.slAt q2 ⟨by intro d hd; simp at hd; omega, by decide⟩ (by omega) (by decide)) ?_
    rintro r2 w7 ⟨h7, hr2⟩
    rw [q3] at hr2
    have h67 := h6.tr h7
    refine Cl_i n_ref03_minus (c_rminus (SlAt.ext y1 (h5.tr h67)) (SlAt.ext z1 h67) y2 z2 (by omega) (by omega)) ?_
    rintro r3 w8 ⟨h8, hr3, _⟩
    rw [y3, z3] at hr3
    have e10 : num10 [1] = 1 := by simp [num10]
    rw [e10] at hr2
    exact fin _ _ _ _ _ (hr2.ext h8) hr3 ((h5'.tr h67).tr h8) (by simp only [sgn, decide_eq_true hx0, if_true]; rw [Int.mul_neg, Int.mul_add]; omega) (by omega) (by omega) (by omega) (by omega)
  ·apply e_ref03_Div
   unfold s_ref03_Div
   refine Cl1 n_ref03_Valid (vx w) fun w1 h1 => ?_
   (refine Un_T ?_; refine Gd_F ?_; refine Gd_F ?_)
   refine Cl1 n_ref03_Valid (vy w1) fun w2 h2 => ?_
   have h2 := h1.tr h2
   (refine Gd_F ?_; refine Un_T ?_; refine Pick_F ?_; refine Gd_F ?_; refine Gd_F ?_; (refine Bn_eqSF ?_ ?_; focus assumption); refine Pick_F ?_; refine If_F ?_)
   refine Cl_i n_ref03_digits (digits_b (b := true) hx (by simp; omega)) ?_
   rintro _ w3 ⟨h3, u, rfl, hu⟩
   have h3 := h2.tr h3
   refine Ex2 (Cl_i n_ref03_digits (digits_b (b := false) hy (by simp; omega)) ?_)
   rintro _ w4 ⟨h4, v, rfl, hv⟩
   have hu := hu.ext h4
   have h4 := h3.tr h4
   refine Ex2 ?_
   obtain ⟨xs, x1, x2, x3, x4⟩ := hu.bd (k := 200) (bdI hx)
   obtain ⟨ys, y1, y2, y3, y4⟩ := hv.bd (k := 200) (bdI hy)
   have hyne : ys ≠ [] := by intro hc; rw [hc] at y3; simp [num10] at y3; omega
   refine Cl_i n_ref03_divided (c_divided x1 y1 x2 y2 (by omega) (by omega) hyne) ?_
   rintro _ w5 ⟨h5, q, r, rfl, hq, hr⟩
   rw [x3, y3] at hq hr
   have h5' := h4.tr h5
   have em := Int.mul_ediv_add_emod (x.natAbs : Int) y.natAbs
   have r0 := Int.emod_nonneg (x.natAbs : Int) (show (y.natAbs : Int) ≠ 0 by omega)
   have r1 := Int.emod_lt_of_pos (x.natAbs : Int) (show (0 : Int) < y.natAbs by omega)
   obtain ⟨Q, hQ⟩ : ∃ Q, Q = (x.natAbs : Int) / y.natAbs := ⟨_, rfl⟩
   obtain ⟨R, hR⟩ : ∃ R, R = (x.natAbs : Int) % y.natAbs := ⟨_, rfl⟩
   rw [← hQ] at hq em
   rw [← hR] at hr em r0 r1
   have hq0 := hq.nonneg
   have hqx : Q ≤ x.natAbs := by rw [hQ]; exact Int.ediv_le_self _ (by omega)
   obtain ⟨zs, z1, z2, z3, z4⟩ := hr.bd (k := 200) (by have := bdI hy; omega)
   obtain ⟨a3, cap3, rfl⟩ := z1.slice
   refine Ex2 (Jn2.mk fun K hK => ?_)
   have fin : ∀ (u : Value) (Q' : Int) (v : Value) (R' : Int) W, DAt W u Q' → DAt W v R' → Ext w W → R' + y.natAbs * (sgn (decide (x < 0)) Q') = x → 0 ≤ R' → R' < y.natAbs → 0 ≤ Q' → Q' < Mx → K u v W := by
    intro u' Q' v' R' W hu' hv' hW e1 e2 e3 e4 e5
    obtain ⟨d1, d2⟩ := div_fin (show y ≠ 0 by omega) e1 e2 e3
    have hxy : (!decide (x < 0) == decide (y < 0)) = (true != false) := by rw [show decide (x < 0) = true from by simp; omega, show decide (y < 0) = false from by simp; omega]; rfl
    rw [hxy] at d1
    have hsz : (x / y).natAbs < MaxI := Nat.lt_of_le_of_lt (Int.natAbs_ediv_le_natAbs x y) hx
    refine hK _ _ _ ?_
    ((refine Bn_neBT ?_ ?_ ?_; (focus assumption); (focus decide)))
    refine Cl2 n_ref03_checked (Ret.lit (c_checked hu' e5) (by show resI (sgn (true != false) Q') = _; rw [← d1, resT hsz])) fun w6 h6 => ?_
    obtain ⟨rs, p1, p2, p3, p4⟩ := (hv'.ext h6).bd (k := 200) (by have := bdI hy; omega)
    refine Cl2 n_ref03_text (c_rtext (neg := false) p1 p2 (by omega)) fun w7 h7 => ?_
    ((refine Bn_neF ?_ ?_; focus omega); refine If_F ?_)
    refine Ret.mk ⟨(hW.tr h6).tr h7, ?_⟩
    rw [d2, p3]
    rfl
   by_cases hR0 : R = 0
   ·have hzl : zs.length = 0 := by
     refine Classical.byContradiction fun hc => ?_
     have := num10_pos z2 (by intro h; rw [h] at hc; exact hc rfl)
     omega
    (refine Gd_T ?_; refine Gd_T ?_; (refine Bt_lenL ?_ ?_; (focus assumption)); refine Gd_T ?_; (refine Bn_gtF ?_ ?_; focus omega); refine Pick_T ?_; refine If_F ?_)
    exact fin _ _ _ _ _ hq hr h5' (by simp only [sgn, decide_eq_true hx0, if_true]; rw [Int.mul_neg]; omega) r0 r1 hq0 (by omega)
   ·have hzl : 0 < zs.length := by
     refine List.length_pos_iff.2 ?_
     intro hc; rw [hc] at z3; simp [num10] at z3; omega
    (refine Gd_T ?_; refine Gd_T ?_; (refine Bt_lenL ?_ ?_; (focus assumption)); refine Gd_T ?_; (refine Bn_gtT ?_ ?_; focus omega); refine Pick_T ?_; refine If_T ?_)
    refine Bs_own sliI rfl (Nat.le_refl w5.heap.size) ?_
    intro v1 w6 o6 g6 _
    have h6 := World.grownBy.ext g6
    obtain ⟨qs, q1, q2, q3, q4⟩ := (hq.ext h6).get (by omega)
    refine Cl_i n_ref03_plus (c_rplus (ys := [1]) q1 o6.slAt q2 ⟨by intro d hd; simp at hd; omega, by decide⟩ (by omega) (by decide)) ?_
    rintro r2 w7 ⟨h7, hr2⟩
    rw [q3] at hr2
    have h67 := h6.tr h7
    refine Cl_i n_ref03_minus (c_rminus (SlAt.ext y1 (h5.tr h67)) (SlAt.ext z1 h67) y2 z2 (by omega) (by omega)) ?_
    rintro r3 w8 ⟨h8, hr3, _⟩
    rw [y3, z3] at hr3
    have e10 : num10 [1] = 1 := by simp [num10]
    rw [e10] at hr2
    exact fin _ _ _ _ _ (hr2.ext h8) hr3 ((h5'.tr h67).tr h8) (by simp only [sgn, decide_eq_true hx0, if_true]; rw [Int.mul_neg, Int.mul_add]; omega) (by omega) (by omega) (by omega) (by omega)
 ·by_cases hy0 : y < 0
  ·apply e_ref03_Div
   unfold s_ref03_Div
   refine Cl1 n_ref03_Valid (vx w) fun w1 h1 => ?_
   (refine Un_T ?_; refine Gd_F ?_; refine Gd_F ?_)
   refine Cl1 n_ref03_Valid (vy w1) fun w2 h2 => ?_
   have h2 := h1.tr h2
   (refine Gd_F ?_; refine Un_T ?_; refine Pick_F ?_; refine Gd_F ?_; refine Gd_F ?_; (refine Bn_eqSF ?_ ?_; focus assumption); refine Pick_F ?_; refine If_F ?_)
   refine Cl_i n_ref03_digits (digits_b (b := false) hx (by simp; omega)) ?_
   rintro _ w3 ⟨h3, u, rfl, hu⟩
   have h3 := h2.tr h3
   refine Ex2 (Cl_i n_ref03_digits (digits_b (b := true) hy (by simp; omega)) ?_)
   rintro _ w4 ⟨h4, v, rfl, hv⟩
   have hu := hu.ext h4
   have h4 := h3.tr h4
   refine Ex2 ?_
   obtain ⟨xs, x1, x2, x3, x4⟩ := hu.bd (k := 200) (bdI hx)
   obtain ⟨ys, y1, y2, y3, y4⟩ := hv.bd (k := 200) (bdI hy)
   have hyne : ys ≠ [] := by intro hc; rw [hc] at y3; simp [num10] at y3; omega
   refine Cl_i n_ref03_divided (c_divided x1 y1 x2 y2 (by omega) (by omega) hyne) ?_
   rintro _ w5 ⟨h5, q, r, rfl, hq, hr⟩
   rw [x3, y3] at hq hr
   have h5' := h4.tr h5
   have em := Int.mul_ediv_add_emod (x.natAbs : Int) y.natAbs
   have r0 := Int.emod_nonneg (x.natAbs : Int) (show (y.natAbs : Int) ≠ 0 by omega)
   have r1 := Int.emod_lt_of_pos (x.natAbs : Int) (show (0 : Int) < y.natAbs by omega)
   obtain ⟨Q, hQ⟩ : ∃ Q, Q = (x.natAbs : Int) / y.natAbs := ⟨_, rfl⟩
   obtain ⟨R, hR⟩ : ∃ R, R = (x.natAbs : Int) % y.natAbs := ⟨_, rfl⟩
   rw [← hQ] at hq em
   rw [← hR] at hr em r0 r1
   have hq0 := hq.nonneg
   have hqx : Q ≤ x.natAbs := by rw [hQ]; exact Int.ediv_le_self _ (by omega)
   obtain ⟨zs, z1, z2, z3, z4⟩ := hr.bd (k := 200) (by have := bdI hy; omega)
   obtain ⟨a3, cap3, rfl⟩ := z1.slice
   refine Ex2 (Jn2.mk fun K hK => ?_)
   have fin : ∀ (u : Value) (Q' : Int) (v : Value) (R' : Int) W, DAt W u Q' → DAt W v R' → Ext w W → R' + y.natAbs * (sgn (decide (x < 0)) Q') = x → 0 ≤ R' → R' < y.natAbs → 0 ≤ Q' → Q' < Mx → K u v W := by
    intro u' Q' v' R' W hu' hv' hW e1 e2 e3 e4 e5
    obtain ⟨d1, d2⟩ := div_fin (show y ≠ 0 by omega) e1 e2 e3
    have hxy : (!decide (x < 0) == decide (y < 0)) = (false != true) := by rw [show decide (x < 0) = false from by simp; omega, show decide (y < 0) = true from by simp; omega]; rfl
    rw [hxy] at d1
    have hsz : (x / y).natAbs < MaxI := Nat.lt_of_le_of_lt (Int.natAbs_ediv_le_natAbs x y) hx
    refine hK _ _ _ ?_
    ((refine Bn_neBT ?_ ?_ ?_; (focus assumption); (focus decide)))
    refine Cl2 n_ref03_checked (Ret.lit (c_checked hu' e5) (by show resI (sgn (false != true) Q') = _; rw [← d1, resT hsz])) fun w6 h6 => ?_
    obtain ⟨rs, p1, p2, p3, p4⟩ := (hv'.ext h6).bd (k := 200) (by have := bdI hy; omega)
    refine Cl2 n_ref03_text (c_rtext (neg := false) p1 p2 (by omega)) fun w7 h7 => ?_
    ((refine Bn_neF ?_ ?_; focus omega); refine If_F ?_)
    refine Ret.mk ⟨(hW.tr h6).tr h7, ?_⟩
    rw [d2, p3]
    rfl
   (refine Gd_FT ?_; refine Gd_FT ?_; refine Gd_FT ?_; refine Pick_F ?_; refine If_F ?_)
   exact fin _ _ _ _ _ hq hr h5' (by simp only [sgn, decide_eq_false hx0]; simp; omega) r0 r1 hq0 (by omega)
  ·apply e_ref03_Div
   unfold s_ref03_Div
   refine Cl1 n_ref03_Valid (vx w) fun w1 h1 => ?_
   (refine Un_T ?_; refine Gd_F ?_; refine Gd_F ?_)
   refine Cl1 n_ref03_Valid (vy w1) fun w2 h2 => ?_
   have h2 := h1.tr h2
   (refine Gd_F ?_; refine Un_T ?_; refine Pick_F ?_; refine Gd_F ?_; refine Gd_F ?_; (refine Bn_eqSF ?_ ?_; focus assumption); refine Pick_F ?_; refine If_F ?_)
   refine Cl_i n_ref03_digits (digits_b (b := false) hx (by simp; omega)) ?_
   rintro _ w3 ⟨h3, u, rfl, hu⟩
   have h3 := h2.tr h3
   refine Ex2 (Cl_i n_ref03_digits (digits_b (b := false) hy (by simp; omega)) ?_)
   rintro _ w4 ⟨h4, v, rfl, hv⟩
   have hu := hu.ext h4
   have h4 := h3.tr h4
   refine Ex2 ?_
   obtain ⟨xs, x1, x2, x3, x4⟩ := hu.bd (k := 200) (bdI hx)
   obtain ⟨ys, y1, y2, y3, y4⟩ := hv.bd (k := 200) (bdI hy)
   have hyne : ys ≠ [] := by intro hc; rw [hc] at y3; simp [num10] at y3; omega
   refine Cl_i n_ref03_divided (c_divided x1 y1 x2 y2 (by omega) (by omega) hyne) ?_
   rintro _ w5 ⟨h5, q, r, rfl, hq, hr⟩
   rw [x3, y3] at hq hr
   have h5' := h4.tr h5
   have em := Int.mul_ediv_add_emod (x.natAbs : Int) y.natAbs
   have r0 := Int.emod_nonneg (x.natAbs : Int) (show (y.natAbs : Int) ≠ 0 by omega)
   have r1 := Int.emod_lt_of_pos (x.natAbs : Int) (show (0 : Int) < y.natAbs by omega)
   obtain ⟨Q, hQ⟩ : ∃ Q, Q = (x.natAbs : Int) / y.natAbs := ⟨_, rfl⟩
   obtain ⟨R, hR⟩ : ∃ R, R = (x.natAbs : Int) % y.natAbs := ⟨_, rfl⟩
   rw [← hQ] at hq em
   rw [← hR] at hr em r0 r1
   have hq0 := hq.nonneg
   have hqx : Q ≤ x.natAbs := by rw [hQ]; exact Int.ediv_le_self _ (by omega)
   obtain ⟨zs, z1, z2, z3, z4⟩ := hr.bd (k := 200) (by have := bdI hy; omega)
   obtain ⟨a3, cap3, rfl⟩ := z1.slice
   refine Ex2 (Jn2.mk fun K hK => ?_)
   have fin : ∀ (u : Value) (Q' : Int) (v : Value) (R' : Int) W, DAt W u Q' → DAt W v R' → Ext w W → R' + y.natAbs * (sgn (decide (x < 0)) Q') = x → 0 ≤ R' → R' < y.natAbs → 0 ≤ Q' → Q' < Mx → K u v W := by
    intro u' Q' v' R' W hu' hv' hW e1 e2 e3 e4 e5
    obtain ⟨d1, d2⟩ := div_fin (show y ≠ 0 by omega) e1 e2 e3
    have hxy : (!decide (x < 0) == decide (y < 0)) = (false != false) := by rw [show decide (x < 0) = false from by simp; omega, show decide (y < 0) = false from by simp; omega]; rfl
    rw [hxy] at d1
    have hsz : (x / y).natAbs < MaxI := Nat.lt_of_le_of_lt (Int.natAbs_ediv_le_natAbs x y) hx
    refine hK _ _ _ ?_
    ((refine Bn_neBF ?_ ?_ ?_; (focus assumption); (focus decide)))
    refine Cl2 n_ref03_checked (Ret.lit (c_checked hu' e5) (by show resI (sgn (false != false) Q') = _; rw [← d1, resT hsz])) fun w6 h6 => ?_
    obtain ⟨rs, p1, p2, p3, p4⟩ := (hv'.ext h6).bd (k := 200) (by have := bdI hy; omega)
    refine Cl2 n_ref03_text (c_rtext (neg := false) p1 p2 (by omega)) fun w7 h7 => ?_
    ((refine Bn_neF ?_ ?_; focus omega); refine If_F ?_)
    refine Ret.mk ⟨(hW.tr h6).tr h7, ?_⟩
    rw [d2, p3]
    rfl
   (refine Gd_FT ?_; refine Gd_FT ?_; refine Gd_FT ?_; refine Pick_F ?_; refine If_F ?_)
   exact fin _ _ _ _ _ hq hr h5' (by simp only [sgn, decide_eq_false hx0]; simp; omega) r0 r1 hq0 (by omega)
theorem c_rGcd {x y : Int} {w : World} (hx : x.natAbs < MaxI) (hy : y.natAbs < MaxI) : Calls Tryz.prog 119 #[str (Lib.itoa x), str (Lib.itoa y)] w (Ret fun r w' => Ext w w' ∧ r = resI (Int.gcd x y)) := by
 have vx := vOK hx
 have vy := vOK hy
 have hM := MaxI_Mx
 have hp := MaxI_pos
 have hL := hL44
 apply e_ref03_Gcd
 unfold s_ref03_Gcd
 refine Cl1 n_ref03_Valid (vx w) fun w1 h1 => ?_
 (refine Un_T ?_; refine Gd_F ?_; refine Gd_F ?_)
 refine Cl1 n_ref03_Valid (vy w1) fun w2 h2 => ?_
 have h2 := h1.tr h2
 (refine Gd_F ?_; refine Un_T ?_; refine Pick_F ?_; refine If_F ?_)
 refine Cl_i n_ref03_digits (c_digits hx) ?_
 rintro _ w3 ⟨h3, u, rfl, hu⟩
 have h3 := h2.tr h3
 refine Ex2 (Cl_i n_ref03_digits (c_digits hy) ?_)
 rintro _ w4 ⟨h4, v, rfl, hv⟩
 have hu := hu.ext h4
 have h4 := h3.tr h4
 refine Ex2 ?_
 obtain ⟨I, hI⟩ : ∃ I : Value → Value → World → Prop, I = fun k l W => ∃ a b : Nat, DAt W k a ∧ DAt W l b ∧ Nat.gcd a b = Int.gcd x y ∧ a < MaxI ∧ b < MaxI ∧ Ext w W := ⟨_, rfl⟩
 refine Lp2.mk I (fun _ l W => (dV W l).toNat) (by rw [hI]; exact ⟨x.natAbs, y.natAbs, hu, hv, rfl, hx, hy, h4⟩) ?_
 intro k l W hh
 rw [hI] at hh
 obtain ⟨a, b, ka, lb, hg, ha, hb, hW⟩ := hh
 have hdl := dV_eq lb
 have hbd : ∀ n : Nat, n < MaxI → (n : Int) < 10 ^ 200 := fun n hn => by
  have e : ((MaxI : Nat) : Int) = 10 ^ 200 := by unfold MaxI; rfl
  rw [← e]; omega
 obtain ⟨zs, z1, z2, z3, z4⟩ := lb.bd (k := 200) (hbd b hb)
 obtain ⟨a4, cap4, rfl⟩ := z1.slice
 by_cases hb0 : b = 0
 ·have hzl : zs.length = 0 := by
   refine Classical.byContradiction fun hc => ?_
   have := num10_pos z2 (by intro h; rw [h] at hc; exact hc rfl)
   omega
  ((refine Bt_lenL ?_ ?_; (focus assumption)); (refine Bn_gtF ?_ ?_; focus omega); refine If_F ?_)
  obtain ⟨p, p', hpp⟩ := resI_tuple (Int.gcd x y : Int)
  have hag : sg false (a : Int) = (Int.gcd x y : Int) := by
   show (a : Int) = _
   rw [← hg, hb0, Nat.gcd_zero_right]
  refine Cl2 n_ref03_checked (Ret.lit (c_checked ka (by omega)) (by rw [hag, hpp])) fun w6 h6 => ?_
  exact Ret.mk ⟨hW.tr h6, hpp.symm⟩
 ·have hzne : zs ≠ [] := by intro hc; rw [hc] at z3; simp [num10] at z3; omega
  have hzl : 0 < zs.length := List.length_pos_iff.2 hzne
  obtain ⟨ys, y1, y2, y3, y4⟩ := ka.bd (k := 200) (hbd a ha)
  ((refine Bt_lenL ?_ ?_; (focus assumption)); (refine Bn_gtT ?_ ?_; focus omega); refine If_T ?_)
  refine Cl_i n_ref03_divided (c_divided y1 z1 y2 z2 (by omega) (by omega) hzne) ?_
  rintro _ w5 ⟨h5, q, r, rfl, hq, hr⟩
  rw [y3, z3] at hr
  have hcast : (a : Int) % b = ((a % b : Nat) : Int) := by simp
  rw [hcast] at hr
  have hlt : a % b < b := Nat.mod_lt _ (by omega)
  refine Ex2 ?_
  refine ⟨?_, ?_⟩
  ·rw [hI]
   refine ⟨b, a % b, lb.ext h5, hr, ?_, hb, by omega, hW.tr h5⟩
   rw [Nat.gcd_comm, ← Nat.gcd_rec, Nat.gcd_comm, hg]
  ·rw [dV_eq hr, hdl]; omega
end Go.Proofs.YtnkmbjedcjcccaaGreatDoor
