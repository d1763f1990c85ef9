/-
  Contracts and plain lemmas. By an AI agent.
-/
import Derived.Test.YtnkmbjedcjcccaaGreatDoorRefY
set_option linter.unusedSimpArgs false
set_option linter.unusedVariables false
set_option linter.unusedSectionVars false
namespace Go.Proofs.YtnkmbjedcjcccaaGreatDoor
open Go Go.Eng Go.Proofs Go.Num Go.RowKit
set_option maxRecDepth 100000
def vB (u : List UInt8) : Bool := decide (u ≠ [] ∧ u.length ≤ 200 ∧ ∀ b ∈ u, isD b) && (u == [48] || u.head? != some 48)
theorem validB_eq (s : List UInt8) : validB s = (decide (Lib.trimPrefix s [45] ≠ [] ∧ (Lib.trimPrefix s [45]).length ≤ 200 ∧ ∀ b ∈ Lib.trimPrefix s [45], isD b) && (s == [48] || (Lib.trimPrefix s [45]).head? != some 48)) := by
 unfold validB
 rw [Bool.eq_iff_iff]
 simp
theorem c_rValid {s : List UInt8} {w : World} (hl : s.length ≤ 1000000) : Calls Tryz.prog 118 #[str s] w (Ret fun r w' => Ext w w' ∧ r = .bool (validB s)) := by
 have hS : Tryz.prog.underlying 9 = some .string := Tryz.underlying9
 apply e_ref03_Valid
 unfold s_ref03_Valid
 refine Jn1.mk fun K hK => ?_
 have main : ∀ u : List UInt8, u.length ≤ s.length → vB u = validB s → K (str u) w := by
  intro u hul hv
  refine hK _ _ ?_
  obtain ⟨I, hI⟩ : ∃ I : Value → World → Prop, I = (fun i W => W = w ∧ ∃ j : Nat, j ≤ u.length ∧ i = .int .i64 j ∧ ∀ b ∈ u.take j, isD b) := ⟨_, rfl⟩
  obtain ⟨μ, hμ⟩ : ∃ μ : Value → World → Nat, μ = (fun i _ => match i with | .int _ i' => (u.length - i').toNat | _ => 0) := ⟨_, rfl⟩
  refine Lp1.mk I μ (by rw [hI]; exact ⟨rfl, 0, by omega, rfl, by simp⟩) ?_
  intro i W hh
  rw [hI] at hh
  obtain ⟨rfl, j, hj, rfl, hd⟩ := hh
  by_cases hgo : j < u.length
  ·have hat : u[j]? = some u[j] := List.getElem?_eq_getElem hgo
   obtain ⟨b, hb⟩ : ∃ b, b = u[j] := ⟨_, rfl⟩
   rw [← hb] at hat
   have hbm : b ∈ u := by rw [hb]; exact List.getElem_mem _
   have bad : ¬ isD b → false = validB s := by
    intro h
    rw [← hv]
    unfold vB
    rw [decide_eq_false (fun hc => h (hc.2.2 b hbm))]; rfl
   by_cases h1 : b.toNat < 48
   ·((refine Bt_lenS ?_ ?_; (focus assumption)); (refine Bn_ltT ?_ ?_; focus omega); refine If_T ?_)
    refine Ix_s (j := j) rfl hat (by omega) ?_
    ((refine Bn_ltT ?_ ?_; focus omega); refine Gd_TF ?_; refine Gd_TF ?_; refine Gd_TF ?_; refine Gd_TF ?_; refine Pick_T ?_; refine If_T ?_)
    exact Ret.mk ⟨.refl _, by rw [← bad (by unfold isD; omega)]⟩
   ·by_cases h2 : 57 < b.toNat
    ·((refine Bt_lenS ?_ ?_; (focus assumption)); (refine Bn_ltT ?_ ?_; focus omega); refine If_T ?_)
     refine Ix_s (j := j) rfl hat (by omega) ?_
     ((refine Bn_ltF ?_ ?_; focus omega); refine Gd_F ?_; refine Gd_F ?_; refine Gd_F ?_)
     refine Ix_s (j := j) rfl hat (by omega) ?_
     (refine Gd_F ?_; (refine Bn_gtT ?_ ?_; focus omega); refine Pick_F ?_; refine If_T ?_)
     exact Ret.mk ⟨.refl _, by rw [← bad (by unfold isD; omega)]⟩
    ·((refine Bt_lenS ?_ ?_; (focus assumption)); (refine Bn_ltT ?_ ?_; focus omega); refine If_T ?_)
     refine Ix_s (j := j) rfl hat (by omega) ?_
     ((refine Bn_ltF ?_ ?_; focus omega); refine Gd_F ?_; refine Gd_F ?_; refine Gd_F ?_)
     refine Ix_s (j := j) rfl hat (by omega) ?_
     (refine Gd_F ?_; (refine Bn_gtF ?_ ?_; focus omega); refine Pick_F ?_; refine If_F ?_; (refine Bn_ad ?_ ?_ ?_; (focus omega); (focus omega)))
     rw [hI, hμ]
     refine ⟨⟨rfl, j + 1, by omega, by push_cast; rfl, ?_⟩, by simp only []; omega⟩
     intro x hx
     rw [List.take_add_one, hat] at hx
     rcases List.mem_append.1 hx with h | h
     ·exact hd x h
     ·simp at h; rw [h]; unfold isD; omega
  ·have hall : ∀ b ∈ u, isD b := by rw [List.take_of_length_le (by omega)] at hd; exact hd
   by_cases hu0 : u = []
   ·have hul0 : u.length = 0 := by rw [hu0]; rfl
    have hv' : validB s = false := by rw [← hv, hu0]; rfl
    rw [hv']
    ((refine Bt_lenS ?_ ?_; (focus assumption)); (refine Bn_ltF ?_ ?_; focus omega); refine If_F ?_; (refine Bt_lenS ?_ ?_; (focus assumption)); (refine Bn_gtF ?_ ?_; focus omega); refine Gd_FT ?_; refine Gd_FT ?_; refine Gd_FT ?_; refine Pick_F ?_; refine Gd_FT ?_; refine Gd_FT ?_; refine Gd_FT ?_; refine Gd_U ?_; refine Gd_U ?_; refine Gd_U ?_; refine Gd_FT ?_; refine Pick_F ?_)
    exact Ret.mk ⟨.refl _, rfl⟩
   ·have hup : 0 < u.length := List.length_pos_iff.2 hu0
    by_cases h200 : u.length ≤ 200
    ·have hbase : decide (u ≠ [] ∧ u.length ≤ 200 ∧ ∀ b ∈ u, isD b) = true := decide_eq_true ⟨hu0, h200, hall⟩
     by_cases h48 : (u == [48]) = true
     ·have hv' : validB s = true := by rw [← hv]; unfold vB; rw [hbase, h48]; rfl
      rw [hv']
      ((refine Bt_lenS ?_ ?_; (focus assumption)); (refine Bn_ltF ?_ ?_; focus omega); refine If_F ?_; (refine Bt_lenS ?_ ?_; (focus assumption)); (refine Bn_gtT ?_ ?_; focus omega); refine Gd_T ?_; refine Gd_T ?_; (refine Bt_lenS ?_ ?_; (focus assumption)); refine Gd_T ?_; (refine Bn_leT ?_ ?_; focus omega); refine Pick_T ?_; refine Gd_T ?_; refine Gd_T ?_; (refine Bn_eqS1 ?_ ?_; focus assumption); refine Gd_T ?_; refine Gd_TF ?_; refine Gd_TF ?_; refine Gd_TF ?_; refine Gd_T ?_; refine Pick_T ?_; refine Pick_T ?_)
      exact Ret.mk ⟨.refl _, rfl⟩
     ·have h48' : (u == [48]) = false := by simpa using h48
      have hat : u[0]? = some u[0] := List.getElem?_eq_getElem hup
      obtain ⟨b, hb⟩ : ∃ b, b = u[0] := ⟨_, rfl⟩
      rw [← hb] at hat
      have hhd : u.head? = some b := by rw [List.head?_eq_getElem?]; exact hat
      by_cases hb48 : b.toNat = 48
      ·have hv' : validB s = false := by
        rw [← hv]; unfold vB
        rw [hbase, h48', hhd, byte_ext (show b.toNat = (48 : UInt8).toNat from hb48)]; rfl
       rw [hv']
       ((refine Bt_lenS ?_ ?_; (focus assumption)); (refine Bn_ltF ?_ ?_; focus omega); refine If_F ?_; (refine Bt_lenS ?_ ?_; (focus assumption)); (refine Bn_gtT ?_ ?_; focus omega); refine Gd_T ?_; refine Gd_T ?_; (refine Bt_lenS ?_ ?_; (focus assumption)); refine Gd_T ?_; (refine Bn_leT ?_ ?_; focus omega); refine Pick_T ?_; refine Gd_T ?_; refine Gd_T ?_; (refine Bn_eqSF ?_ ?_; focus assumption); refine Gd_T ?_; refine Gd_F ?_; refine Gd_F ?_)
       refine Ix_s (j := 0) rfl hat (by omega) ?_
       (refine Gd_F ?_; (refine Bn_neF ?_ ?_; focus omega); refine Gd_T ?_; refine Pick_F ?_; refine Pick_T ?_)
       exact Ret.mk ⟨.refl _, rfl⟩
      ·have hv' : validB s = true := by
        rw [← hv]; unfold vB
        rw [hbase, h48', hhd]
        have : (some b != some (48 : UInt8)) = true := by
         rw [bne_iff_ne]; intro hc; simp at hc; rw [hc] at hb48; exact hb48 rfl
        rw [this]; rfl
       rw [hv']
       ((refine Bt_lenS ?_ ?_; (focus assumption)); (refine Bn_ltF ?_ ?_; focus omega); refine If_F ?_; (refine Bt_lenS ?_ ?_; (focus assumption)); (refine Bn_gtT ?_ ?_; focus omega); refine Gd_T ?_; refine Gd_T ?_; (refine Bt_lenS ?_ ?_; (focus assumption)); refine Gd_T ?_; (refine Bn_leT ?_ ?_; focus omega); refine Pick_T ?_; refine Gd_T ?_; refine Gd_T ?_; (refine Bn_eqSF ?_ ?_; focus assumption); refine Gd_T ?_; refine Gd_F ?_; refine Gd_F ?_)
       refine Ix_s (j := 0) rfl hat (by omega) ?_
       (refine Gd_F ?_; (refine Bn_neT ?_ ?_; focus omega); refine Gd_T ?_; refine Pick_F ?_; refine Pick_T ?_)
       exact Ret.mk ⟨.refl _, rfl⟩
    ·have hv' : validB s = false := by
      rw [← hv]; unfold vB
      rw [decide_eq_false (fun hc => h200 hc.2.1)]; rfl
     rw [hv']
     ((refine Bt_lenS ?_ ?_; (focus assumption)); (refine Bn_ltF ?_ ?_; focus omega); refine If_F ?_; (refine Bt_lenS ?_ ?_; (focus assumption)); (refine Bn_gtT ?_ ?_; focus omega); refine Gd_T ?_; refine Gd_T ?_; (refine Bt_lenS ?_ ?_; (focus assumption)); refine Gd_T ?_; (refine Bn_leF ?_ ?_; focus omega); refine Pick_T ?_; refine Gd_FT ?_; refine Gd_FT ?_; refine Gd_FT ?_; refine Gd_U ?_; refine Gd_U ?_; refine Gd_U ?_; refine Gd_FT ?_; refine Pick_F ?_)
     exact Ret.mk ⟨.refl _, rfl⟩
 cases s with
 | nil =>
  refine Bt_lenS hS ?_
  refine Bn_gtF (by simp) ?_
  (refine Gd_FT ?_; refine Gd_FT ?_; refine Gd_FT ?_; refine Pick_F ?_; refine If_F ?_)
  exact main [] (Nat.le_refl _) rfl
 | cons a r =>
  have hrl : r.length + 1 ≤ 1000000 := by simpa using hl
  have hlen : (a :: r).length = r.length + 1 := rfl
  by_cases ha : a.toNat = 45
  ·have ha' : a = 45 := byte_ext (show a.toNat = (45 : UInt8).toNat from ha)
   have hne : ((45 : UInt8) :: r == [48]) = false := by
    rw [beq_eq_false_iff_ne]; intro hc; simp at hc
   have hv : validB (a :: r) = (decide (r ≠ [] ∧ r.length ≤ 200 ∧ ∀ b ∈ r, isD b) && (r.head? != some 48)) := by
    rw [validB_eq, ha', trim_neg, hne, Bool.false_or]
   ((refine Bt_lenS ?_ ?_; (focus assumption)); (refine Bn_gtT ?_ ?_; focus omega); refine Gd_T ?_; refine Gd_T ?_)
   refine Ix_s (l := a :: r) (j := 0) (b := a) rfl rfl (by omega) ?_
   (refine Gd_T ?_; (refine Bn_eqT ?_ ?_; focus omega); refine Pick_T ?_; refine If_T ?_)
   refine Sc_1 (by omega) ?_
   by_cases h48 : (r == [48]) = true
   ·have hr : r = [48] := by simpa using h48
    have hf : validB (a :: r) = false := by rw [hv, hr]; rfl
    rw [hf]
    ((refine Bn_eqS1 ?_ ?_; focus assumption); refine If_T ?_)
    exact Ret.mk ⟨.refl _, rfl⟩
   ·have h48' : (r == [48]) = false := by simpa using h48
    ((refine Bn_eqSF ?_ ?_; focus assumption); refine If_F ?_)
    refine main r (by simp) ?_
    rw [hv]; unfold vB
    rw [h48', Bool.false_or]
  ·have hhd : (a :: r).head? ≠ some 45 := by
    intro hc; simp at hc; rw [hc] at ha; exact ha rfl
   have hv : vB (a :: r) = validB (a :: r) := by rw [validB_eq, trim_pos hhd]; rfl
   ((refine Bt_lenS ?_ ?_; (focus assumption)); (refine Bn_gtT ?_ ?_; focus omega); refine Gd_T ?_; refine Gd_T ?_)
   refine Ix_s (l := a :: r) (j := 0) (b := a) rfl rfl (by omega) ?_
   (refine Gd_T ?_; (refine Bn_eqF ?_ ?_; focus omega); refine Pick_T ?_; refine If_F ?_)
   exact main (a :: r) (Nat.le_refl _) hv
theorem sg_natAbs (z : Int) : sg (decide (z < 0)) z.natAbs = z := by unfold sg; split <;> simp at * <;> omega
theorem c_rsum {w : World} {a b : Bool} {u v : Value} {m n : Int} (hu : DAt w u m) (hv : DAt w v n) (hm : m < MaxI) (hn : n < MaxI) :
 Calls Tryz.prog 163 #[.bool a, u, .bool b, v] w (Ret fun r w' => Ext w w' ∧ r = resI (sg a m + sg b n)) := by
 have hM := MaxI_Mx
 have hp := MaxI_pos
 obtain ⟨xs, x1, x2, rfl, x4⟩ := hu.get (by omega)
 obtain ⟨ys, y1, y2, rfl, y4⟩ := hv.get (by omega)
 have hx0 := num10_nonneg x2.1
 have hy0 := num10_nonneg y2.1
 have hB := Tryz.underlying4
 have fin : ∀ (neg : Bool) (r : Value) (q : Int) (W : World), Ext w W → DAt W r q → q < Mx → sg neg q = sg a (num10 xs) + sg b (num10 ys) →
  Cl Tryz.prog 125 #[.bool neg, r] W (Pk (Ret fun r w' => Ext w w' ∧ r = resI (sg a (num10 xs) + sg b (num10 ys)))) fun t32 w_1 => Ex t32 0 w_1 fun t33 w_1 => Ex t32 1 w_1 fun t34 w_1 =>
   Ret (fun r w' => Ext w w' ∧ r = resI (sg a (num10 xs) + sg b (num10 ys))) (.returned (.tuple #[t33, t34])) w_1 := by
  intro neg r q W hW hr hq he
  obtain ⟨p, p', hpp⟩ := resI_tuple (sg neg q)
  refine Cl2 n_ref03_checked (Ret.lit (c_checked hr hq) hpp) fun W2 h2 => ?_
  exact Ret.mk ⟨hW.tr h2, by rw [← hpp, he]⟩
 cases a <;> cases b
 ·apply e_ref03_sum
  unfold s_ref03_sum
  refine Jn2.mk fun K hK => ?_
  ((refine Bn_eqBT ?_ ?_ ?_; (focus assumption); (focus decide)); refine If_T ?_)
  refine Cl_i n_ref03_plus (c_rplus x1 y1 x2 y2 (by omega) (by omega)) ?_
  rintro r W ⟨hW, hr⟩
  refine hK _ _ _ ?_
  exact fin _ _ _ _ hW hr (by omega) (by simp [sg])
 ·apply e_ref03_sum
  unfold s_ref03_sum
  refine Jn2.mk fun K hK => ?_
  ((refine Bn_eqBF ?_ ?_ ?_; (focus assumption); (focus decide)); refine If_F ?_)
  refine Cl1 n_ref03_order (c_order x1 y1 x2 y2 (by omega) (by omega)) fun W1 h1 => ?_
  by_cases hle : num10 ys ≤ num10 xs
  ·have hc := cmpI_ge hle
   ((refine Bn_geT ?_ ?_; focus omega); refine If_T ?_)
   refine Cl_i n_ref03_minus (c_rminus (SlAt.ext x1 h1) (SlAt.ext y1 h1) x2 y2 (by omega) hle) ?_
   rintro r W ⟨hW, hr, _⟩
   refine hK _ _ _ ?_
   exact fin _ _ _ _ (h1.tr hW) hr (by omega) (by simp [sg] <;> omega)
  ·have hc : cmpI (num10 xs) (num10 ys) < 0 := by rw [cmpI_lt (by omega)]; decide
   ((refine Bn_geF ?_ ?_; focus omega); refine If_F ?_)
   refine Cl_i n_ref03_minus (c_rminus (SlAt.ext y1 h1) (SlAt.ext x1 h1) y2 x2 (by omega) (by omega)) ?_
   rintro r W ⟨hW, hr, _⟩
   refine hK _ _ _ ?_
   exact fin _ _ _ _ (h1.tr hW) hr (by omega) (by simp [sg] <;> omega)
 ·apply e_ref03_sum
  unfold s_ref03_sum
  refine Jn2.mk fun K hK => ?_
  ((refine Bn_eqBF ?_ ?_ ?_; (focus assumption); (focus decide)); refine If_F ?_)
  refine Cl1 n_ref03_order (c_order x1 y1 x2 y2 (by omega) (by omega)) fun W1 h1 => ?_
  by_cases hle : num10 ys ≤ num10 xs
  ·have hc := cmpI_ge hle
   ((refine Bn_geT ?_ ?_; focus omega); refine If_T ?_)
   refine Cl_i n_ref03_minus (c_rminus (SlAt.ext x1 h1) (SlAt.ext y1 h1) x2 y2 (by omega) hle) ?_
   rintro r W ⟨hW, hr, _⟩
   refine hK _ _ _ ?_
   exact fin _ _ _ _ (h1.tr hW) hr (by omega) (by simp [sg] <;> omega)
  ·have hc : cmpI (num10 xs) (num10 ys) < 0 := by rw [cmpI_lt (by omega)]; decide
   ((refine Bn_geF ?_ ?_; focus omega); refine If_F ?_)
   refine Cl_i n_ref03_minus (c_rminus (SlAt.ext y1 h1) (SlAt.ext x1 h1) y2 x2 (by omega) (by omega)) ?_
   rintro r W ⟨hW, hr, _⟩
   refine hK _ _ _ ?_
   exact fin _ _ _ _ (h1.tr hW) hr (by omega) (by simp [sg] <;> omega)
 ·apply e_ref03_sum
  unfold s_ref03_sum
  refine Jn2.mk fun K hK => ?_
  ((refine Bn_eqBT ?_ ?_ ?_; (focus assumption); (focus decide)); refine If_T ?_)
  refine Cl_i n_ref03_plus (c_rplus x1 y1 x2 y2 (by omega) (by omega)) ?_
  rintro r W ⟨hW, hr⟩
  refine hK _ _ _ ?_
  exact fin _ _ _ _ hW hr (by omega) (by simp [sg] <;> omega)
theorem Un_b {b : Bool} {w : World} {K : Value → World → Prop} (hk : K (.bool (!b)) w) : Un Tryz.prog .not (.bool b) w K := by
 cases b
 ·exact Un_F hk
 ·exact Un_T hk
theorem sg_not (b : Bool) (n : Int) : sg (!b) n = - sg b n := by cases b <;> simp [sg]
theorem digits_b {z : Int} {w : World} {b : Bool} (hz : z.natAbs < MaxI) (hb : decide (z < 0) = b) : Calls Tryz.prog 121 #[str (Lib.itoa z)] w (Ret (DigR w b z.natAbs)) := hb ▸ c_digits hz
theorem vOK {x : Int} (hx : x.natAbs < MaxI) (w : World) : Calls Tryz.prog 118 #[str (Lib.itoa x)] w (Ret fun r w' => Ext w w' ∧ r = .bool true) := by
 have := c_rValid (w := w) (itoa_ok hx)
 rw [valid_ok hx] at this
 exact this
section
variable {x y : Int} {w : World} (hx : x.natAbs < MaxI) (hy : y.natAbs < MaxI)
include hx hy
theorem c_rSub : Calls Tryz.prog 130 #[str (Lib.itoa x), str (Lib.itoa y)] w (Ret fun r w' => Ext w w' ∧ r = resI (x - y)) := by
 have vx := vOK hx
 have vy := vOK hy
 apply e_ref03_Sub
 unfold s_ref03_Sub
 refine Cl1 n_ref03_Valid (vx w) fun w1 h1 => ?_
 (refine Un_T ?_; refine Gd_F ?_; refine Gd_F ?_)
 refine Cl1 n_ref03_Valid (vy w1) fun w2 h2 => ?_
 have h2 := h1.tr h2
 (refine Gd_F ?_; refine Un_T ?_; refine Pick_F ?_; refine If_F ?_)
 refine Cl_i n_ref03_digits (c_digits hx) ?_
 rintro _ w3 ⟨h3, u, rfl, hu⟩
 have h3 := h2.tr h3
 refine Ex2 (Cl_i n_ref03_digits (c_digits hy) ?_)
 rintro _ w4 ⟨h4, v, rfl, hv⟩
 have hu := hu.ext h4
 have h4 := h3.tr h4
 refine Ex2 (Un_b ?_)
 obtain ⟨p, p', hpp⟩ := resI_tuple (x - y)
 refine Cl2 n_ref03_sum (Ret.lit (c_rsum hu hv (by omega) (by omega)) (by rw [sg_not, sg_natAbs, sg_natAbs, ← Int.sub_eq_add_neg, hpp])) fun w5 h5 => ?_
 exact Ret.mk ⟨h4.tr h5, hpp.symm⟩
theorem c_rCompare : Calls Tryz.prog 85 #[str (Lib.itoa x), str (Lib.itoa y)] w (Ret fun r w' => Ext w w' ∧ r = .int .i64 (cmpI x y)) := by
 have vx := vOK hx
 have vy := vOK hy
 have hM := MaxI_Mx
 have hp := MaxI_pos
 have hB := Tryz.underlying4
 by_cases hx0 : x < 0
 ·by_cases hy0 : y < 0
  ·apply e_ref03_Compare
   unfold s_ref03_Compare
   refine Cl1 n_ref03_Valid (vx w) fun w1 h1 => ?_
   (refine Un_T ?_; refine Gd_F ?_; refine Gd_F ?_)
   refine Cl1 n_ref03_Valid (vy w1) fun w2 h2 => ?_
   have h2 := h1.tr h2
   (refine Gd_F ?_; refine Un_T ?_; refine Pick_F ?_; refine If_F ?_)
   refine Cl_i n_ref03_digits (digits_b (b := true) hx (by simp; omega)) ?_
   rintro _ w3 ⟨h3, u, rfl, hu⟩
   have h3 := h2.tr h3
   refine Ex2 (Cl_i n_ref03_digits (digits_b (b := true) hy (by simp; omega)) ?_)
   rintro _ w4 ⟨h4, v, rfl, hv⟩
   have hu := hu.ext h4
   have h4 := h3.tr h4
   refine Ex2 ?_
   ((refine Bn_neBF ?_ ?_ ?_; (focus assumption); (focus decide)); refine If_F ?_; refine If_T ?_)
   obtain ⟨xs, x1, x2, x3, x4⟩ := hu.get (by omega)
   obtain ⟨ys, y1, y2, y3, y4⟩ := hv.get (by omega)
   refine Cl1 n_ref03_order (c_order y1 x1 y2 x2 (by omega) (by omega)) fun w5 h5 => ?_
   refine Ret.mk ⟨h4.tr h5, ?_⟩
   rw [x3, y3]
   congr 1
   unfold cmpI
   repeat' split
   all_goals first | rfl | omega
  ·apply e_ref03_Compare
   unfold s_ref03_Compare
   refine Cl1 n_ref03_Valid (vx w) fun w1 h1 => ?_
   (refine Un_T ?_; refine Gd_F ?_; refine Gd_F ?_)
   refine Cl1 n_ref03_Valid (vy w1) fun w2 h2 => ?_
   have h2 := h1.tr h2
   (refine Gd_F ?_; refine Un_T ?_; refine Pick_F ?_; refine If_F ?_)
   refine Cl_i n_ref03_digits (digits_b (b := true) hx (by simp; omega)) ?_
   rintro _ w3 ⟨h3, u, rfl, hu⟩
   have h3 := h2.tr h3
   refine Ex2 (Cl_i n_ref03_digits (digits_b (b := false) hy (by simp; omega)) ?_)
   rintro _ w4 ⟨h4, v, rfl, hv⟩
   have hu := hu.ext h4
   have h4 := h3.tr h4
   refine Ex2 ?_
   ((refine Bn_neBT ?_ ?_ ?_; (focus assumption); (focus decide)); refine If_T ?_; refine If_T ?_)
   exact Ret.mk ⟨h4, by rw [cmpI_lt (by omega)]⟩
 ·by_cases hy0 : y < 0
  ·apply e_ref03_Compare
   unfold s_ref03_Compare
   refine Cl1 n_ref03_Valid (vx w) fun w1 h1 => ?_
   (refine Un_T ?_; refine Gd_F ?_; refine Gd_F ?_)
   refine Cl1 n_ref03_Valid (vy w1) fun w2 h2 => ?_
   have h2 := h1.tr h2
   (refine Gd_F ?_; refine Un_T ?_; refine Pick_F ?_; refine If_F ?_)
   refine Cl_i n_ref03_digits (digits_b (b := false) hx (by simp; omega)) ?_
   rintro _ w3 ⟨h3, u, rfl, hu⟩
   have h3 := h2.tr h3
   refine Ex2 (Cl_i n_ref03_digits (digits_b (b := true) hy (by simp; omega)) ?_)
   rintro _ w4 ⟨h4, v, rfl, hv⟩
   have hu := hu.ext h4
   have h4 := h3.tr h4
   refine Ex2 ?_
   ((refine Bn_neBT ?_ ?_ ?_; (focus assumption); (focus decide)); refine If_T ?_; refine If_F ?_)
   exact Ret.mk ⟨h4, by rw [cmpI_gt (by omega)]⟩
  ·apply e_ref03_Compare
   unfold s_ref03_Compare
   refine Cl1 n_ref03_Valid (vx w) fun w1 h1 => ?_
   (refine Un_T ?_; refine Gd_F ?_; refine Gd_F ?_)
   refine Cl1 n_ref03_Valid (vy w1) fun w2 h2 => ?_
   have h2 := h1.tr h2
   (refine Gd_F ?_; refine Un_T ?_; refine Pick_F ?_; refine If_F ?_)
   refine Cl_i n_ref03_digits (digits_b (b := false) hx (by simp; omega)) ?_
   rintro _ w3 ⟨h3, u, rfl, hu⟩
   have h3 := h2.tr h3
   refine Ex2 (Cl_i n_ref03_digits (digits_b (b := false) hy (by simp; omega)) ?_)
   rintro _ w4 ⟨h4, v, rfl, hv⟩
   have hu := hu.ext h4
   have h4 := h3.tr h4
   refine Ex2 ?_
   ((refine Bn_neBF ?_ ?_ ?_; (focus assumption); (focus decide)); refine If_F ?_; refine If_F ?_)
   obtain ⟨xs, x1, x2, x3, x4⟩ := hu.get (by omega)
   obtain ⟨ys, y1, y2, y3, y4⟩ := hv.get (by omega)
   refine Cl1 n_ref03_order (c_order x1 y1 x2 y2 (by omega) (by omega)) fun w5 h5 => ?_
   refine Ret.mk ⟨h4.tr h5, ?_⟩
   rw [x3, y3]
   congr 1
   unfold cmpI
   repeat' split
   all_goals first | rfl | omega
end
end Go.Proofs.YtnkmbjedcjcccaaGreatDoor
