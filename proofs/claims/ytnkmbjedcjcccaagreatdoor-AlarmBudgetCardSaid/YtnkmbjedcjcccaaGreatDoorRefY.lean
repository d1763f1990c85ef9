/-
  Contracts and plain lemmas. By an AI agent.
-/
import Derived.Test.YtnkmbjedcjcccaaGreatDoorRefX
import Derived.Test.YtnkmbjedcjcccaaGreatDoorStrY
set_option linter.unusedSimpArgs false
set_option linter.unusedVariables false
set_option linter.unusedSectionVars false
namespace Go.Proofs.YtnkmbjedcjcccaaGreatDoor
open Go Go.Eng Go.Proofs Go.Num Go.RowKit
set_option maxRecDepth 100000
theorem st44 {W : World} {g n : Nat} {zs : List Int} {i : Int} {j : Nat} {u : Int} {K : World → Prop} (h : Blk W g 3 (zs.map iv)) (hn : n = zs.length) (hi : i = j) (hj : j < zs.length) (hk : K (W.setCell ⟨g, j, none⟩ (iv u))) :
 Ia Tryz.prog 33 (.slice (some ⟨g, 0, none⟩) n n) (.int .i64 i) W fun a w => Sto Tryz.prog 3 a (.int .i64 u) w K := by
 subst hi; subst hn
 have hc := h.cell (i := j) (v := iv zs[j]) (by simp [hj])
 ((try simp -dsimp [go_sem, hc, h.frz j]); repeat (simp -dsimp (disch := omega) only [gL, gI]; try simp -dsimp [go_sem, hc, h.frz j]))
 exact hk
theorem ldB {W : World} {g n : Nat} {zs : List Int} {i : Int} {j : Nat} {K : Value → World → Prop} (h : Blk W g 3 (zs.map iv)) (hn : n = zs.length) (hi : i = j) (hj : j < zs.length) (hk : K (.int .i64 zs[j]) W) :
 Ia Tryz.prog 33 (.slice (some ⟨g, 0, none⟩) n n) (.int .i64 i) W fun a w => Ld Tryz.prog 3 a w K :=
 ld44 (h.slAt (by simp [hn])) hi hj hk
theorem blk_set {W : World} {g : Nat} {zs : List Int} (h : Blk W g 3 (zs.map iv)) (p : Nat) (d : Int) : Blk (W.setCell ⟨g, p, none⟩ (iv d)) g 3 ((zs.set p d).map iv) := by
 have := h.set p (iv d)
 rw [List.map_set]; exact this
theorem SlAt.fresh {W : World} {v : Value} {xs : List Value} (h : SlAt W v xs) {g : Nat} (hf : Fresh (g + 1) v) (p : Nat) (u : Value) : SlAt (W.setCell ⟨g, p, none⟩ u) v xs :=
 SlAt.set h u fun b o c n hv => by have := hf _ _ _ hv; show b ≠ g; simp at this; omega
theorem DAt.fresh {W : World} {v : Value} {n : Int} (h : DAt W v n) {g : Nat} (hf : Fresh (g + 1) v) (p : Nat) (u : Value) : DAt (W.setCell ⟨g, p, none⟩ u) v n := by
 obtain ⟨xs, h1, h2, h3⟩ := h
 exact ⟨xs, SlAt.fresh h1 hf p u, h2, h3⟩
theorem DAt.bd {w : World} {v : Value} {n : Int} (h : DAt w v n) {k : Nat} (hn : n < 10 ^ k) : ∃ xs, NumL w v xs ∧ Nrm10 xs ∧ num10 xs = n ∧ xs.length ≤ k := by
 obtain ⟨xs, h1, h2, h3⟩ := h
 exact ⟨xs, h1, h2, h3, h2.len (by rw [h3]; exact hn)⟩
theorem DAt.unique {w : World} {v : Value} {x y : Int} (h : DAt w v x) (k : DAt w v y) : x = y := by
 obtain ⟨l1, p1, p2, p3⟩ := h
 obtain ⟨l2, q1, q2, q3⟩ := k
 have := SlAt.unique p1 q1
 have hl : l1 = l2 := (List.map_inj_right (fun a b h => by simpa using h)).1 this
 rw [← p3, ← q3, hl]
open Classical in
noncomputable def dV (w : World) (v : Value) : Int := if h : ∃ n : Int, DAt w v n then Classical.choose h else 0
theorem dV_eq {w : World} {v : Value} {n : Int} (h : DAt w v n) : dV w v = n := by
 have hx : ∃ n : Int, DAt w v n := ⟨n, h⟩
 unfold dV
 rw [dif_pos hx]
 exact (Classical.choose_spec hx).unique h
def DivV (w : World) (a b : Int) (r : Value) (w' : World) : Prop := Ext w w' ∧ ∃ u v, r = .tuple #[u, v] ∧ DAt w' u a ∧ DAt w' v b
theorem div_step {a D y c r : Int} (hy : 0 < y) (ha : a + 10 * (D % y) = c * y + r) (hr0 : 0 ≤ r) (hr1 : r < y) : (a + 10 * D) / y = 10 * (D / y) + c ∧ (a + 10 * D) % y = r := by
 have e := Int.mul_ediv_add_emod D y
 refine (Int.ediv_emod_unique hy).2 ⟨?_, hr0, hr1⟩
 have h1 : y * (10 * (D / y) + c) = 10 * (y * (D / y)) + c * y := by grind
 rw [h1]; omega
theorem c_divided {w : World} {u v : Value} {xs ys : List Int} (hu : NumL w u xs) (hv : NumL w v ys) (hx : Nrm10 xs) (hy : Nrm10 ys) (hlx : xs.length ≤ 90000) (hly : ys.length ≤ 90000) (hne : ys ≠ []) :
 Calls Tryz.prog 122 #[u, v] w (Ret (DivV w (num10 xs / num10 ys) (num10 xs % num10 ys))) := by
 obtain ⟨a1, cap1, rfl⟩ := hu.slice
 obtain ⟨a2, cap2, rfl⟩ := hv.slice
 have hL := hL44
 have hypos := num10_pos hy hne
 have hylt := num10_lt hy.1
 obtain ⟨y, hyv⟩ : ∃ y, y = num10 ys := ⟨_, rfl⟩
 rw [← hyv] at hypos hylt ⊢
 apply e_ref03_divided
 unfold s_ref03_divided
 ((refine Bt_lenL ?_ ?_; (focus assumption)))
 refine Ms_full sliI (by decide) (n := xs.length) rfl (by omega) (Nat.le_refl w.heap.size) ?_
 intro w1 hq g1
 have e1 := World.grownBy.ext g1
 have hb0 : Blk w1 w.heap.size 3 ((List.replicate xs.length (0 : Int)).map iv) := by simpa using hq.blk (by simp)
 ((refine Bt_lenL ?_ ?_; (focus assumption)); (refine Bn_su ?_ ?_ ?_; (focus omega); (focus omega)))
 obtain ⟨I, hI⟩ : ∃ I : Value → Value → World → Prop, I = (fun r i W => ∃ (j : Nat) (qd : List Int), j ≤ xs.length ∧ i = .int .i64 ((xs.length : Int) - 1 - j) ∧ qd.length = j ∧ Dg10 qd ∧ Blk W w.heap.size 3 ((List.replicate (xs.length - j) (0 : Int) ++ qd).map iv) ∧ Ext w W ∧
  num10 qd = num10 (xs.drop (xs.length - j)) / y ∧ DAt W r (num10 (xs.drop (xs.length - j)) % y) ∧ Fresh (w.heap.size + 1) r) := ⟨_, rfl⟩
 obtain ⟨μ, hμ⟩ : ∃ μ : Value → Value → World → Nat, μ = (fun _ i _ => match i with | .int _ i' => (i' + 1).toNat | _ => 0) := ⟨_, rfl⟩
 refine Lp2.mk I μ (by rw [hI]; exact ⟨0, [], by omega, by congr 1; omega, rfl, by simp [Dg10], by simpa using hb0, e1, by simp [num10], by simpa [num10] using DAt.nil w1, by intro a n c h; simp at h⟩) ?_
 intro r i W hh
 rw [hI] at hh
 obtain ⟨j, qd, hj, rfl, hql, hqd, hb, hW, hqn, hr, hfr⟩ := hh
 have hwsz := hW.size
 have hWlt : w.heap.size < W.heap.size := hb.lt
 by_cases hgo : j < xs.length
 ·obtain ⟨k, hk⟩ : ∃ k, k = xs.length - 1 - j := ⟨_, rfl⟩
  have hkl : k < xs.length := by omega
  obtain ⟨D, hD⟩ : ∃ D, D = num10 (xs.drop (xs.length - j)) := ⟨_, rfl⟩
  rw [← hD] at hqn hr
  obtain ⟨a, ha⟩ : ∃ a, a = xs[k] := ⟨_, rfl⟩
  have hab : 0 ≤ a ∧ a < 10 := by rw [ha]; exact hx.1 _ (List.getElem_mem _)
  have hstep : num10 (xs.drop (xs.length - (j + 1))) = a + 10 * D := by
   rw [show xs.length - (j + 1) = k from by omega, List.drop_eq_getElem_cons hkl, ← ha, hD, show k + 1 = xs.length - j from by omega]
   rfl
  have hm0 := Int.emod_nonneg D (show y ≠ 0 by omega)
  have hm1 := Int.emod_lt_of_pos D hypos
  obtain ⟨zs, z1, z2, z3, z4⟩ := hr.bd (k := ys.length) (by omega)
  obtain ⟨a3, cap3, rfl⟩ := z1.slice
  ((refine Bn_geT ?_ ?_; focus omega); refine If_T ?_)
  refine ld44 (hu.ext hW) (j := k) (by omega) hkl ?_
  rw [← ha]
  refine Bs_own sliI rfl (Nat.le_refl W.heap.size) ?_
  intro v3 W3 o3 g3 _
  have e3 := World.grownBy.ext g3
  refine ap_own sliI (by decide) o3 (SlAt.ext z1 e3) (fun y hy => by obtain ⟨y, _, rfl⟩ := List.mem_map.1 hy; rfl) (by simp; omega) e3.size ?_
  intro v4 W4 o4 g4
  have e4 : Ext W W4 := e3.trans (World.grownBy.below g4 e3.size fun k hk => (o3.lt k hk).1)
  have o5 : NumL W4 v4 (a :: zs) := o4.slAt
  have hdz : Dg10 (a :: zs) := by
   intro x hx'
   rcases List.mem_cons.1 hx' with rfl | h
   ·exact hab
   ·exact z2.1 x h
  refine Cl_i n_ref03_trim (c_rtrim o5 (by simp; omega)) ?_
  rintro r0 W5 ⟨hr0, rfl, hfr0⟩
  have hfr1 : Fresh (w.heap.size + 1) r0 := (hfr0 _ (Fresh.own o4)).mono (by omega)
  have hr0D : DAt W5 r0 (a + 10 * (D % y)) := ⟨_, hr0, Nrm10.trimL hdz, by rw [num10_trimL]; simp only [num10, z3]⟩
  obtain ⟨J, hJ⟩ : ∃ J : Value → World → Prop, J = (fun r V => ∃ (c : Nat) (s : Int), 0 ≤ s ∧ a + 10 * (D % y) = c * y + s ∧ DAt V r s ∧ Fresh (w.heap.size + 1) r ∧ Ext w V ∧ Blk V w.heap.size 3 ((List.replicate k (0 : Int) ++ (c : Int) :: qd).map iv)) := ⟨_, rfl⟩
  have hν : ∀ r V s, DAt V r s → (dV V r).toNat = s.toNat := fun r V s h => by rw [dV_eq h]
  refine Lp1.mk J (fun r V => (dV V r).toNat) (by rw [hJ]; exact ⟨0, a + 10 * (D % y), by omega, by simp, hr0D, hfr1, hW.tr e4, by
   have := hb.ext e4
   rw [show xs.length - j = k + 1 from by omega, List.replicate_succ'] at this
   simpa using this⟩) ?_
  intro r V hh
  rw [hJ] at hh
  obtain ⟨c, s, hs0, hsum, hrs, hfrs, hV, hbV⟩ := hh
  have hc9 : (c : Int) ≤ 9 := by
   refine Int.not_lt.1 fun hc => ?_
   have : (10 : Int) * y ≤ c * y := Int.mul_le_mul_of_nonneg_right (by omega) (by omega)
   omega
  have hcy : (0 : Int) ≤ c * y := Int.mul_nonneg (by omega) (by omega)
  have hlen : (List.replicate k (0 : Int) ++ (c : Int) :: qd).length = xs.length := by simp; omega
  have hpl : (10 : Int) ^ (ys.length + 1) = 10 ^ ys.length * 10 := Int.pow_succ ..
  obtain ⟨ss, s1, s2, s3, s4⟩ := hrs.bd (k := ys.length + 1) (by omega)
  refine Cl1 n_ref03_order (c_order s1 (hv.ext hV) s2 hy (by omega) (by omega)) fun V1 x1 => ?_
  rw [s3, ← hyv]
  have hV1 := hV.tr x1
  have hb1 := hbV.ext x1
  by_cases hge : y ≤ s
  ·have hc1 := cmpI_ge hge
   ((refine Bn_geT ?_ ?_; focus omega); refine If_T ?_)
   refine Cl_i n_ref03_minus (c_rminus (SlAt.ext s1 x1) (hv.ext hV1) s2 hy (by omega) (by rw [s3, ← hyv]; exact hge)) ?_
   rintro r2 V2 ⟨x2, hr2, hf2⟩
   rw [s3, ← hyv] at hr2
   have hb2 := hb1.ext x2
   have hf2' : Fresh (w.heap.size + 1) r2 := hf2.mono (by have := hb1.lt; omega)
   refine ldB hb2 (by omega) (j := k) (by omega) (by omega) ?_
   have hget : (List.replicate k (0 : Int) ++ (c : Int) :: qd)[k]'(by omega) = c := by
    rw [List.getElem_append_right (by simp)]; simp
   rw [hget]
   ((refine Bn_ad ?_ ?_ ?_; (focus omega); (focus omega)))
   refine st44 hb2 (by omega) (j := k) (by omega) (by omega) ?_
   have hc9' : (c : Int) + 1 ≤ 9 := by
    refine Int.not_lt.1 fun hc => ?_
    have : (9 : Int) * y ≤ c * y := Int.mul_le_mul_of_nonneg_right (by omega) (by omega)
    omega
   have hr2' := DAt.fresh hr2 hf2' k (iv ((c : Int) + 1))
   refine ⟨?_, ?_⟩
   ·rw [hJ]
    refine ⟨c + 1, s - y, by omega, ?_, hr2', hf2', Ext.stB (hV1.tr x2) (Nat.le_refl _) _, ?_⟩
    ·push_cast; rw [Int.add_mul]; omega
    ·have := blk_set hb2 k ((c : Int) + 1)
     rw [List.set_append_right _ _ (by simp)] at this
     simpa using this
   ·rw [dV_eq hr2', dV_eq hrs]
    omega
  ·have hlt : cmpI s y < 0 := by rw [cmpI_lt (by omega)]; decide
   ((refine Bn_geF ?_ ?_; focus omega); refine If_F ?_; (refine Bn_su ?_ ?_ ?_; (focus omega); (focus omega)))
   obtain ⟨d1, d2⟩ := div_step (a := a) (D := D) (y := y) (c := c) (r := s) hypos hsum hs0 (by omega)
   rw [hI, hμ]
   refine ⟨⟨j + 1, (c : Int) :: qd, by omega, by congr 1; omega, by simp [hql], ?_, ?_, hV1, ?_, ?_, hfrs⟩, by simp only []; omega⟩
   ·intro x hx'
    rcases List.mem_cons.1 hx' with rfl | h
    ·omega
    ·exact hqd x h
   ·rw [show xs.length - (j + 1) = k from by omega]; exact hb1
   ·rw [hstep, d1]; simp only [num10, hqn]; omega
   ·rw [hstep, d2]; exact hrs.ext x1
 ·have hjj : j = xs.length := by omega
  have hd0 : xs.drop (xs.length - j) = xs := by rw [hjj, Nat.sub_self]; rfl
  rw [hd0] at hqn hr
  have hb' : Blk W w.heap.size 3 (qd.map iv) := by
   rw [hjj, Nat.sub_self] at hb; simpa using hb
  ((refine Bn_geF ?_ ?_; focus omega); refine If_F ?_)
  refine Cl_i n_ref03_trim (c_rtrim (xs := qd) (hb'.slAt (by simp; omega)) (by omega)) ?_
  rintro q W5 ⟨hq5, rfl, _⟩
  refine Ret.mk ⟨hW, q, _, rfl, ⟨_, hq5, Nrm10.trimL hqd, by rw [num10_trimL, hqn]⟩, hr⟩
end Go.Proofs.YtnkmbjedcjcccaaGreatDoor
