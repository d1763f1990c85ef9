/-
  Contracts of functions of the program, and plain lemmas on numbers and strings. By an AI agent.
-/
import Derived.Test.YthpcmmfijelbaaaGreatDoorQFnA
set_option linter.unusedSimpArgs false
set_option linter.unusedVariables false
set_option linter.unusedSectionVars false
namespace Go.Proofs.YthpcmmfijelbaaaGreatDoor
open Go Go.Eng Go.Proofs Go.Num Go.RowKit
set_option maxRecDepth 100000
set_option linter.unusedVariables false
set_option linter.unusedSectionVars false
theorem rep_isD (n : Nat) : ∀ b ∈ List.replicate n (48 : UInt8), isD b := by
  intro b hb
  rw [List.eq_of_mem_replicate hb]; decide
theorem rep_dv (n : Nat) : dv (List.replicate n 48) = 0 := by
  induction n with
  | zero => rfl
  | succ n ih => rw [List.replicate_succ, dv_cons, ih]; simp
theorem ten_dv (n : Nat) : dv (49 :: List.replicate n 48) = 10 ^ n := by
  rw [dv_cons, rep_dv, List.length_replicate]
  show 1 * 10 ^ n + 0 = _
  omega
theorem ten_str {k : Int} {n : Nat} (h : k = n) : 49 :: List.replicate n (48 : UInt8) = Lib.itoa (ten k) := by
  subst h
  have h1 := digits_itoa (s := 49 :: List.replicate n 48) (by
    intro b hb
    rcases List.mem_cons.1 hb with rfl | hb
    · decide
    · exact rep_isD n b hb) (by simp) (.inr (by simp))
  rw [ten_dv] at h1
  rw [← h1]
  congr 1
theorem ten_Sz {k : Int} (h : k ≤ 30) : Sz 31 (ten k) := by
  unfold Sz ten
  rw [Int.natAbs_pow]
  exact Nat.pow_lt_pow_right (by decide) (by omega)
theorem ten_max {k : Int} (h : k ≤ 30) : (ten k).natAbs < MaxI := (ten_Sz h).max (by decide)
theorem ten_ne (k : Int) : ten k ≠ 0 := Int.ne_of_gt (ten_pos k)
theorem c_power {k : Int} {w : World} (h0 : 0 ≤ k) (h1 : k ≤ 1000) : Calls Tryz.prog 97 #[.int .i64 k] w (Ret fun r w' => Ext w w' ∧ r = str (Lib.itoa (ten k))) := by
  obtain ⟨n, rfl⟩ : ∃ n : Nat, k = n := ⟨k.toNat, by omega⟩
  apply e_ref04_power
  unfold s_ref04_power
  obtain ⟨I, hI⟩ : ∃ I : Value → Value → World → Prop, I = (fun s i W => ∃ j : Nat, j ≤ n ∧ s = str (49 :: List.replicate j 48) ∧ i = .int .i64 j ∧ W = w) := ⟨_, rfl⟩
  obtain ⟨μ, hμ⟩ : ∃ μ : Value → Value → World → Nat, μ = (fun _ i _ => match i with | .int _ i' => n - i'.toNat | _ => 0) := ⟨_, rfl⟩
  refine Lp2.mk I μ (by rw [hI]; exact ⟨0, by omega, rfl, rfl, rfl⟩) ?_
  intro s i W hh
  rw [hI] at hh
  obtain ⟨j, hj, rfl, rfl, rfl⟩ := hh
  by_cases hjn : j < n
  · refine Bn_ltT (by omega) ?_
    refine If_T ?_
    refine Bn_cat (by simp; omega) ?_
    refine Bn_ad (by omega) (by omega) ?_
    rw [hI, hμ]
    refine ⟨⟨j + 1, by omega, ?_, by simp, rfl⟩, ?_⟩
    · rw [List.replicate_succ']; rfl
    · show n - ((j : Int) + 1).toNat < n - (j : Int).toNat
      omega
  · refine Bn_ltF (by omega) ?_
    refine If_F ?_
    refine Ret.mk ⟨.refl _, ?_⟩
    rw [ten_str (k := (n : Int)) (n := j) (by omega)]
section
variable {n d : List UInt8} {k : Int} {w : World} (hn : n.length ≤ 1000000) (hd : d.length ≤ 1000000)
include hn hd
theorem c_grid_bad (h : ¬ (okR n d ∧ 0 ≤ k ∧ k ≤ 30)) : Calls Tryz.prog 70 #[.agg #[str n, str d], .int .i64 k] w (Ret fun r w' => Ext w w' ∧ r = .tuple #[str [], str [], str [], .bool false]) := by
  apply e_ref04_grid
  unfold s_ref04_grid
  refine bxR fun g w1 x1 hg _ b1 => ?_
  refine ldR b1 ?_
  have v1 := c_fValid (w := w1) hn hd
  by_cases o : okR n d
  · rw [okB_t o] at v1
    refine Cl1 n_ref04_Valid v1 fun w2 x2 => ?_
    by_cases h0 : 0 ≤ k
    · have h30 : ¬ k ≤ 30 := fun h' => h ⟨o, h0, h'⟩
      ((with_reducible refine Un_T ?_); (with_reducible refine Gd_F ?_); (with_reducible refine Gd_F ?_); ((with_reducible refine Bn_ltF ?_ ?_); focus omega); (with_reducible refine Pick_F ?_); (with_reducible refine Gd_F ?_); (with_reducible refine Gd_F ?_); ((with_reducible refine Bn_gtT ?_ ?_); focus omega); (with_reducible refine Pick_F ?_); (with_reducible refine If_T ?_))
      exact Ret.mk ⟨x1.tr x2, rfl⟩
    · ((with_reducible refine Un_T ?_); (with_reducible refine Gd_F ?_); (with_reducible refine Gd_F ?_); ((with_reducible refine Bn_ltT ?_ ?_); focus omega); (with_reducible refine Pick_F ?_); (with_reducible refine Gd_TF ?_); (with_reducible refine Gd_TF ?_); (with_reducible refine Pick_T ?_); (with_reducible refine If_T ?_))
      exact Ret.mk ⟨x1.tr x2, rfl⟩
  · rw [okB_f o] at v1
    refine Cl1 n_ref04_Valid v1 fun w2 x2 => ?_
    ((with_reducible refine Un_F ?_); (with_reducible refine Gd_TF ?_); (with_reducible refine Gd_TF ?_); (with_reducible refine Pick_T ?_); (with_reducible refine Gd_TF ?_); (with_reducible refine Gd_TF ?_); (with_reducible refine Pick_T ?_); (with_reducible refine If_T ?_))
    exact Ret.mk ⟨x1.tr x2, rfl⟩
end
section
variable {x : Rat} {k : Int} {w : World} (hx : RB x) (h0 : 0 ≤ k) (h1 : k ≤ 30)
include hx h0 h1
theorem c_grid_big (h : ¬ (x.num * ten k).natAbs < MaxI) : Calls Tryz.prog 70 #[fq x, .int .i64 k] w (Ret fun r w' => Ext w w' ∧ r = .tuple #[str [], str [], str [], .bool false]) := by
  apply e_ref04_grid
  unfold s_ref04_grid
  refine bxR fun g w1 x1 hg _ b1 => ?_
  refine ldR b1 ?_
  have v1 := c_fValid (w := w1) (itoa_ok hx.n) (itoa_ok hx.d)
  rw [okB_t (okR_q.2 hx)] at v1
  refine Cl1 n_ref04_Valid v1 fun w2 x2 => ?_
  replace b1 := b1.ext x2
  ((with_reducible refine Un_T ?_); (with_reducible refine Gd_F ?_); (with_reducible refine Gd_F ?_); ((with_reducible refine Bn_ltF ?_ ?_); focus omega); (with_reducible refine Pick_F ?_); (with_reducible refine Gd_F ?_); (with_reducible refine Gd_F ?_); ((with_reducible refine Bn_gtF ?_ ?_); focus omega); (with_reducible refine Pick_F ?_); (with_reducible refine If_F ?_))
  refine Cl1 n_ref04_power (c_power h0 (by omega)) fun w3 x3 => ?_
  replace b1 := b1.ext x3
  refine fl0 b1 ?_
  have c1 := t_rMul (w := w3) hx.n (ten_max h1)
  rw [resE_bad h] at c1
  refine Cl2 n_ref03_Mul c1 fun w4 x4 => ?_
  (((with_reducible refine Bn_neT ?_ ?_); focus omega); (with_reducible refine If_T ?_))
  exact Ret.mk ⟨((x1.tr x2).tr x3).tr x4, rfl⟩
theorem c_grid_ok (h : (x.num * ten k).natAbs < MaxI) : Calls Tryz.prog 70 #[fq x, .int .i64 k] w (Ret fun r w' => Ext w w' ∧ r = .tuple #[str (Lib.itoa ((x.num * ten k) / (x.den : Int))), str (Lib.itoa ((x.num * ten k) % (x.den : Int))), str (Lib.itoa (ten k)), .bool true]) := by
  apply e_ref04_grid
  unfold s_ref04_grid
  refine bxR fun g w1 x1 hg _ b1 => ?_
  refine ldR b1 ?_
  have v1 := c_fValid (w := w1) (itoa_ok hx.n) (itoa_ok hx.d)
  rw [okB_t (okR_q.2 hx)] at v1
  refine Cl1 n_ref04_Valid v1 fun w2 x2 => ?_
  replace b1 := b1.ext x2
  ((with_reducible refine Un_T ?_); (with_reducible refine Gd_F ?_); (with_reducible refine Gd_F ?_); ((with_reducible refine Bn_ltF ?_ ?_); focus omega); (with_reducible refine Pick_F ?_); (with_reducible refine Gd_F ?_); (with_reducible refine Gd_F ?_); ((with_reducible refine Bn_gtF ?_ ?_); focus omega); (with_reducible refine Pick_F ?_); (with_reducible refine If_F ?_))
  refine Cl1 n_ref04_power (c_power h0 (by omega)) fun w3 x3 => ?_
  replace b1 := b1.ext x3
  refine fl0 b1 ?_
  have c1 := t_rMul (w := w3) hx.n (ten_max h1)
  rw [resE_ok h, resA_ok h] at c1
  refine Cl2 n_ref03_Mul c1 fun w4 x4 => ?_
  replace b1 := b1.ext x4
  (((with_reducible refine Bn_neF ?_ ?_); focus omega); (with_reducible refine If_F ?_))
  refine fl1 b1 ?_
  refine Cl3 n_ref03_Div (c_rDiv h hx.d (Int.ne_of_gt (den_pos x))) fun w5 x5 => ?_
  (((with_reducible refine Bn_eqT ?_ ?_); focus omega))
  exact Ret.mk ⟨(((x1.tr x2).tr x3).tr x4).tr x5, rfl⟩
end
theorem makeQ_ten {z k : Int} : makeQ z (ten k) = rQ ((z : Rat) / (ten k : Int)) := by unfold makeQ; rw [if_neg (ten_ne k)]
section
variable {n d : List UInt8} {k : Int} {w : World} (hn : n.length ≤ 1000000) (hd : d.length ≤ 1000000)
include hn hd
theorem c_fDown : Calls Tryz.prog 36 #[.agg #[str n, str d], .int .i64 k] w (Ret fun r w' => Ext w w' ∧ r = rv (ans1 (gridQ false k) rBad n d)) := by
  by_cases o : okR n d ∧ 0 ≤ k ∧ k ≤ 30
  · obtain ⟨⟨x, rfl, rfl, hx⟩, h0, h1⟩ := o
    rw [ans1_ok hx]
    have eN : gridN false x k = (x.num * ten k) / (x.den : Int) := by unfold gridN; rw [if_neg (by simp)]
    by_cases hb : (x.num * ten k).natAbs < MaxI
    · have hq := ediv_max (q := (x.den : Int)) hb
      have e : gridQ false k x = makeQ ((x.num * ten k) / (x.den : Int)) (ten k) := by
        unfold gridQ; rw [if_pos ⟨⟨h0, h1⟩, hb, by rw [eN]; exact hq⟩, eN, makeQ_ten]
      rw [e]
      apply e_ref04_Down
      unfold s_ref04_Down
      refine bxR fun g2 w1 x1 hg2 _ b2 => ?_
      refine alR fun g4 w3 x3 hg4 _ b4 => ?_
      refine ldR (b2.ext x3) ?_
      have hw0 : w.heap.size ≤ g4 := by have := x1.size; omega
      refine Cl4 n_ref04_grid (c_grid_ok hx h0 h1 hb) fun w4 x4 => ?_
      ((with_reducible refine Un_T ?_); (with_reducible refine If_F ?_))
      refine Cl2 n_ref04_Make (fMake_ok (itoa_ok hq) (itoa_ok (ten_max h1)) hq (ten_max h1)) fun w5 x5 => ?_
      exact endR ((b4.ext x4).ext x5) (((x1.tr x3).tr x4).tr x5) hw0 rfl
    · have e : gridQ false k x = rBad := by unfold gridQ; rw [if_neg (fun h => hb h.2.1)]
      rw [e]
      apply e_ref04_Down
      unfold s_ref04_Down
      refine bxR fun g2 w1 x1 hg2 _ b2 => ?_
      refine alR fun g4 w3 x3 hg4 _ b4 => ?_
      refine ldR (b2.ext x3) ?_
      have hw0 : w.heap.size ≤ g4 := by have := x1.size; omega
      refine Cl4 n_ref04_grid (c_grid_big hx h0 h1 hb) fun w4 x4 => ?_
      ((with_reducible refine Un_F ?_); (with_reducible refine If_T ?_))
      exact endBad (b4.ext x4) ((x1.tr x3).tr x4) hw0
  · have e : ans1 (gridQ false k) rBad n d = rBad := by
      by_cases o1 : okR n d
      · obtain ⟨x, rfl, rfl, hx⟩ := o1
        rw [ans1_ok hx]
        unfold gridQ
        rw [if_neg (fun h => o ⟨⟨x, rfl, rfl, hx⟩, h.1⟩)]
      · exact ans1_bad o1
    rw [e]
    apply e_ref04_Down
    unfold s_ref04_Down
    refine bxR fun g2 w1 x1 hg2 _ b2 => ?_
    refine alR fun g4 w3 x3 hg4 _ b4 => ?_
    refine ldR (b2.ext x3) ?_
    have hw0 : w.heap.size ≤ g4 := by have := x1.size; omega
    refine Cl4 n_ref04_grid (c_grid_bad hn hd o) fun w4 x4 => ?_
    ((with_reducible refine Un_F ?_); (with_reducible refine If_T ?_))
    exact endBad (b4.ext x4) ((x1.tr x3).tr x4) hw0
theorem c_fUp : Calls Tryz.prog 38 #[.agg #[str n, str d], .int .i64 k] w (Ret fun r w' => Ext w w' ∧ r = rv (ans1 (gridQ true k) rBad n d)) := by
  by_cases o : okR n d ∧ 0 ≤ k ∧ k ≤ 30
  · obtain ⟨⟨x, rfl, rfl, hx⟩, h0, h1⟩ := o
    rw [ans1_ok hx]
    by_cases hb : (x.num * ten k).natAbs < MaxI
    · have hq := ediv_max (q := (x.den : Int)) hb
      have cg := fun w : World => c_grid_ok (w := w) hx h0 h1 hb
      obtain ⟨u, hu⟩ : ∃ u, u = (x.num * ten k) / (x.den : Int) := ⟨_, rfl⟩
      obtain ⟨r, hr⟩ : ∃ r, r = (x.num * ten k) % (x.den : Int) := ⟨_, rfl⟩
      simp only [← hu, ← hr] at cg
      rw [← hu] at hq
      by_cases hr0 : r = 0
      · have er := is0 hr0
        have eN : gridN true x k = u := by unfold gridN; rw [if_neg (by rw [← hr]; simp [hr0]), hu]
        have e : gridQ true k x = makeQ u (ten k) := by
          unfold gridQ; rw [if_pos ⟨⟨h0, h1⟩, hb, by rw [eN]; exact hq⟩, eN, makeQ_ten]
        rw [e]
        have er' : Lib.itoa r = [48] := by rw [hr0, itoa0]
        simp only [er'] at cg
        apply e_ref04_Up
        unfold s_ref04_Up
        refine bxR fun g2 w1 x1 hg2 _ b2 => ?_
        refine alR fun g4 w3 x3 hg4 _ b4 => ?_
        refine ldR (b2.ext x3) ?_
        have hw0 : w.heap.size ≤ g4 := by have := x1.size; omega
        refine Cl4 n_ref04_grid (cg w3) fun w4 x4 => ?_
        ((with_reducible refine Un_T ?_); (with_reducible refine If_F ?_))
        refine Jn1.mk ?_
        intro K hK
        ((with_reducible refine Bn_neST ?_); (with_reducible refine If_F ?_))
        refine hK _ _ ?_
        refine Cl2 n_ref04_Make (fMake_ok (itoa_ok hq) (itoa_ok (ten_max h1)) hq (ten_max h1)) fun w5 x5 => ?_
        exact endR ((b4.ext x4).ext x5) (((x1.tr x3).tr x4).tr x5) hw0 rfl
      · have er := not0 hr0
        have eN : gridN true x k = u + 1 := by unfold gridN; rw [if_pos ⟨rfl, by rw [← hr]; exact hr0⟩, hu]
        have cA := fun w : World => t_rAdd (w := w) hq m1
        simp only [l1] at cA
        by_cases hm : (u + 1).natAbs < MaxI
        · have e : gridQ true k x = makeQ (u + 1) (ten k) := by
            unfold gridQ; rw [if_pos ⟨⟨h0, h1⟩, hb, by rw [eN]; exact hm⟩, eN, makeQ_ten]
          rw [e]
          simp only [resE_ok hm, resA_ok hm] at cA
          apply e_ref04_Up
          unfold s_ref04_Up
          refine bxR fun g2 w1 x1 hg2 _ b2 => ?_
          refine alR fun g4 w3 x3 hg4 _ b4 => ?_
          refine ldR (b2.ext x3) ?_
          have hw0 : w.heap.size ≤ g4 := by have := x1.size; omega
          refine Cl4 n_ref04_grid (cg w3) fun w4 x4 => ?_
          ((with_reducible refine Un_T ?_); (with_reducible refine If_F ?_))
          refine Jn1.mk ?_
          intro K hK
          (((with_reducible refine Bn_neSF ?_ ?_); focus assumption); (with_reducible refine If_T ?_))
          refine Cl2 n_ref03_Add (cA w4) fun w6 x6 => ?_
          (((with_reducible refine Bn_neF ?_ ?_); focus omega); (with_reducible refine If_F ?_))
          refine hK _ _ ?_
          refine Cl2 n_ref04_Make (fMake_ok (itoa_ok hm) (itoa_ok (ten_max h1)) hm (ten_max h1)) fun w5 x5 => ?_
          exact endR (((b4.ext x4).ext x6).ext x5) ((((x1.tr x3).tr x4).tr x6).tr x5) hw0 rfl
        · have e : gridQ true k x = rBad := by unfold gridQ; rw [if_neg (fun h => hm (by rw [← eN]; exact h.2.2))]
          rw [e]
          simp only [resE_bad hm] at cA
          apply e_ref04_Up
          unfold s_ref04_Up
          refine bxR fun g2 w1 x1 hg2 _ b2 => ?_
          refine alR fun g4 w3 x3 hg4 _ b4 => ?_
          refine ldR (b2.ext x3) ?_
          have hw0 : w.heap.size ≤ g4 := by have := x1.size; omega
          refine Cl4 n_ref04_grid (cg w3) fun w4 x4 => ?_
          ((with_reducible refine Un_T ?_); (with_reducible refine If_F ?_))
          refine Jn1.mk ?_
          intro K hK
          (((with_reducible refine Bn_neSF ?_ ?_); focus assumption); (with_reducible refine If_T ?_))
          refine Cl2 n_ref03_Add (cA w4) fun w6 x6 => ?_
          (((with_reducible refine Bn_neT ?_ ?_); focus omega); (with_reducible refine If_T ?_))
          exact endBad ((b4.ext x4).ext x6) (((x1.tr x3).tr x4).tr x6) hw0
    · have e : gridQ true k x = rBad := by unfold gridQ; rw [if_neg (fun h => hb h.2.1)]
      rw [e]
      apply e_ref04_Up
      unfold s_ref04_Up
      refine bxR fun g2 w1 x1 hg2 _ b2 => ?_
      refine alR fun g4 w3 x3 hg4 _ b4 => ?_
      refine ldR (b2.ext x3) ?_
      have hw0 : w.heap.size ≤ g4 := by have := x1.size; omega
      refine Cl4 n_ref04_grid (c_grid_big hx h0 h1 hb) fun w4 x4 => ?_
      ((with_reducible refine Un_F ?_); (with_reducible refine If_T ?_))
      exact endBad (b4.ext x4) ((x1.tr x3).tr x4) hw0
  · have e : ans1 (gridQ true k) rBad n d = rBad := by
      by_cases o1 : okR n d
      · obtain ⟨x, rfl, rfl, hx⟩ := o1
        rw [ans1_ok hx]
        unfold gridQ
        rw [if_neg (fun h => o ⟨⟨x, rfl, rfl, hx⟩, h.1⟩)]
      · exact ans1_bad o1
    rw [e]
    apply e_ref04_Up
    unfold s_ref04_Up
    refine bxR fun g2 w1 x1 hg2 _ b2 => ?_
    refine alR fun g4 w3 x3 hg4 _ b4 => ?_
    refine ldR (b2.ext x3) ?_
    have hw0 : w.heap.size ≤ g4 := by have := x1.size; omega
    refine Cl4 n_ref04_grid (c_grid_bad hn hd o) fun w4 x4 => ?_
    ((with_reducible refine Un_F ?_); (with_reducible refine If_T ?_))
    exact endBad (b4.ext x4) ((x1.tr x3).tr x4) hw0
end
end Go.Proofs.YthpcmmfijelbaaaGreatDoor
namespace Go.Proofs.YthpcmmfijelbaaaGreatDoor
open Go Go.Eng Go.Proofs Go.Num Go.RowKit
set_option maxRecDepth 100000
set_option linter.unusedVariables false
set_option linter.unusedSectionVars false
section
variable {n d : List UInt8} {k : Int} {up : Bool} {w : World} (hn : n.length ≤ 1000000) (hd : d.length ≤ 1000000) (hT : Tab w)
include hn hd hT
theorem round_bad (o : ¬ (okR n d ∧ 0 ≤ k ∧ k ≤ 30)) : Calls Tryz.prog 69 #[.agg #[str n, str d], .int .i64 k, .bool up] w (Ret fun r w' => Ext w w' ∧ r = rv rBad) := by
  apply e_rational_round
  unfold s_rational_round
  refine bxR fun g3 w1 x1 hg3 hg3' b3 => ?_
  refine alR fun g6 w2 x2 hg6 hg6' b6 => ?_
  have xx := x1.tr x2
  replace b3 := b3.ext x2
  have k6 : w.heap.size ≤ g6 := by have := x1.size; omega
  have body : ∀ b : Bool, (b || !okB n d) = true → ∀ g w4, Ext w2 w4 → w2.heap.size ≤ g → g < w4.heap.size → Blk w4 g tW [.bool b] → ∀ s w5, Ext w4 w5 → w4.heap.size ≤ s → Blk w5 s tR (cellsR [(n, d)]) →
      Calls Tryz.prog 59 #[pt g, .slice (some ⟨s, 0, none⟩) 1 1] w5 (Ret (DoP g w5 (.tuple #[]) true)) := by
    intro b hb g w4 x4 hg hgl h s w5 x5 hs b7
    have hw0 : w.heap.size ≤ g := by have := xx.size; omega
    have hgT : ∀ W, Own g w5 W → Tab W := fun W o => hT.ext (o.ext ((xx.tr x4).tr x5) hw0)
    have c := c_check (k := 1) (h.ext x5) b7 (by omega) rfl (by decide) (by
      intro x hx
      simp only [List.mem_cons, List.not_mem_nil, or_false] at hx
      subst hx; exact ⟨hn, hd⟩) (hT.ext ((xx.tr x4).tr x5)) hgT
    have eb : (b || [(n, d)].any fun x => !okB x.1 x.2) = true := by simpa using hb
    rw [eb] at c
    exact c
  have endW : ∀ g w4, Ext w2 w4 → w2.heap.size ≤ g → ∀ w5, Ext w4 w5 → ∀ w6, Own g w5 w6 → Blk w6 g6 tR [str [], str []] ∧ Ext w w6 := by
    intro g w4 x4 hg w5 x5 w6 o6
    have hne6 : g6 ≠ g := by omega
    have hw0 : w.heap.size ≤ g := by have := xx.size; omega
    exact ⟨blkOwn ((b6.ext x4).ext x5) hne6 o6, o6.ext ((xx.tr x4).tr x5) hw0⟩
  by_cases h0 : 0 ≤ k
  · by_cases h1 : k ≤ 30
    · have ob : okB n d = false := okB_f (fun h => o ⟨h, h0, h1⟩)
      (((with_reducible refine Bn_ltF ?_ ?_); focus omega); (with_reducible refine Gd_F ?_); (with_reducible refine Gd_F ?_); ((with_reducible refine Bn_gtF ?_ ?_); focus omega); (with_reducible refine Pick_F ?_))
      refine bdW ?_
      refine bxW fun g w4 x4 hg hgl h => ?_
      refine ldR (b3.ext x4) ?_
      refine bs1R fun s w5 x5 hs b7 => ?_
      refine Cl_i n_rational_work_check (body false (by rw [ob]; rfl) g w4 x4 hg hgl h s w5 x5 hs b7) ?_
      rintro _ w6 ⟨rfl, o6, h6⟩
      obtain ⟨q6, q7⟩ := endW g w4 x4 hg w5 x5 w6 o6
      refine ncP ?_
      refine flW h6 ?_
      refine If_T ?_
      exact endBad q6 q7 k6
    · (((with_reducible refine Bn_ltF ?_ ?_); focus omega); (with_reducible refine Gd_F ?_); (with_reducible refine Gd_F ?_); ((with_reducible refine Bn_gtT ?_ ?_); focus omega); (with_reducible refine Pick_F ?_))
      refine bdW ?_
      refine bxW fun g w4 x4 hg hgl h => ?_
      refine ldR (b3.ext x4) ?_
      refine bs1R fun s w5 x5 hs b7 => ?_
      refine Cl_i n_rational_work_check (body true rfl g w4 x4 hg hgl h s w5 x5 hs b7) ?_
      rintro _ w6 ⟨rfl, o6, h6⟩
      obtain ⟨q6, q7⟩ := endW g w4 x4 hg w5 x5 w6 o6
      refine ncP ?_
      refine flW h6 ?_
      refine If_T ?_
      exact endBad q6 q7 k6
  · (((with_reducible refine Bn_ltT ?_ ?_); focus omega); (with_reducible refine Gd_TF ?_); (with_reducible refine Gd_TF ?_); (with_reducible refine Pick_T ?_))
    refine bdW ?_
    refine bxW fun g w4 x4 hg hgl h => ?_
    refine ldR (b3.ext x4) ?_
    refine bs1R fun s w5 x5 hs b7 => ?_
    refine Cl_i n_rational_work_check (body true rfl g w4 x4 hg hgl h s w5 x5 hs b7) ?_
    rintro _ w6 ⟨rfl, o6, h6⟩
    obtain ⟨q6, q7⟩ := endW g w4 x4 hg w5 x5 w6 o6
    refine ncP ?_
    refine flW h6 ?_
    refine If_T ?_
    exact endBad q6 q7 k6
end
section
variable {x : Rat} {k : Int} {w : World} (hx : RB x) (hT : Tab w) (h0 : 0 ≤ k) (h1 : k ≤ 30)
include hx hT h0 h1
theorem round_ok {up : Bool} : Calls Tryz.prog 69 #[fq x, .int .i64 k, .bool up] w (Ret fun r w' => Ext w w' ∧ r = rv (gridQ up k x)) := by
  have hB : Tryz.prog.underlying 4 = some .bool := Tryz.underlying4
  obtain ⟨m, hm⟩ : ∃ m : Nat, k = m := ⟨k.toNat, by omega⟩
  have ob : okB (Lib.itoa x.num) (Lib.itoa (x.den : Int)) = true := okB_t (okR_q.2 hx)
  have hlen : ∀ y ∈ [(Lib.itoa x.num, Lib.itoa (x.den : Int))], y.1.length ≤ 1000000 ∧ y.2.length ≤ 1000000 := by
    intro y hy
    simp only [List.mem_cons, List.not_mem_nil, or_false] at hy
    subst hy; exact ⟨itoa_ok hx.n, itoa_ok hx.d⟩
  have htl := itoa_ok (ten_max h1)
  have hd0 := Int.ne_of_gt (den_pos x)
  apply e_rational_round
  unfold s_rational_round
  refine bxR fun g3 w1 x1 hg3 hg3' b3 => ?_
  refine alR fun g6 w2 x2 hg6 hg6' b6 => ?_
  have xx := x1.tr x2
  replace b3 := b3.ext x2
  have k6 : w.heap.size ≤ g6 := by have := x1.size; omega
  (((with_reducible refine Bn_ltF ?_ ?_); focus omega); (with_reducible refine Gd_F ?_); (with_reducible refine Gd_F ?_); ((with_reducible refine Bn_gtF ?_ ?_); focus omega); (with_reducible refine Pick_F ?_))
  refine bdW ?_
  refine bxW fun g w4 x4 hg hgl h => ?_
  have n3 : g3 ≠ g := by omega
  have n6 : g6 ≠ g := by omega
  have hw0 : w.heap.size ≤ g := by have := xx.size; omega
  replace b3 := b3.ext x4
  replace b6 := b6.ext x4
  replace xx := xx.tr x4
  refine ldR b3 ?_
  refine bs1R fun s w5 x5 hs b7 => ?_
  replace b3 := b3.ext x5
  replace b6 := b6.ext x5
  replace xx := xx.tr x5
  replace h := h.ext x5
  have hsg : s ≠ g := by omega
  clear x1 x2 x4 x5 hg3 hg3' hg6 hg6' hg hgl hs
  have hgT : ∀ W, Own g w5 W → Tab W := fun W o => hT.ext (o.ext xx hw0)
  have cc := c_check (k := 1) h b7 hsg rfl (by decide) hlen (hT.ext xx) hgT
  rw [show (false || [(Lib.itoa x.num, Lib.itoa (x.den : Int))].any fun y => !okB y.1 y.2) = false by simp [ob]] at cc
  refine Cl_i n_rational_work_check cc ?_
  rintro _ w6 ⟨rfl, o6, h6⟩
  replace b3 := blkOwn b3 n3 o6
  replace b6 := blkOwn b6 n6 o6
  refine ncP ?_
  refine flW h6 ?_
  refine If_F ?_
  subst hm
  refine Cl_i n_strings_Repeat (c_Repeat0 (c := m) (by omega)) ?_
  rintro _ w7 ⟨rfl, x7⟩
  refine Bn_cat (by simp; omega) ?_
  rw [show [49] ++ List.replicate m (48 : UInt8) = Lib.itoa (ten (m : Int)) from ten_str rfl]
  have h7 := h6.ext x7
  have o7 : Own g w5 w7 := o6.trans (.ofExt x7 (Nat.le_of_lt h6.lt))
  replace b3 := b3.ext x7
  replace b6 := b6.ext x7
  refine fl0 b3 ?_
  have cm := c_wmul h7 (itoa_ok hx.n) htl (hgT _ o7)
  rw [binA_ok hx.n (ten_max h1), binE_ok hx.n (ten_max h1), doB_resE, doa_f] at cm
  refine Cl_i n_rational_work_mul cm ?_
  rintro _ w8 ⟨rfl, o8, h8⟩
  replace b3 := blkOwn b3 n3 o8
  replace b6 := blkOwn b6 n6 o8
  replace o8 := o7.trans o8
  refine ncP ?_
  refine flW h8 ?_
  by_cases hb : (x.num * ten (m : Int)).natAbs < MaxI
  · rw [decide_eq_true hb] at h8 ⊢
    rw [resA_ok hb]
    refine If_F ?_
    refine fl1 b3 ?_
    have hq := ediv_max (q := (x.den : Int)) hb
    have hr := emod_max (p := x.num * ten (m : Int)) (den_pos x) hx.d
    refine Cl3 n_integer_Div (k_Div hb hx.d hd0 (hgT _ o8) rfl rfl) fun w9 x9 => ?_
    replace b6 := b6.ext x9
    have h9 := h8.ext x9
    have o9 : Own g w5 w9 := o8.trans (.ofExt x9 (Nat.le_of_lt h8.lt))
    have eN : gridN up x (m : Int) = if up = true ∧ (x.num * ten (m : Int)) % (x.den : Int) ≠ 0 then (x.num * ten (m : Int)) / (x.den : Int) + 1 else (x.num * ten (m : Int)) / (x.den : Int) := rfl
    obtain ⟨u, hu⟩ : ∃ u, u = (x.num * ten (m : Int)) / (x.den : Int) := ⟨_, rfl⟩
    obtain ⟨r, hre⟩ : ∃ r, r = (x.num * ten (m : Int)) % (x.den : Int) := ⟨_, rfl⟩
    rw [← hu] at hq
    rw [← hu, ← hre] at eN ⊢
    clear hu hre
    refine Jn1.mk ?_
    intro K hK
    refine Bn_neF rfl ?_
    refine ncP ?_
    refine fsW h9 fun wa oa ha => ?_
    replace b6 := blkOwn b6 n6 oa
    replace oa := o9.trans oa
    have fin : ∀ z : Int, ∀ W, z.natAbs < MaxI → gridN up x (m : Int) = z → Own g w5 W → Blk W g tW [.bool false] → Blk W g6 tR [str [], str []] → K (str (Lib.itoa z)) W := by
      intro z W hz ez o hW q6
      refine hK _ _ ?_
      have e : gridQ up (m : Int) x = makeQ z (ten (m : Int)) := by
        unfold gridQ; rw [if_pos ⟨⟨h0, h1⟩, hb, by rw [ez]; exact hz⟩, ez, makeQ_ten]
      rw [e]
      refine Cl_i n_rational_work_reduced (c_reduced hW hz (ten_max h1) (fun W' o' => hgT W' (o.trans o'))) ?_
      rintro _ wb ⟨ob, rfl⟩
      refine Ex2 ?_
      exact endR (blkOwn q6 n6 ob) ((o.trans ob).ext xx hw0) k6 rfl
    have finBad : ∀ (A : List UInt8) (W : World), gridQ up (m : Int) x = rBad → Own g w5 W → Blk W g tW [.bool true] → Blk W g6 tR [str [], str []] → K (str A) W := by
      intro A W e o hW q6
      refine hK _ _ ?_
      rw [e]
      refine Cl_i n_rational_work_reduced (c_reduced_bad hW) ?_
      rintro _ wb ⟨ob, rfl⟩
      refine Ex2 ?_
      exact endR (blkOwn q6 n6 ob) ((o.trans ob).ext xx hw0) k6 rfl
    cases up with
    | false =>
      ((with_reducible refine Gd_FT ?_); (with_reducible refine Gd_FT ?_); (with_reducible refine Pick_F ?_); (with_reducible refine If_F ?_))
      exact fin u wa hq (by rw [eN, if_neg (by simp)]) oa ha b6
    | true =>
      by_cases hr0 : r = 0
      · have er : Lib.itoa r = [48] := by rw [hr0, itoa0]
        rw [er]
        ((with_reducible refine Gd_T ?_); (with_reducible refine Gd_T ?_); (with_reducible refine Bn_neST ?_); (with_reducible refine Pick_T ?_); (with_reducible refine If_F ?_))
        exact fin u wa hq (by rw [eN, if_neg (by simp [hr0])]) oa ha b6
      · have er := not0 hr0
        ((with_reducible refine Gd_T ?_); (with_reducible refine Gd_T ?_); ((with_reducible refine Bn_neSF ?_ ?_); focus assumption); (with_reducible refine Pick_T ?_); (with_reducible refine If_T ?_))
        have cA := g_Add (w := wa) (itoa_ok hq) (show ([49] : List UInt8).length ≤ 1000000 by decide) (hgT _ oa)
        have cd := c_do ha n_integer_Add cA
        rw [← l1, binA_ok hq m1, binE_ok hq m1, doB_resE, doa_f] at cd
        rw [l1] at cd
        refine Cl_i n_rational_work_do cd ?_
        rintro _ wc ⟨rfl, oc, hc⟩
        have q6 := blkOwn b6 n6 oc
        replace oc := oa.trans oc
        have eN' : gridN true x (m : Int) = u + 1 := by rw [eN, if_pos ⟨rfl, hr0⟩]
        by_cases hm1 : (u + 1).natAbs < MaxI
        · rw [decide_eq_true hm1] at hc
          rw [resA_ok hm1]
          exact fin (u + 1) wc hm1 eN' oc hc q6
        · rw [decide_eq_false hm1] at hc
          exact finBad _ wc (by unfold gridQ; rw [if_neg (fun h => hm1 (by rw [← eN']; exact h.2.2))]) oc hc q6
  · have e : gridQ up (m : Int) x = rBad := by unfold gridQ; rw [if_neg (fun h => hb h.2.1)]
    rw [e]
    rw [decide_eq_false hb]
    refine If_T ?_
    exact endBad b6 (o8.ext xx hw0) k6
end
section
variable {n d : List UInt8} {k : Int} {w : World} (hn : n.length ≤ 1000000) (hd : d.length ≤ 1000000) (hT : Tab w)
include hn hd hT
theorem c_round {up : Bool} : Calls Tryz.prog 69 #[.agg #[str n, str d], .int .i64 k, .bool up] w (Ret fun r w' => Ext w w' ∧ r = rv (ans1 (gridQ up k) rBad n d)) := by
  by_cases o : okR n d ∧ 0 ≤ k ∧ k ≤ 30
  · obtain ⟨⟨x, rfl, rfl, hx⟩, h0, h1⟩ := o
    rw [ans1_ok hx]
    exact round_ok hx hT h0 h1
  · have e : ans1 (gridQ up k) rBad n d = rBad := by
      by_cases o1 : okR n d
      · obtain ⟨x, rfl, rfl, hx⟩ := o1
        rw [ans1_ok hx]
        unfold gridQ
        rw [if_neg (fun h => o ⟨⟨x, rfl, rfl, hx⟩, h.1⟩)]
      · exact ans1_bad o1
    rw [e]
    exact round_bad hn hd hT o
theorem c_qDown : Calls Tryz.prog 35 #[.agg #[str n, str d], .int .i64 k] w (Ret fun r w' => Ext w w' ∧ r = rv (ans1 (gridQ false k) rBad n d)) := by
  apply e_rational_Down
  unfold s_rational_Down
  refine bxR fun g2 w1 x1 hg2 _ b2 => ?_
  refine alR fun g4 w3 x3 hg4 _ b4 => ?_
  refine ldR (b2.ext x3) ?_
  refine Cl2 n_rational_round (c_round hn hd ((hT.ext x1).ext x3)) fun w4 x4 => ?_
  exact endR (b4.ext x4) ((x1.tr x3).tr x4) (by have := x1.size; omega) rfl
theorem c_qUp : Calls Tryz.prog 37 #[.agg #[str n, str d], .int .i64 k] w (Ret fun r w' => Ext w w' ∧ r = rv (ans1 (gridQ true k) rBad n d)) := by
  apply e_rational_Up
  unfold s_rational_Up
  refine bxR fun g2 w1 x1 hg2 _ b2 => ?_
  refine alR fun g4 w3 x3 hg4 _ b4 => ?_
  refine ldR (b2.ext x3) ?_
  refine Cl2 n_rational_round (c_round hn hd ((hT.ext x1).ext x3)) fun w4 x4 => ?_
  exact endR (b4.ext x4) ((x1.tr x3).tr x4) (by have := x1.size; omega) rfl
end
end Go.Proofs.YthpcmmfijelbaaaGreatDoor
namespace Go.Proofs.YthpcmmfijelbaaaGreatDoor
open Go Go.Eng Go.Proofs Go.Num Go.RowKit
set_option maxRecDepth 100000
set_option linter.unusedVariables false
set_option linter.unusedSectionVars false
theorem fq0 : fq 0 = .agg #[str [48], str [49]] := by
  show Value.agg #[str (Lib.itoa 0), str (Lib.itoa 1)] = _
  rw [itoa0, l1]
theorem rb0 : RB 0 := ⟨m0, m1⟩
section
variable {n d m c : List UInt8} {w : World} (hn : n.length ≤ 1000000) (hd : d.length ≤ 1000000) (hm : m.length ≤ 1000000) (hc : c.length ≤ 1000000) (hT : Tab w)
include hn hd hT
theorem c_lminus : Calls Tryz.prog 45 #[.agg #[str n, str d]] w (Ret fun r w' => Ext w w' ∧ r = fv (ans2 subQ rBad [48] [49] n d)) := by
  obtain ⟨t, ht⟩ : ∃ t, t = ans2 subQ rBad [48] [49] n d := ⟨_, rfl⟩
  have cs : ∀ {w : World}, Tab w → Calls Tryz.prog 44 #[.agg #[str [48], str [49]], .agg #[str n, str d]] w (Ret fun r w' => Ext w w' ∧ r = rv t) := by
    intro w hT; rw [ht]; exact c_qSub (by decide) (by decide) hn hd hT
  rw [← ht]
  clear ht
  apply e_law04_minus
  unfold s_law04_minus
  refine bxR fun g1 w1 x1 hg1 _ b1 => ?_
  refine alR fun g2 w2 x2 hg2 hg2' b2 => ?_
  have xx := x1.tr x2
  have k2 : w.heap.size ≤ g2 := by have := x1.size; omega
  replace b1 := b1.ext x2
  clear x1 x2 hg1 hg2
  have hs := xx.size
  refine dR (w := w2.drew) (o := 0) b1 rfl rfl ?_
  refine ⟨?_, ?_⟩
  · refine Cl1 n_law04_is (c_is (w := w2.drew)) fun w3 x3 => ?_
    replace x3 : Ext w2 w3 := (Ext.refl w2).dr.tr x3
    refine kR (o := 0) (b1.ext x3) rfl rfl ?_
    refine ⟨?_, ?_⟩
    · refine Cl1 n_rational_Sub (cs (hT.ext (xx.tr x3))) fun w4 x4 => ?_
      refine ExP2 ?_
      refine alR fun g3 w6 x6 hg3 hg3' b3 => ?_
      refine kR (o := 0) (((b1.ext x3).ext x4).ext x6) rfl rfl ?_
      have s1 := (x3.tr x4).size
      exact endSm (((b2.ext x3).ext x4).ext x6) b3 (by omega) (((xx.tr x3).tr x4).tr x6) k2 (by omega)
    · refine alR fun g3 w6 x6 hg3 hg3' b3 => ?_
      refine kR (o := 0) ((b1.ext x3).ext x6) rfl rfl ?_
      refine Cl1 n_rational_Sub (cs (hT.ext ((xx.tr x3).tr x6))) fun w4 x4 => ?_
      refine ExP2 ?_
      have s1 := x3.size
      exact endSm (((b2.ext x3).ext x6).ext x4) (b3.ext x4) (by omega) (((xx.tr x3).tr x6).tr x4) k2 (by omega)
  · refine alR fun g3 w6 x6 hg3 hg3' b3 => ?_
    replace x6 : Ext w2 w6 := (Ext.refl w2).dr.tr x6
    replace hg3 : w2.heap.size ≤ g3 := hg3
    refine kR (o := 0) (b1.ext x6) rfl rfl ?_
    refine Cl1 n_law04_is (c_is (w := w6)) fun w3 x3 => ?_
    refine kR (o := 0) ((b1.ext x6).ext x3) rfl rfl ?_
    refine Cl1 n_rational_Sub (cs (hT.ext ((xx.tr x6).tr x3))) fun w4 x4 => ?_
    refine ExP2 ?_
    exact endSm (((b2.ext x6).ext x3).ext x4) ((b3.ext x3).ext x4) (by omega) (((xx.tr x6).tr x3).tr x4) k2 (by omega)
include hm hc
def fourV (a b c d : R3) : Value := .tuple #[.agg #[str a.1, str a.2.1, str b.1, str b.2.1, str c.1, str c.2.1, str d.1, str d.2.1], .agg #[.int .i64 a.2.2, .int .i64 b.2.2, .int .i64 c.2.2, .int .i64 d.2.2]]
theorem c_four : Calls Tryz.prog 29 #[.agg #[str n, str d], .agg #[str m, str c]] w (Ret fun r w' => Ext w w' ∧ r = fourV (ans2 addQ rBad n d m c) (ans2 subQ rBad n d m c) (ans2 mulQ rBad n d m c) (ans2 divQ rBad n d m c)) := by
  have c1 := fun (w : World) hT => c_qAdd (w := w) hn hd hm hc hT
  have c2 := fun (w : World) hT => c_qSub (w := w) hn hd hm hc hT
  have c3 := fun (w : World) hT => c_qMul (w := w) hn hd hm hc hT
  have c4 := fun (w : World) hT => c_qDiv (w := w) hn hd hm hc hT
  obtain ⟨a1, e1⟩ : ∃ t, t = ans2 addQ rBad n d m c := ⟨_, rfl⟩
  obtain ⟨a2, e2⟩ : ∃ t, t = ans2 subQ rBad n d m c := ⟨_, rfl⟩
  obtain ⟨a3, e3⟩ : ∃ t, t = ans2 mulQ rBad n d m c := ⟨_, rfl⟩
  obtain ⟨a4, e4⟩ : ∃ t, t = ans2 divQ rBad n d m c := ⟨_, rfl⟩
  rw [← e1] at c1
  rw [← e2] at c2
  rw [← e3] at c3
  rw [← e4] at c4
  rw [← e1, ← e2, ← e3, ← e4]
  clear e1 e2 e3 e4
  apply e_law04_four
  unfold s_law04_four
  refine bxR fun g2 w1 x1 hg2 hh2 b2 => ?_
  refine bxR fun g3 w2 x2 hg3 hh3 b3 => ?_
  refine alR4 fun g4 w3 x3 hg4 hh4 b4 => ?_
  refine alE4 fun g5 w4 x4 hg5 hh5 b5 => ?_
  refine alR4 fun g6 w5 x5 hg6 hh6 b6 => ?_
  refine alE4 fun g7 w6 x6 hg7 hh7 b7 => ?_
  have s1 := x1.size
  have s2 := x2.size
  have xx := ((((x1.tr x2).tr x3).tr x4).tr x5).tr x6
  replace b2 := ((((b2.ext x2).ext x3).ext x4).ext x5).ext x6
  replace b3 := (((b3.ext x3).ext x4).ext x5).ext x6
  replace b4 := ((b4.ext x4).ext x5).ext x6
  replace b5 := (b5.ext x5).ext x6
  replace b6 := b6.ext x6
  have k4 : w.heap.size ≤ g4 := by omega
  have k5 : w.heap.size ≤ g5 := by omega
  have k6 : w.heap.size ≤ g6 := by omega
  have k7 : w.heap.size ≤ g7 := by omega
  have n26 : g2 ≠ g6 := by omega
  have n27 : g2 ≠ g7 := by omega
  have n36 : g3 ≠ g6 := by omega
  have n37 : g3 ≠ g7 := by omega
  have n46 : g4 ≠ g6 := by omega
  have n47 : g4 ≠ g7 := by omega
  have n56 : g5 ≠ g6 := by omega
  have n57 : g5 ≠ g7 := by omega
  have n67 : g6 ≠ g7 := by omega
  have n45 : g4 ≠ g5 := by omega
  clear x1 x2 x3 x4 x5 x6 hg2 hh2 hg3 hh3 hg4 hh4 hg5 hh5 hg6 hh6 hg7 hh7 s1 s2
  refine ldR b2 (ldR b3 ?_)
  refine Cl2 n_rational_Add (c1 _ (hT.ext xx)) fun w0a y0a => ?_
  replace b2 := b2.ext y0a
  replace b3 := b3.ext y0a
  replace b4 := b4.ext y0a
  replace b5 := b5.ext y0a
  replace b6 := b6.ext y0a
  replace b7 := b7.ext y0a
  replace xx := xx.tr y0a
  refine iaR4x0 ?_
  refine sR8x0 b6 fun w0b o0b b6 => ?_
  replace b2 := blkOwn b2 n26 o0b
  replace b3 := blkOwn b3 n36 o0b
  replace b4 := blkOwn b4 n46 o0b
  replace b5 := blkOwn b5 n56 o0b
  replace b7 := blkOwn b7 n67.symm o0b
  replace xx := o0b.ext xx k6
  refine iaE4x0 ?_
  refine sE4x0 b7 fun w0c o0c b7 => ?_
  replace b2 := blkOwn b2 n27 o0c
  replace b3 := blkOwn b3 n37 o0c
  replace b4 := blkOwn b4 n47 o0c
  replace b5 := blkOwn b5 n57 o0c
  replace b6 := blkOwn b6 n67 o0c
  replace xx := o0c.ext xx k7
  clear o0b o0c y0a
  refine ldR b2 (ldR b3 ?_)
  refine Cl2 n_rational_Sub (c2 _ (hT.ext xx)) fun w1a y1a => ?_
  replace b2 := b2.ext y1a
  replace b3 := b3.ext y1a
  replace b4 := b4.ext y1a
  replace b5 := b5.ext y1a
  replace b6 := b6.ext y1a
  replace b7 := b7.ext y1a
  replace xx := xx.tr y1a
  refine iaR4x1 ?_
  refine sR8x2 b6 fun w1b o1b b6 => ?_
  replace b2 := blkOwn b2 n26 o1b
  replace b3 := blkOwn b3 n36 o1b
  replace b4 := blkOwn b4 n46 o1b
  replace b5 := blkOwn b5 n56 o1b
  replace b7 := blkOwn b7 n67.symm o1b
  replace xx := o1b.ext xx k6
  refine iaE4x1 ?_
  refine sE4x1 b7 fun w1c o1c b7 => ?_
  replace b2 := blkOwn b2 n27 o1c
  replace b3 := blkOwn b3 n37 o1c
  replace b4 := blkOwn b4 n47 o1c
  replace b5 := blkOwn b5 n57 o1c
  replace b6 := blkOwn b6 n67 o1c
  replace xx := o1c.ext xx k7
  clear o1b o1c y1a
  refine ldR b2 (ldR b3 ?_)
  refine Cl2 n_rational_Mul (c3 _ (hT.ext xx)) fun w2a y2a => ?_
  replace b2 := b2.ext y2a
  replace b3 := b3.ext y2a
  replace b4 := b4.ext y2a
  replace b5 := b5.ext y2a
  replace b6 := b6.ext y2a
  replace b7 := b7.ext y2a
  replace xx := xx.tr y2a
  refine iaR4x2 ?_
  refine sR8x4 b6 fun w2b o2b b6 => ?_
  replace b2 := blkOwn b2 n26 o2b
  replace b3 := blkOwn b3 n36 o2b
  replace b4 := blkOwn b4 n46 o2b
  replace b5 := blkOwn b5 n56 o2b
  replace b7 := blkOwn b7 n67.symm o2b
  replace xx := o2b.ext xx k6
  refine iaE4x2 ?_
  refine sE4x2 b7 fun w2c o2c b7 => ?_
  replace b2 := blkOwn b2 n27 o2c
  replace b3 := blkOwn b3 n37 o2c
  replace b4 := blkOwn b4 n47 o2c
  replace b5 := blkOwn b5 n57 o2c
  replace b6 := blkOwn b6 n67 o2c
  replace xx := o2c.ext xx k7
  clear o2b o2c y2a
  refine ldR b2 (ldR b3 ?_)
  refine Cl2 n_rational_Div (c4 _ (hT.ext xx)) fun w3a y3a => ?_
  replace b2 := b2.ext y3a
  replace b3 := b3.ext y3a
  replace b4 := b4.ext y3a
  replace b5 := b5.ext y3a
  replace b6 := b6.ext y3a
  replace b7 := b7.ext y3a
  replace xx := xx.tr y3a
  refine iaR4x3 ?_
  refine sR8x6 b6 fun w3b o3b b6 => ?_
  replace b2 := blkOwn b2 n26 o3b
  replace b3 := blkOwn b3 n36 o3b
  replace b4 := blkOwn b4 n46 o3b
  replace b5 := blkOwn b5 n56 o3b
  replace b7 := blkOwn b7 n67.symm o3b
  replace xx := o3b.ext xx k6
  refine iaE4x3 ?_
  refine sE4x3 b7 fun w3c o3c b7 => ?_
  replace b2 := blkOwn b2 n27 o3c
  replace b3 := blkOwn b3 n37 o3c
  replace b4 := blkOwn b4 n47 o3c
  replace b5 := blkOwn b5 n57 o3c
  replace b6 := blkOwn b6 n67 o3c
  replace xx := o3c.ext xx k7
  clear o3b o3c y3a
  refine dlR4 (w := w3c.drew) b6 (dlE4 (w := w3c.drew) b7 ?_)
  refine stR4 (w := w3c.drew) b4 fun wx ox b4 => ?_
  replace b7 := blkOwn (W := w3c.drew) b7 n47.symm ox
  replace b5 := blkOwn (W := w3c.drew) b5 n45.symm ox
  replace xx := ox.ext (w := w3c.drew) xx.dr k4
  refine klE4 b7 ?_
  refine stE4 b5 fun wy oy b5 => ?_
  replace b4 := blkOwn b4 n45 oy
  refine rcR4 b4 (rcE4 b5 ?_)
  exact Ret.mk ⟨oy.ext xx k5, rfl⟩
end
end Go.Proofs.YthpcmmfijelbaaaGreatDoor
