/-
  Contracts of functions of the program, and plain lemmas on numbers and strings. By an AI agent.
-/
import Derived.Test.YthpcmmfijelbaaaGreatDoorQHelp
set_option linter.unusedSimpArgs false
set_option linter.unusedVariables false
set_option linter.unusedSectionVars false
namespace Go.Proofs.YthpcmmfijelbaaaGreatDoor
open Go Go.Eng Go.Proofs Go.Num Go.RowKit
set_option maxRecDepth 100000
set_option linter.unusedVariables false
set_option linter.unusedSectionVars false
theorem ten_Sz' {k : Int} {n : Nat} (h : k < n) (h0 : 0 ≤ k) : Sz n (ten k) := by
  unfold Sz ten
  rw [Int.natAbs_pow]
  exact Nat.pow_lt_pow_right (by decide) (by omega)
theorem ten_mul {p q : Int} (hp : 0 ≤ p) (hq : 0 ≤ q) : ten p * ten q = ten (p + q) := by
  unfold ten
  rw [← Int.pow_add]
  congr 1
  omega
theorem ten_big {k : Int} (h : 200 ≤ k) : ¬ (ten k).natAbs < MaxI := by
  unfold MaxI ten
  rw [Int.natAbs_pow]
  exact Nat.not_lt.2 (Nat.pow_le_pow_right (by decide) (by omega))
theorem ten_mono {p q : Int} (h0 : 0 ≤ p) (h : p < q) : ten p < ten q := by
  unfold ten
  have : (10 : Nat) ^ p.toNat < 10 ^ q.toNat := Nat.pow_lt_pow_right (by decide) (by omega)
  have e : ∀ n : Nat, ((10 ^ n : Nat) : Int) = (10 : Int) ^ n := fun n => by simp
  rw [← e, ← e]; omega
def tQ (k : Int) : Rat := ((ten k : Int) : Rat)
def sQ (k : Int) : Rat := ((1 : Int) : Rat) / ((ten k : Int) : Rat)
theorem sQ_fr {k : Int} (h0 : 0 ≤ k) (h : k ≤ 199) : (sQ k).num = 1 ∧ (((sQ k).den : Nat) : Int) = ten k := by
  have : Fr 1 (ten k) := ⟨m1, ten_pos k, (ten_Sz' (n := 200) (by omega) h0).max (by decide), by simp⟩
  exact this.rat
theorem tQ_rb {k : Int} (h0 : 0 ≤ k) (h : k ≤ 199) : RB (tQ k) := RB.int ((ten_Sz' (n := 200) (by omega) h0).max (by decide))
theorem sQ_rb {k : Int} (h0 : 0 ≤ k) (h : k ≤ 199) : RB (sQ k) := by
  obtain ⟨e1, e2⟩ := sQ_fr h0 h
  exact ⟨by rw [e1]; exact m1, by rw [e2]; exact (ten_Sz' (n := 200) (by omega) h0).max (by decide)⟩
theorem tQ_v {k : Int} : fq (tQ k) = .agg #[str (Lib.itoa (ten k)), str [49]] := by
  show Value.agg #[str (Lib.itoa (ten k)), str (Lib.itoa 1)] = _
  rw [l1]
theorem t_mul {p q : Int} (hp : 0 ≤ p) (hq : 0 ≤ q) : (p + q + 1 ≤ 200 → (mulQ (tQ p) (tQ q)).2.2 = 0) ∧ (¬ p + q + 1 ≤ 200 → mulQ (tQ p) (tQ q) = rBad) := by
  have e : muOk (tQ p) (tQ q) ↔ (ten (p + q)).natAbs < MaxI := by
    unfold muOk
    show ((ten p * ten q).natAbs < MaxI ∧ ((1 : Int) * 1).natAbs < MaxI) ↔ _
    rw [ten_mul hp hq]
    exact ⟨fun h => h.1, fun h => ⟨h, m1⟩⟩
  unfold mulQ
  constructor
  · intro h
    rw [if_pos (e.2 ((ten_Sz' (n := 200) (by omega) (by omega)).max (by decide)))]; rfl
  · intro h
    rw [if_neg (fun hc => ten_big (by omega) (e.1 hc))]
theorem t_div {q : Int} (hq : 0 ≤ q) (hq1 : q ≤ 199) : divQ (((1 : Int) : Rat) / ((1 : Int) : Rat)) (tQ q) = rQ (sQ q) := by
  have h1 : SR 10 10 (((1 : Int) : Rat) / ((1 : Int) : Rat)) := h11.s
  have h2 : SR 200 1 (tQ q) := SR.int (ten_Sz' (by omega) hq)
  have hne : tQ q ≠ 0 := by
    intro h
    have : (tQ q).num = 0 := num_zero.2 h
    exact ten_ne q this
  have hn : (((1 : Int) : Rat) / ((1 : Int) : Rat)).num = 1 := by decide +kernel
  have hd : (((((1 : Int) : Rat) / ((1 : Int) : Rat)).den : Nat) : Int) = 1 := by decide +kernel
  have hM := (ten_Sz' (k := q) (n := 200) (by omega) hq).max (Nat.le_refl _)
  have ok : dvOk (((1 : Int) : Rat) / ((1 : Int) : Rat)) (tQ q) := by
    unfold dvOk
    rw [hn, hd]
    refine ⟨⟨m1, ?_⟩, hne⟩
    show ((1 : Int) * ten q).natAbs < MaxI
    rw [Int.one_mul]; exact hM
  unfold divQ
  rw [if_pos ok]
  congr 1
  unfold sQ tQ
  rw [show ((1 : Int) : Rat) / ((1 : Int) : Rat) = ((1 : Int) : Rat) by decide +kernel]
theorem t_add {p q : Int} (hp : 0 ≤ p) (hq : 0 ≤ q) (hq1 : q ≤ 199) : (p + q + 1 ≤ 200 → (addQ (tQ p) (sQ q)).2.2 = 0) ∧ (¬ p + q + 1 ≤ 200 → (addQ (tQ p) (sQ q)).2.2 = 40) := by
  obtain ⟨e1, e2⟩ := sQ_fr hq hq1
  have e : sumOk (fun a b => a + b) (tQ p) (sQ q) ↔ (((ten (p + q)).natAbs < MaxI ∧ ((1 : Int) * 1).natAbs < MaxI) ∧ (ten (p + q) + (1 : Int) * 1).natAbs < MaxI ∧ ((1 : Int) * ten q).natAbs < MaxI) := by
    unfold sumOk
    rw [e1, e2]
    show (((ten p * ten q).natAbs < MaxI ∧ ((1 : Int) * 1).natAbs < MaxI) ∧ (ten p * ten q + (1 : Int) * 1).natAbs < MaxI ∧ ((1 : Int) * ten q).natAbs < MaxI) ↔ _
    rw [ten_mul hp hq]
  have hM := (ten_Sz' (k := q) (n := 200) (by omega) hq).max (Nat.le_refl _)
  unfold addQ
  constructor
  · intro h
    have h1 : (ten (p + q)).natAbs < MaxI := (ten_Sz' (n := 200) (by omega) (by omega)).max (by decide)
    have h2 : (ten (p + q) + (1 : Int) * 1).natAbs < MaxI := by
      have a1 := ten_mono (p := p + q) (q := 200) (by omega) (by omega)
      have a2 := ten_pos (p + q)
      have a3 : (ten 200).natAbs = MaxI := by unfold MaxI ten; rw [Int.natAbs_pow]; rfl
      have a4 : 10 ≤ ten 200 := by
        have := ten_mono (p := 1) (q := 200) (by decide) (by decide)
        have : ten 1 = 10 := by decide
        omega
      by_cases hk : p + q = 199
      · have b1 : ten 200 = 10 * ten (p + q) := by
          rw [hk, show (10 : Int) = ten 1 by decide, ten_mul (by decide) (by decide)]; rfl
        omega
      · have b0 := ten_mono (p := p + q) (q := 199) (by omega) (by omega)
        have b1 : ten 200 = 10 * ten 199 := by
          rw [show (10 : Int) = ten 1 by decide, ten_mul (by decide) (by decide)]; rfl
        omega
    rw [if_pos (e.2 ⟨⟨h1, m1⟩, h2, by rw [Int.one_mul]; exact hM⟩)]; rfl
  · intro h
    rw [if_neg (fun hc => ten_big (by omega) (e.1 hc).1.1)]; rfl
theorem t_cmp {p q : Int} (hp : 0 ≤ p) (hq : 0 ≤ q) : cmpQ (tQ p) (tQ q) = if p < q then -1 else if q < p then 1 else 0 := by
  have e : cmpQ (tQ p) (tQ q) = cmpI (ten p * 1) (ten q * 1) := rfl
  rw [e, Int.mul_one, Int.mul_one]
  by_cases h : p < q
  · rw [if_pos h, cmpI_lt (ten_mono hp h)]
  · rw [if_neg h]
    by_cases h2 : q < p
    · rw [if_pos h2, cmpI_gt (ten_mono hq h2)]
    · rw [if_neg h2, cmpI_eq (by rw [show p = q by omega])]
theorem t_cmps {p q : Int} (hp : 0 ≤ p) (hq : 0 ≤ q) (hq1 : q ≤ 199) : cmpQ (tQ p) (sQ q) = if p = 0 ∧ q = 0 then 0 else 1 := by
  obtain ⟨e1, e2⟩ := sQ_fr hq hq1
  have e : cmpQ (tQ p) (sQ q) = cmpI (ten p * ten q) (1 * 1) := by
    unfold cmpQ cmpZ
    rw [e1, e2]; rfl
  rw [e, ten_mul hp hq]
  have e0 : ten 0 = 1 := rfl
  by_cases h : p = 0 ∧ q = 0
  · rw [if_pos h, cmpI_eq (by rw [h.1, h.2]; exact e0)]
  · rw [if_neg h, cmpI_gt]
    have := ten_mono (p := 0) (q := p + q) (by decide) (by omega)
    omega
set_option maxHeartbeats 2000000 in
theorem lim_fits {n m : Int} {w : World} (rn : R64 n) (rm : R64 m) (hF : pickZ n 200 + pickZ m 200 + 1 ≤ 200) (hT : Tab w) (hM : MaxV w) :
    Calls Tryz.prog 5 #[.int .i64 n, .int .i64 m] w (Ret fun r w' => Ext w w' ∧ r = .bool true) := by
  have hB : Tryz.prog.underlying 4 = some .bool := Tryz.underlying4
  have c1 := fun w : World => c_pick (w := w) rn.1 rn.2 (n := 200) (by decide)
  have c2 := fun w : World => c_pick (w := w) rm.1 rm.2 (n := 200) (by decide)
  have d1 := pickZ_bd (c := n) (n := 200) (by decide)
  have d2 := pickZ_bd (c := m) (n := 200) (by decide)
  generalize pickZ n 200 = p at c1 d1 hF
  generalize pickZ m 200 = q at c2 d2 hF
  obtain ⟨pn, rfl⟩ : ∃ k : Nat, p = k := ⟨p.toNat, by omega⟩
  obtain ⟨qn, rfl⟩ : ∃ k : Nat, q = k := ⟨q.toNat, by omega⟩
  have fM := t_mul (p := pn) (q := qn) (by omega) (by omega)
  have fA := t_add (p := pn) (q := qn) (by omega) (by omega) (by omega)
  have fC := t_cmp (p := pn) (q := qn) (by omega) (by omega)
  have fS := t_cmps (p := pn) (q := qn) (by omega) (by omega) (by omega)
  have hx := tQ_rb (k := pn) (by omega) (by omega)
  have hy := tQ_rb (k := qn) (by omega) (by omega)
  have hs := sQ_rb (k := qn) (by omega) (by omega)
  have cM := fun (w : World) (hT : Tab w) => k_mul (w := w) hx hy hT
  have cA := fun (w : World) (hT : Tab w) => k_add (w := w) hx hs hT
  have cC := fun (w : World) (hT : Tab w) => k_cmpq (w := w) hx hy hT
  have cS := fun (w : World) (hT : Tab w) => k_cmpq (w := w) hx hs hT
  have cD : ∀ {w : World}, Tab w → Calls Tryz.prog 26 #[.agg #[str [49], str [49]], .agg #[str (Lib.itoa (ten qn)), str [49]]] w (Ret fun r w' => Ext w w' ∧ r = .tuple #[fq (sQ qn), .int .i64 0]) := by
    intro w hT
    have hl := rb_len hy
    have e2 : Lib.itoa (((tQ (qn : Int)).den : Nat) : Int) = [49] := l1
    have := c_qDiv (w := w) h11.len.1 h11.len.2 hl.1 hl.2 hT
    have e : ans2 divQ rBad [49] [49] (Lib.itoa (tQ (qn : Int)).num) (Lib.itoa ((tQ (qn : Int)).den : Int)) = divQ (((1 : Int) : Rat) / ((1 : Int) : Rat)) (tQ qn) := by
      have := ans2_ok (f := divQ) (u := rBad) h11.rb hy
      rw [h11.n, h11.d] at this
      exact this
    rw [e, t_div (by omega) (by omega), e2] at this
    exact this
  rw [tQ_v] at cM cA cC cS
  rw [tQ_v] at cM cC
  generalize hA1 : addQ (tQ pn) (sQ qn) = A at fA cA
  generalize hM1 : mulQ (tQ pn) (tQ qn) = B at fM cM
  generalize cmpQ (tQ pn) (tQ qn) = u at fC cC
  generalize cmpQ (tQ pn) (sQ qn) = v at fS cS
  clear hx hy hs hA1 hM1
  apply e_law04_RationalLimits
  unfold s_law04_RationalLimits
  refine Cl1 n_law04_sane (c_sane hT hM) fun w1 x1 => ?_
  have xx := x1
  refine Cl1 n_law04_pick (c1 _) fun w2 x2 => ?_
  replace xx := xx.tr x2
  refine Cl1 n_law04_pick (c2 _) fun w3 x3 => ?_
  replace xx := xx.tr x3
  refine Lp2.mk (fun s i W => ∃ j : Nat, j ≤ pn ∧ s = str (49 :: List.replicate j 48) ∧ i = .int .i64 j ∧ W = w3) (fun _ i _ => match i with | .int _ i' => pn - i'.toNat | _ => 0) ⟨0, by omega, rfl, rfl, rfl⟩ ?_
  rintro _ _ W1 ⟨j, hj, rfl, rfl, rfl⟩
  by_cases hjn : j < pn
  · refine Bn_ltT (by omega) (If_T ?_)
    refine Bn_cat (by simp; omega) (Bn_ad (by omega) (by omega) ?_)
    refine ⟨⟨j + 1, by omega, ?_, by simp, rfl⟩, ?_⟩
    · rw [List.replicate_succ']; rfl
    · show pn - ((j : Int) + 1).toNat < pn - (j : Int).toNat
      omega
  have ej : 49 :: List.replicate j 48 = Lib.itoa (ten (pn : Int)) := ten_str (by omega)
  refine Bn_ltF (by omega) (If_F ?_)
  refine Lp2.mk (fun s i W => ∃ j : Nat, j ≤ qn ∧ s = str (49 :: List.replicate j 48) ∧ i = .int .i64 j ∧ W = W1) (fun _ i _ => match i with | .int _ i' => qn - i'.toNat | _ => 0) ⟨0, by omega, rfl, rfl, rfl⟩ ?_
  rintro _ _ W2 ⟨l, hl, rfl, rfl, rfl⟩
  by_cases hln : l < qn
  · refine Bn_ltT (by omega) (If_T ?_)
    refine Bn_cat (by simp; omega) (Bn_ad (by omega) (by omega) ?_)
    refine ⟨⟨l + 1, by omega, ?_, by simp, rfl⟩, ?_⟩
    · rw [List.replicate_succ']; rfl
    · show qn - ((l : Int) + 1).toNat < qn - (l : Int).toNat
      omega
  have el : 49 :: List.replicate l 48 = Lib.itoa (ten (qn : Int)) := ten_str (by omega)
  refine Bn_ltF (by omega) (If_F ?_)
  have is1 := fun w : World => c_is (a := 49 :: List.replicate j 48) (b := [49]) (w := w)
  have is2 := fun w : World => c_is (a := 49 :: List.replicate l 48) (b := [49]) (w := w)
  rw [← ej] at cM cA cC cS
  rw [← el] at cM cC cD
  refine Cl1 n_law04_is (is1 _) fun w4 x4 => ?_
  replace xx := xx.tr x4
  refine alR fun g10 w5 x5 hg10 hl10 b10 => ?_
  have k10 : w.heap.size ≤ g10 := by have := xx.size; omega
  replace xx := xx.tr x5
  clear hg10 hl10
  refine stoR b10 fun w6 o6 b10 => ?_
  replace xx := o6.ext xx k10
  refine Cl1 n_law04_is (is2 _) fun w7 x7 => ?_
  replace b10 := b10.ext x7
  replace xx := xx.tr x7
  have z10 := b10.lt
  refine alR fun g11 w8 x8 hg11 hl11 b11 => ?_
  have k11 : w.heap.size ≤ g11 := by have := xx.size; omega
  have n10x11 : g10 ≠ g11 := by omega
  clear z10
  replace b10 := b10.ext x8
  replace xx := xx.tr x8
  clear hg11 hl11
  refine stoR b11 fun w9 o9 b11 => ?_
  replace b10 := blkOwn b10 n10x11 o9
  replace xx := o9.ext xx k11
  refine ldR b10 (ldR b11 ?_)
  refine Cl2 n_rational_Mul (cM _ (hT.ext xx)) fun w10 x10 => ?_
  replace b10 := b10.ext x10
  replace b11 := b11.ext x10
  replace xx := xx.tr x10
  have z10 := b10.lt
  have z11 := b11.lt
  refine alR fun g12 w11 x11 hg12 hl12 b12 => ?_
  have k12 : w.heap.size ≤ g12 := by have := xx.size; omega
  have n10x12 : g10 ≠ g12 := by omega
  clear z10
  have n11x12 : g11 ≠ g12 := by omega
  clear z11
  replace b10 := b10.ext x11
  replace b11 := b11.ext x11
  replace xx := xx.tr x11
  clear hg12 hl12
  refine stoR b12 fun w12 o12 b12 => ?_
  replace b10 := blkOwn b10 n10x12 o12
  replace b11 := blkOwn b11 n11x12 o12
  replace xx := o12.ext xx k12
  refine Jn2.mk ?_
  intro K hK
  have main : ∀ (g14 : Nat) (W : World), Ext w W → Blk W g10 tR [str (49 :: List.replicate j 48), str [49]] → Blk W g12 tR [str B.1, str B.2.1] → Blk W g11 tR [str (49 :: List.replicate l 48), str [49]] → Blk W g14 tR [str (Lib.itoa (sQ qn).num), str (Lib.itoa ((sQ qn).den : Int))] → K (pt g14) (.int .i64 0) W := by
    intro g14 W xx b10 b12 b11 b14
    have z10 := b10.lt
    refine hK _ _ W ?_
    clear hK z10
    refine ldR b10 (ldR b14 ?_)
    refine Cl2 n_rational_Add (cA _ (hT.ext xx)) fun w71 x71 => ?_
    replace b10 := b10.ext x71
    replace b12 := b12.ext x71
    replace b11 := b11.ext x71
    replace b14 := b14.ext x71
    replace xx := xx.tr x71
    have y10 := b10.lt
    have y11 := b11.lt
    have y12 := b12.lt
    have y14 := b14.lt
    refine alR fun g16 w72 x72 hg16 hl16 b16 => ?_
    have k16 : w.heap.size ≤ g16 := by have := xx.size; omega
    replace b10 := b10.ext x72
    replace b12 := b12.ext x72
    replace b11 := b11.ext x72
    replace b14 := b14.ext x72
    replace xx := xx.tr x72
    refine stoR b16 fun w73 o73 b16 => ?_
    replace b10 := blkOwn b10 (show g10 ≠ g16 by omega) o73
    replace b12 := blkOwn b12 (show g12 ≠ g16 by omega) o73
    replace b11 := blkOwn b11 (show g11 ≠ g16 by omega) o73
    replace b14 := blkOwn b14 (show g14 ≠ g16 by omega) o73
    replace xx := o73.ext xx k16
    have e1 : B.2.2 = 0 := fM.1 hF
    have e2 : A.2.2 = 0 := fA.1 hF
    refine Bn_ad (by omega) (by omega) (Bn_ad (by omega) (by omega) (Bn_leT (by omega) (Bn_eqT e1 ?_)))
    refine Bn_neBF hB rfl ?_
    refine Gd_F (Gd_F (Bn_neF e1 (Gd_F (Gd_FT (Gd_FT (Gd_FT (Gd_U (Gd_U (Gd_U (Gd_FT (Gd_F (Pick_F (Pick_F ?_)))))))))))))
    refine Gd_F (Gd_F (Bn_neF rfl (Pick_F ?_)))
    refine Gd_F (Gd_F (Bn_eqT e2 (Gd_F (Gd_F (Bn_neBF hB rfl (Pick_F (If_F ?_)))))))
    refine Jn1.mk ?_
    intro K1 hK1
    have t1 : K1 (.int .i64 u) w73 := by
      refine hK1 _ _ ?_
      refine Jn1.mk ?_
      intro K2 hK2
      have t2 : K2 (.int .i64 v) w73 := by
        refine hK2 _ _ ?_
        refine Gd_T (ldR b10 (Gd_T (ldR b11 (Gd_T ?_))))
        refine Cl1 n_rational_Compare (cC _ (hT.ext xx)) fun w74 x74 => ?_
        replace b10 := b10.ext x74
        replace b12 := b12.ext x74
        replace b11 := b11.ext x74
        replace b14 := b14.ext x74
        replace xx := xx.tr x74
        refine Gd_T (Gd_T (Bn_eqT rfl (Pick_T ?_)))
        refine Gd_T (ldR b10 (Gd_T (ldR b14 (Gd_T ?_))))
        refine Cl1 n_rational_Compare (cS _ (hT.ext xx)) fun w75 x75 => ?_
        replace b10 := b10.ext x75
        replace b12 := b12.ext x75
        replace b11 := b11.ext x75
        replace b14 := b14.ext x75
        replace xx := xx.tr x75
        refine Gd_T (Gd_T (Bn_eqT rfl (Pick_T ?_)))
        exact Ret.mk ⟨xx, rfl⟩
      by_cases h1 : (pn : Int) = 0
      · refine Bn_eqT h1 (Gd_T (Gd_T ?_))
        by_cases h2 : (qn : Int) = 0
        · rw [if_pos ⟨h1, h2⟩] at fS
          rw [fS] at t2
          exact Bn_eqT h2 (Pick_T (If_T t2))
        · rw [if_neg (fun h => h2 h.2)] at fS
          rw [fS] at t2
          exact Bn_eqF (by omega) (Pick_T (If_F t2))
      · rw [if_neg (fun h => h1 h.1)] at fS
        rw [fS] at t2
        exact Bn_eqF (by omega) (Gd_FT (Gd_FT (Pick_F (If_F t2))))
    by_cases h1 : (pn : Int) < qn
    · rw [if_pos h1] at fC
      rw [fC] at t1
      exact Bn_ltT h1 (If_T t1)
    · rw [if_neg h1] at fC
      refine Bn_ltF (by omega) (If_F ?_)
      by_cases h2 : (qn : Int) < pn
      · rw [if_pos h2] at fC
        rw [fC] at t1
        exact Bn_gtT h2 (If_T t1)
      · rw [if_neg h2] at fC
        rw [fC] at t1
        exact Bn_gtF (by omega) (If_F t1)
  refine dR2x0 (w := w12.drew) b11 ?_
  refine ⟨?_, ?_⟩
  · refine Cl1 n_law04_is c_is fun Wu0a yu0a => ?_
    replace yu0a : Ext w12 Wu0a := (Ext.refl w12).dr.tr yu0a
    replace b10 := b10.ext yu0a
    replace b11 := b11.ext yu0a
    replace b12 := b12.ext yu0a
    replace xx := xx.tr yu0a
    refine kR2x0 b11 ?_
    refine ⟨?_, ?_⟩
    · refine Cl1 n_rational_Div (cD (hT.ext xx)) fun Wu0b yu0b => ?_
      replace b10 := b10.ext yu0b
      replace b11 := b11.ext yu0b
      replace b12 := b12.ext yu0b
      replace xx := xx.tr yu0b
      refine ExP2 ?_
      have q10 := b10.lt
      have q11 := b11.lt
      have q12 := b12.lt
      refine alR fun g14 Wu1b yu1b hg14 hl14 b14 => ?_
      have k14 : w.heap.size ≤ g14 := by have := xx.size; omega
      replace b10 := b10.ext yu1b
      replace b11 := b11.ext yu1b
      replace b12 := b12.ext yu1b
      replace xx := xx.tr yu1b
      refine kR2x0 b11 ?_
      refine stoR b14 fun wz oz b14 => ?_
      exact main g14 wz (oz.ext xx k14) (blkOwn b10 (show g10 ≠ g14 by omega) oz) (blkOwn b12 (show g12 ≠ g14 by omega) oz) (blkOwn b11 (show g11 ≠ g14 by omega) oz) b14
    · have q10 := b10.lt
      have q11 := b11.lt
      have q12 := b12.lt
      refine alR fun g14 Wu0b yu0b hg14 hl14 b14 => ?_
      have k14 : w.heap.size ≤ g14 := by have := xx.size; omega
      replace b10 := b10.ext yu0b
      replace b11 := b11.ext yu0b
      replace b12 := b12.ext yu0b
      replace xx := xx.tr yu0b
      refine kR2x0 b11 ?_
      refine Cl1 n_rational_Div (cD (hT.ext xx)) fun Wu1b yu1b => ?_
      replace b10 := b10.ext yu1b
      replace b11 := b11.ext yu1b
      replace b12 := b12.ext yu1b
      replace b14 := b14.ext yu1b
      replace xx := xx.tr yu1b
      refine ExP2 ?_
      refine stoR b14 fun wz oz b14 => ?_
      exact main g14 wz (oz.ext xx k14) (blkOwn b10 (show g10 ≠ g14 by omega) oz) (blkOwn b12 (show g12 ≠ g14 by omega) oz) (blkOwn b11 (show g11 ≠ g14 by omega) oz) b14
  · have q10 := b10.lt
    have q11 := b11.lt
    have q12 := b12.lt
    refine alR fun g14 Wu0a yu0a hg14 hl14 b14 => ?_
    replace yu0a : Ext w12 Wu0a := (Ext.refl w12).dr.tr yu0a
    replace hg14 : w12.heap.size ≤ g14 := hg14
    have k14 : w.heap.size ≤ g14 := by have := xx.size; omega
    replace b10 := b10.ext yu0a
    replace b11 := b11.ext yu0a
    replace b12 := b12.ext yu0a
    replace xx := xx.tr yu0a
    refine kR2x0 b11 ?_
    refine Cl1 n_law04_is c_is fun Wu1a yu1a => ?_
    replace b10 := b10.ext yu1a
    replace b11 := b11.ext yu1a
    replace b12 := b12.ext yu1a
    replace b14 := b14.ext yu1a
    replace xx := xx.tr yu1a
    refine kR2x0 b11 ?_
    refine Cl1 n_rational_Div (cD (hT.ext xx)) fun Wu2a yu2a => ?_
    replace b10 := b10.ext yu2a
    replace b11 := b11.ext yu2a
    replace b12 := b12.ext yu2a
    replace b14 := b14.ext yu2a
    replace xx := xx.tr yu2a
    refine ExP2 ?_
    refine stoR b14 fun wz oz b14 => ?_
    exact main g14 wz (oz.ext xx k14) (blkOwn b10 (show g10 ≠ g14 by omega) oz) (blkOwn b12 (show g12 ≠ g14 by omega) oz) (blkOwn b11 (show g11 ≠ g14 by omega) oz) b14
set_option maxHeartbeats 2000000 in
theorem lim_big {n m : Int} {w : World} (rn : R64 n) (rm : R64 m) (hF : ¬ pickZ n 200 + pickZ m 200 + 1 ≤ 200) (hT : Tab w) (hM : MaxV w) :
    Calls Tryz.prog 5 #[.int .i64 n, .int .i64 m] w (Ret fun r w' => Ext w w' ∧ r = .bool true) := by
  have hB : Tryz.prog.underlying 4 = some .bool := Tryz.underlying4
  have c1 := fun w : World => c_pick (w := w) rn.1 rn.2 (n := 200) (by decide)
  have c2 := fun w : World => c_pick (w := w) rm.1 rm.2 (n := 200) (by decide)
  have d1 := pickZ_bd (c := n) (n := 200) (by decide)
  have d2 := pickZ_bd (c := m) (n := 200) (by decide)
  generalize pickZ n 200 = p at c1 d1 hF
  generalize pickZ m 200 = q at c2 d2 hF
  obtain ⟨pn, rfl⟩ : ∃ k : Nat, p = k := ⟨p.toNat, by omega⟩
  obtain ⟨qn, rfl⟩ : ∃ k : Nat, q = k := ⟨q.toNat, by omega⟩
  have fM := t_mul (p := pn) (q := qn) (by omega) (by omega)
  have fA := t_add (p := pn) (q := qn) (by omega) (by omega) (by omega)
  have fC := t_cmp (p := pn) (q := qn) (by omega) (by omega)
  have fS := t_cmps (p := pn) (q := qn) (by omega) (by omega) (by omega)
  have hx := tQ_rb (k := pn) (by omega) (by omega)
  have hy := tQ_rb (k := qn) (by omega) (by omega)
  have hs := sQ_rb (k := qn) (by omega) (by omega)
  have cM := fun (w : World) (hT : Tab w) => k_mul (w := w) hx hy hT
  have cA := fun (w : World) (hT : Tab w) => k_add (w := w) hx hs hT
  have cC := fun (w : World) (hT : Tab w) => k_cmpq (w := w) hx hy hT
  have cS := fun (w : World) (hT : Tab w) => k_cmpq (w := w) hx hs hT
  have cD : ∀ {w : World}, Tab w → Calls Tryz.prog 26 #[.agg #[str [49], str [49]], .agg #[str (Lib.itoa (ten qn)), str [49]]] w (Ret fun r w' => Ext w w' ∧ r = .tuple #[fq (sQ qn), .int .i64 0]) := by
    intro w hT
    have hl := rb_len hy
    have e2 : Lib.itoa (((tQ (qn : Int)).den : Nat) : Int) = [49] := l1
    have := c_qDiv (w := w) h11.len.1 h11.len.2 hl.1 hl.2 hT
    have e : ans2 divQ rBad [49] [49] (Lib.itoa (tQ (qn : Int)).num) (Lib.itoa ((tQ (qn : Int)).den : Int)) = divQ (((1 : Int) : Rat) / ((1 : Int) : Rat)) (tQ qn) := by
      have := ans2_ok (f := divQ) (u := rBad) h11.rb hy
      rw [h11.n, h11.d] at this
      exact this
    rw [e, t_div (by omega) (by omega), e2] at this
    exact this
  rw [tQ_v] at cM cA cC cS
  rw [tQ_v] at cM cC
  generalize hA1 : addQ (tQ pn) (sQ qn) = A at fA cA
  generalize hM1 : mulQ (tQ pn) (tQ qn) = B at fM cM
  generalize cmpQ (tQ pn) (tQ qn) = u at fC cC
  generalize cmpQ (tQ pn) (sQ qn) = v at fS cS
  clear hx hy hs hA1 hM1
  apply e_law04_RationalLimits
  unfold s_law04_RationalLimits
  refine Cl1 n_law04_sane (c_sane hT hM) fun w1 x1 => ?_
  have xx := x1
  refine Cl1 n_law04_pick (c1 _) fun w2 x2 => ?_
  replace xx := xx.tr x2
  refine Cl1 n_law04_pick (c2 _) fun w3 x3 => ?_
  replace xx := xx.tr x3
  refine Lp2.mk (fun s i W => ∃ j : Nat, j ≤ pn ∧ s = str (49 :: List.replicate j 48) ∧ i = .int .i64 j ∧ W = w3) (fun _ i _ => match i with | .int _ i' => pn - i'.toNat | _ => 0) ⟨0, by omega, rfl, rfl, rfl⟩ ?_
  rintro _ _ W1 ⟨j, hj, rfl, rfl, rfl⟩
  by_cases hjn : j < pn
  · refine Bn_ltT (by omega) (If_T ?_)
    refine Bn_cat (by simp; omega) (Bn_ad (by omega) (by omega) ?_)
    refine ⟨⟨j + 1, by omega, ?_, by simp, rfl⟩, ?_⟩
    · rw [List.replicate_succ']; rfl
    · show pn - ((j : Int) + 1).toNat < pn - (j : Int).toNat
      omega
  have ej : 49 :: List.replicate j 48 = Lib.itoa (ten (pn : Int)) := ten_str (by omega)
  refine Bn_ltF (by omega) (If_F ?_)
  refine Lp2.mk (fun s i W => ∃ j : Nat, j ≤ qn ∧ s = str (49 :: List.replicate j 48) ∧ i = .int .i64 j ∧ W = W1) (fun _ i _ => match i with | .int _ i' => qn - i'.toNat | _ => 0) ⟨0, by omega, rfl, rfl, rfl⟩ ?_
  rintro _ _ W2 ⟨l, hl, rfl, rfl, rfl⟩
  by_cases hln : l < qn
  · refine Bn_ltT (by omega) (If_T ?_)
    refine Bn_cat (by simp; omega) (Bn_ad (by omega) (by omega) ?_)
    refine ⟨⟨l + 1, by omega, ?_, by simp, rfl⟩, ?_⟩
    · rw [List.replicate_succ']; rfl
    · show qn - ((l : Int) + 1).toNat < qn - (l : Int).toNat
      omega
  have el : 49 :: List.replicate l 48 = Lib.itoa (ten (qn : Int)) := ten_str (by omega)
  refine Bn_ltF (by omega) (If_F ?_)
  have is1 := fun w : World => c_is (a := 49 :: List.replicate j 48) (b := [49]) (w := w)
  have is2 := fun w : World => c_is (a := 49 :: List.replicate l 48) (b := [49]) (w := w)
  rw [← ej] at cM cA cC cS
  rw [← el] at cM cC cD
  refine Cl1 n_law04_is (is1 _) fun w4 x4 => ?_
  replace xx := xx.tr x4
  refine alR fun g10 w5 x5 hg10 hl10 b10 => ?_
  have k10 : w.heap.size ≤ g10 := by have := xx.size; omega
  replace xx := xx.tr x5
  clear hg10 hl10
  refine stoR b10 fun w6 o6 b10 => ?_
  replace xx := o6.ext xx k10
  refine Cl1 n_law04_is (is2 _) fun w7 x7 => ?_
  replace b10 := b10.ext x7
  replace xx := xx.tr x7
  have z10 := b10.lt
  refine alR fun g11 w8 x8 hg11 hl11 b11 => ?_
  have k11 : w.heap.size ≤ g11 := by have := xx.size; omega
  have n10x11 : g10 ≠ g11 := by omega
  clear z10
  replace b10 := b10.ext x8
  replace xx := xx.tr x8
  clear hg11 hl11
  refine stoR b11 fun w9 o9 b11 => ?_
  replace b10 := blkOwn b10 n10x11 o9
  replace xx := o9.ext xx k11
  refine ldR b10 (ldR b11 ?_)
  refine Cl2 n_rational_Mul (cM _ (hT.ext xx)) fun w10 x10 => ?_
  replace b10 := b10.ext x10
  replace b11 := b11.ext x10
  replace xx := xx.tr x10
  have z10 := b10.lt
  have z11 := b11.lt
  refine alR fun g12 w11 x11 hg12 hl12 b12 => ?_
  have k12 : w.heap.size ≤ g12 := by have := xx.size; omega
  have n10x12 : g10 ≠ g12 := by omega
  clear z10
  have n11x12 : g11 ≠ g12 := by omega
  clear z11
  replace b10 := b10.ext x11
  replace b11 := b11.ext x11
  replace xx := xx.tr x11
  clear hg12 hl12
  refine stoR b12 fun w12 o12 b12 => ?_
  replace b10 := blkOwn b10 n10x12 o12
  replace b11 := blkOwn b11 n11x12 o12
  replace xx := o12.ext xx k12
  refine Jn2.mk ?_
  intro K hK
  have main : ∀ (g14 : Nat) (W : World), Ext w W → Blk W g10 tR [str (49 :: List.replicate j 48), str [49]] → Blk W g12 tR [str B.1, str B.2.1] → Blk W g11 tR [str (49 :: List.replicate l 48), str [49]] → Blk W g14 tR [str (Lib.itoa (sQ qn).num), str (Lib.itoa ((sQ qn).den : Int))] → K (pt g14) (.int .i64 0) W := by
    intro g14 W xx b10 b12 b11 b14
    have z10 := b10.lt
    refine hK _ _ W ?_
    clear hK z10
    refine ldR b10 (ldR b14 ?_)
    refine Cl2 n_rational_Add (cA _ (hT.ext xx)) fun w71 x71 => ?_
    replace b10 := b10.ext x71
    replace b12 := b12.ext x71
    replace b11 := b11.ext x71
    replace b14 := b14.ext x71
    replace xx := xx.tr x71
    have y10 := b10.lt
    have y11 := b11.lt
    have y12 := b12.lt
    have y14 := b14.lt
    refine alR fun g16 w72 x72 hg16 hl16 b16 => ?_
    have k16 : w.heap.size ≤ g16 := by have := xx.size; omega
    replace b10 := b10.ext x72
    replace b12 := b12.ext x72
    replace b11 := b11.ext x72
    replace b14 := b14.ext x72
    replace xx := xx.tr x72
    refine stoR b16 fun w73 o73 b16 => ?_
    replace b10 := blkOwn b10 (show g10 ≠ g16 by omega) o73
    replace b12 := blkOwn b12 (show g12 ≠ g16 by omega) o73
    replace b11 := blkOwn b11 (show g11 ≠ g16 by omega) o73
    replace b14 := blkOwn b14 (show g14 ≠ g16 by omega) o73
    replace xx := o73.ext xx k16
    have e0 : B = rBad := fM.2 hF
    have e1 : B.2.2 = 40 := by rw [e0]; rfl
    have e3 : B.1 = [] := by rw [e0]; rfl
    have e4 : B.2.1 = [] := by rw [e0]; rfl
    have e2 : A.2.2 = 40 := fA.2 hF
    refine Bn_ad (by omega) (by omega) (Bn_ad (by omega) (by omega) (Bn_leF (by omega) (Bn_eqF (by omega) ?_)))
    refine Bn_neBF hB rfl ?_
    refine Gd_F (Gd_F (Bn_neT (by omega) (Gd_F (Gd_T (Gd_T (Bn_neF e1 (Gd_T (Gd_F (ldR b12 (Gd_F (bdR0 (Gd_F ?_))))))))))))
    refine qNeF (qSame e3 e4) (Gd_T (Pick_F (Gd_F (Pick_T (Pick_F ?_)))))
    refine Gd_F (Gd_F (Bn_neF rfl (Pick_F ?_)))
    refine Gd_F (Gd_F (Bn_eqF (by omega) (Gd_F (Gd_F (Bn_neBF hB rfl (Pick_F (If_F ?_)))))))
    refine Jn1.mk ?_
    intro K1 hK1
    have t1 : K1 (.int .i64 u) w73 := by
      refine hK1 _ _ ?_
      refine Jn1.mk ?_
      intro K2 hK2
      have t2 : K2 (.int .i64 v) w73 := by
        refine hK2 _ _ ?_
        refine Gd_T (ldR b10 (Gd_T (ldR b11 (Gd_T ?_))))
        refine Cl1 n_rational_Compare (cC _ (hT.ext xx)) fun w74 x74 => ?_
        replace b10 := b10.ext x74
        replace b12 := b12.ext x74
        replace b11 := b11.ext x74
        replace b14 := b14.ext x74
        replace xx := xx.tr x74
        refine Gd_T (Gd_T (Bn_eqT rfl (Pick_T ?_)))
        refine Gd_T (ldR b10 (Gd_T (ldR b14 (Gd_T ?_))))
        refine Cl1 n_rational_Compare (cS _ (hT.ext xx)) fun w75 x75 => ?_
        replace b10 := b10.ext x75
        replace b12 := b12.ext x75
        replace b11 := b11.ext x75
        replace b14 := b14.ext x75
        replace xx := xx.tr x75
        refine Gd_T (Gd_T (Bn_eqT rfl (Pick_T ?_)))
        exact Ret.mk ⟨xx, rfl⟩
      by_cases h1 : (pn : Int) = 0
      · refine Bn_eqT h1 (Gd_T (Gd_T ?_))
        by_cases h2 : (qn : Int) = 0
        · rw [if_pos ⟨h1, h2⟩] at fS
          rw [fS] at t2
          exact Bn_eqT h2 (Pick_T (If_T t2))
        · rw [if_neg (fun h => h2 h.2)] at fS
          rw [fS] at t2
          exact Bn_eqF (by omega) (Pick_T (If_F t2))
      · rw [if_neg (fun h => h1 h.1)] at fS
        rw [fS] at t2
        exact Bn_eqF (by omega) (Gd_FT (Gd_FT (Pick_F (If_F t2))))
    by_cases h1 : (pn : Int) < qn
    · rw [if_pos h1] at fC
      rw [fC] at t1
      exact Bn_ltT h1 (If_T t1)
    · rw [if_neg h1] at fC
      refine Bn_ltF (by omega) (If_F ?_)
      by_cases h2 : (qn : Int) < pn
      · rw [if_pos h2] at fC
        rw [fC] at t1
        exact Bn_gtT h2 (If_T t1)
      · rw [if_neg h2] at fC
        rw [fC] at t1
        exact Bn_gtF (by omega) (If_F t1)
  refine dR2x0 (w := w12.drew) b11 ?_
  refine ⟨?_, ?_⟩
  · refine Cl1 n_law04_is c_is fun Wu0a yu0a => ?_
    replace yu0a : Ext w12 Wu0a := (Ext.refl w12).dr.tr yu0a
    replace b10 := b10.ext yu0a
    replace b11 := b11.ext yu0a
    replace b12 := b12.ext yu0a
    replace xx := xx.tr yu0a
    refine kR2x0 b11 ?_
    refine ⟨?_, ?_⟩
    · refine Cl1 n_rational_Div (cD (hT.ext xx)) fun Wu0b yu0b => ?_
      replace b10 := b10.ext yu0b
      replace b11 := b11.ext yu0b
      replace b12 := b12.ext yu0b
      replace xx := xx.tr yu0b
      refine ExP2 ?_
      have q10 := b10.lt
      have q11 := b11.lt
      have q12 := b12.lt
      refine alR fun g14 Wu1b yu1b hg14 hl14 b14 => ?_
      have k14 : w.heap.size ≤ g14 := by have := xx.size; omega
      replace b10 := b10.ext yu1b
      replace b11 := b11.ext yu1b
      replace b12 := b12.ext yu1b
      replace xx := xx.tr yu1b
      refine kR2x0 b11 ?_
      refine stoR b14 fun wz oz b14 => ?_
      exact main g14 wz (oz.ext xx k14) (blkOwn b10 (show g10 ≠ g14 by omega) oz) (blkOwn b12 (show g12 ≠ g14 by omega) oz) (blkOwn b11 (show g11 ≠ g14 by omega) oz) b14
    · have q10 := b10.lt
      have q11 := b11.lt
      have q12 := b12.lt
      refine alR fun g14 Wu0b yu0b hg14 hl14 b14 => ?_
      have k14 : w.heap.size ≤ g14 := by have := xx.size; omega
      replace b10 := b10.ext yu0b
      replace b11 := b11.ext yu0b
      replace b12 := b12.ext yu0b
      replace xx := xx.tr yu0b
      refine kR2x0 b11 ?_
      refine Cl1 n_rational_Div (cD (hT.ext xx)) fun Wu1b yu1b => ?_
      replace b10 := b10.ext yu1b
      replace b11 := b11.ext yu1b
      replace b12 := b12.ext yu1b
      replace b14 := b14.ext yu1b
      replace xx := xx.tr yu1b
      refine ExP2 ?_
      refine stoR b14 fun wz oz b14 => ?_
      exact main g14 wz (oz.ext xx k14) (blkOwn b10 (show g10 ≠ g14 by omega) oz) (blkOwn b12 (show g12 ≠ g14 by omega) oz) (blkOwn b11 (show g11 ≠ g14 by omega) oz) b14
  · have q10 := b10.lt
    have q11 := b11.lt
    have q12 := b12.lt
    refine alR fun g14 Wu0a yu0a hg14 hl14 b14 => ?_
    replace yu0a : Ext w12 Wu0a := (Ext.refl w12).dr.tr yu0a
    replace hg14 : w12.heap.size ≤ g14 := hg14
    have k14 : w.heap.size ≤ g14 := by have := xx.size; omega
    replace b10 := b10.ext yu0a
    replace b11 := b11.ext yu0a
    replace b12 := b12.ext yu0a
    replace xx := xx.tr yu0a
    refine kR2x0 b11 ?_
    refine Cl1 n_law04_is c_is fun Wu1a yu1a => ?_
    replace b10 := b10.ext yu1a
    replace b11 := b11.ext yu1a
    replace b12 := b12.ext yu1a
    replace b14 := b14.ext yu1a
    replace xx := xx.tr yu1a
    refine kR2x0 b11 ?_
    refine Cl1 n_rational_Div (cD (hT.ext xx)) fun Wu2a yu2a => ?_
    replace b10 := b10.ext yu2a
    replace b11 := b11.ext yu2a
    replace b12 := b12.ext yu2a
    replace b14 := b14.ext yu2a
    replace xx := xx.tr yu2a
    refine ExP2 ?_
    refine stoR b14 fun wz oz b14 => ?_
    exact main g14 wz (oz.ext xx k14) (blkOwn b10 (show g10 ≠ g14 by omega) oz) (blkOwn b12 (show g12 ≠ g14 by omega) oz) (blkOwn b11 (show g11 ≠ g14 by omega) oz) b14
theorem i_Limits {n m : Int} {w : World} (rn : R64 n) (rm : R64 m) (hT : Tab w) (hM : MaxV w) : Calls Tryz.prog 5 #[.int .i64 n, .int .i64 m] w (Ret fun r w' => Ext w w' ∧ r = .bool true) := by
  by_cases h : pickZ n 200 + pickZ m 200 + 1 ≤ 200
  · exact lim_fits rn rm h hT hM
  · exact lim_big rn rm h hT hM
end Go.Proofs.YthpcmmfijelbaaaGreatDoor
