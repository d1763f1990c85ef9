/-
  Contracts of functions of the program, and plain lemmas on numbers and strings. By an AI agent.
-/
import Derived.Test.YthpcmmfijelbaaaGreatDoorRefZ
import Derived.Test.YthpcmmfijelbaaaGreatDoorStrY
set_option linter.unusedSimpArgs false
set_option linter.unusedVariables false
set_option linter.unusedSectionVars false
namespace Go.Proofs.YthpcmmfijelbaaaGreatDoor
open Go Go.Eng Go.Proofs Go.Num Go.RowKit
set_option maxRecDepth 100000
set_option linter.unusedVariables false
section
variable {s t : List UInt8} {w : World} (hs : s.length ≤ 1000000) (ht : t.length ≤ 1000000) (h : (validB s && validB t) = false)
include hs ht h
theorem c_rAdd_bad : Calls Tryz.prog 64 #[str s, str t] w (Ret fun r w' => Ext w w' ∧ r = .tuple #[str [], .int .i64 30]) := by
  have c1 := c_rValid (w := w) hs
  cases h1 : validB s with
  | false =>
    rw [h1] at c1
    apply e_ref03_Add
    unfold s_ref03_Add
    refine Cl1 n_ref03_Valid c1 fun w1 x1 => ?_
    ((with_reducible refine Un_F ?_); (with_reducible refine Gd_TF ?_); (with_reducible refine Gd_TF ?_); (with_reducible refine Gd_TF ?_); (with_reducible refine Pick_T ?_); (with_reducible refine If_T ?_))
    exact Ret.mk ⟨x1, rfl⟩
  | true =>
    have h2 : validB t = false := by rw [h1] at h; simpa using h
    rw [h1] at c1
    have c2 := fun w => c_rValid (w := w) ht
    rw [h2] at c2
    apply e_ref03_Add
    unfold s_ref03_Add
    refine Cl1 n_ref03_Valid c1 fun w1 x1 => ?_
    ((with_reducible refine Un_T ?_); (with_reducible refine Gd_F ?_); (with_reducible refine Gd_F ?_))
    refine Cl1 n_ref03_Valid (c2 w1) fun w2 x2 => ?_
    ((with_reducible refine Gd_F ?_); (with_reducible refine Un_F ?_); (with_reducible refine Pick_F ?_); (with_reducible refine If_T ?_))
    exact Ret.mk ⟨x1.tr x2, rfl⟩
theorem c_rSub_bad : Calls Tryz.prog 65 #[str s, str t] w (Ret fun r w' => Ext w w' ∧ r = .tuple #[str [], .int .i64 30]) := by
  have c1 := c_rValid (w := w) hs
  cases h1 : validB s with
  | false =>
    rw [h1] at c1
    apply e_ref03_Sub
    unfold s_ref03_Sub
    refine Cl1 n_ref03_Valid c1 fun w1 x1 => ?_
    ((with_reducible refine Un_F ?_); (with_reducible refine Gd_TF ?_); (with_reducible refine Gd_TF ?_); (with_reducible refine Gd_TF ?_); (with_reducible refine Pick_T ?_); (with_reducible refine If_T ?_))
    exact Ret.mk ⟨x1, rfl⟩
  | true =>
    have h2 : validB t = false := by rw [h1] at h; simpa using h
    rw [h1] at c1
    have c2 := fun w => c_rValid (w := w) ht
    rw [h2] at c2
    apply e_ref03_Sub
    unfold s_ref03_Sub
    refine Cl1 n_ref03_Valid c1 fun w1 x1 => ?_
    ((with_reducible refine Un_T ?_); (with_reducible refine Gd_F ?_); (with_reducible refine Gd_F ?_))
    refine Cl1 n_ref03_Valid (c2 w1) fun w2 x2 => ?_
    ((with_reducible refine Gd_F ?_); (with_reducible refine Un_F ?_); (with_reducible refine Pick_F ?_); (with_reducible refine If_T ?_))
    exact Ret.mk ⟨x1.tr x2, rfl⟩
theorem c_rMul_bad : Calls Tryz.prog 21 #[str s, str t] w (Ret fun r w' => Ext w w' ∧ r = .tuple #[str [], .int .i64 30]) := by
  have c1 := c_rValid (w := w) hs
  cases h1 : validB s with
  | false =>
    rw [h1] at c1
    apply e_ref03_Mul
    unfold s_ref03_Mul
    refine Cl1 n_ref03_Valid c1 fun w1 x1 => ?_
    ((with_reducible refine Un_F ?_); (with_reducible refine Gd_TF ?_); (with_reducible refine Gd_TF ?_); (with_reducible refine Gd_TF ?_); (with_reducible refine Pick_T ?_); (with_reducible refine If_T ?_))
    exact Ret.mk ⟨x1, rfl⟩
  | true =>
    have h2 : validB t = false := by rw [h1] at h; simpa using h
    rw [h1] at c1
    have c2 := fun w => c_rValid (w := w) ht
    rw [h2] at c2
    apply e_ref03_Mul
    unfold s_ref03_Mul
    refine Cl1 n_ref03_Valid c1 fun w1 x1 => ?_
    ((with_reducible refine Un_T ?_); (with_reducible refine Gd_F ?_); (with_reducible refine Gd_F ?_))
    refine Cl1 n_ref03_Valid (c2 w1) fun w2 x2 => ?_
    ((with_reducible refine Gd_F ?_); (with_reducible refine Un_F ?_); (with_reducible refine Pick_F ?_); (with_reducible refine If_T ?_))
    exact Ret.mk ⟨x1.tr x2, rfl⟩
theorem c_rGcd_bad : Calls Tryz.prog 71 #[str s, str t] w (Ret fun r w' => Ext w w' ∧ r = .tuple #[str [], .int .i64 30]) := by
  have c1 := c_rValid (w := w) hs
  cases h1 : validB s with
  | false =>
    rw [h1] at c1
    apply e_ref03_Gcd
    unfold s_ref03_Gcd
    refine Cl1 n_ref03_Valid c1 fun w1 x1 => ?_
    ((with_reducible refine Un_F ?_); (with_reducible refine Gd_TF ?_); (with_reducible refine Gd_TF ?_); (with_reducible refine Gd_TF ?_); (with_reducible refine Pick_T ?_); (with_reducible refine If_T ?_))
    exact Ret.mk ⟨x1, rfl⟩
  | true =>
    have h2 : validB t = false := by rw [h1] at h; simpa using h
    rw [h1] at c1
    have c2 := fun w => c_rValid (w := w) ht
    rw [h2] at c2
    apply e_ref03_Gcd
    unfold s_ref03_Gcd
    refine Cl1 n_ref03_Valid c1 fun w1 x1 => ?_
    ((with_reducible refine Un_T ?_); (with_reducible refine Gd_F ?_); (with_reducible refine Gd_F ?_))
    refine Cl1 n_ref03_Valid (c2 w1) fun w2 x2 => ?_
    ((with_reducible refine Gd_F ?_); (with_reducible refine Un_F ?_); (with_reducible refine Pick_F ?_); (with_reducible refine If_T ?_))
    exact Ret.mk ⟨x1.tr x2, rfl⟩
theorem c_rDiv_bad : Calls Tryz.prog 66 #[str s, str t] w (Ret fun r w' => Ext w w' ∧ r = .tuple #[str [], str [], .int .i64 30]) := by
  have c1 := c_rValid (w := w) hs
  cases h1 : validB s with
  | false =>
    rw [h1] at c1
    apply e_ref03_Div
    unfold s_ref03_Div
    refine Cl1 n_ref03_Valid c1 fun w1 x1 => ?_
    ((with_reducible refine Un_F ?_); (with_reducible refine Gd_TF ?_); (with_reducible refine Gd_TF ?_); (with_reducible refine Gd_TF ?_); (with_reducible refine Pick_T ?_); (with_reducible refine Gd_TF ?_); (with_reducible refine Gd_TF ?_); (with_reducible refine Pick_T ?_); (with_reducible refine If_T ?_))
    exact Ret.mk ⟨x1, rfl⟩
  | true =>
    have h2 : validB t = false := by rw [h1] at h; simpa using h
    rw [h1] at c1
    have c2 := fun w => c_rValid (w := w) ht
    rw [h2] at c2
    apply e_ref03_Div
    unfold s_ref03_Div
    refine Cl1 n_ref03_Valid c1 fun w1 x1 => ?_
    ((with_reducible refine Un_T ?_); (with_reducible refine Gd_F ?_); (with_reducible refine Gd_F ?_))
    refine Cl1 n_ref03_Valid (c2 w1) fun w2 x2 => ?_
    ((with_reducible refine Gd_F ?_); (with_reducible refine Un_F ?_); (with_reducible refine Pick_F ?_); (with_reducible refine Gd_TF ?_); (with_reducible refine Gd_TF ?_); (with_reducible refine Pick_T ?_); (with_reducible refine If_T ?_))
    exact Ret.mk ⟨x1.tr x2, rfl⟩
theorem c_rCompare_bad : Calls Tryz.prog 67 #[str s, str t] w (Ret fun r w' => Ext w w' ∧ r = .int .i64 0) := by
  have c1 := c_rValid (w := w) hs
  cases h1 : validB s with
  | false =>
    rw [h1] at c1
    apply e_ref03_Compare
    unfold s_ref03_Compare
    refine Cl1 n_ref03_Valid c1 fun w1 x1 => ?_
    ((with_reducible refine Un_F ?_); (with_reducible refine Gd_TF ?_); (with_reducible refine Gd_TF ?_); (with_reducible refine Gd_TF ?_); (with_reducible refine Pick_T ?_); (with_reducible refine If_T ?_))
    exact Ret.mk ⟨x1, rfl⟩
  | true =>
    have h2 : validB t = false := by rw [h1] at h; simpa using h
    rw [h1] at c1
    have c2 := fun w => c_rValid (w := w) ht
    rw [h2] at c2
    apply e_ref03_Compare
    unfold s_ref03_Compare
    refine Cl1 n_ref03_Valid c1 fun w1 x1 => ?_
    ((with_reducible refine Un_T ?_); (with_reducible refine Gd_F ?_); (with_reducible refine Gd_F ?_))
    refine Cl1 n_ref03_Valid (c2 w1) fun w2 x2 => ?_
    ((with_reducible refine Gd_F ?_); (with_reducible refine Un_F ?_); (with_reducible refine Pick_F ?_); (with_reducible refine If_T ?_))
    exact Ret.mk ⟨x1.tr x2, rfl⟩
end
theorem c_rDiv_zero {x : Int} {w : World} (hx : x.natAbs < MaxI) : Calls Tryz.prog 66 #[str (Lib.itoa x), str (Lib.itoa 0)] w (Ret fun r w' => Ext w w' ∧ r = .tuple #[str [], str [], .int .i64 30]) := by
  have v0 := vOK m0
  have h0 := is0 (y := 0) rfl
  apply e_ref03_Div
  unfold s_ref03_Div
  refine Cl1 n_ref03_Valid (vOK hx w) fun w1 x1 => ?_
  ((with_reducible refine Un_T ?_); (with_reducible refine Gd_F ?_); (with_reducible refine Gd_F ?_))
  refine Cl1 n_ref03_Valid (v0 w1) fun w2 x2 => ?_
  ((with_reducible refine Gd_F ?_); (with_reducible refine Un_T ?_); (with_reducible refine Pick_F ?_); (with_reducible refine Gd_F ?_); (with_reducible refine Gd_F ?_); ((with_reducible refine Bn_eqS1 ?_ ?_); focus assumption); (with_reducible refine Pick_F ?_); (with_reducible refine If_T ?_))
  exact Ret.mk ⟨x1.tr x2, rfl⟩
theorem Bn_rmG {x y : Int} {c : Bool} {w : World} {K : Value → World → Prop} (hy : 0 < y) (hk : K (.int .i64 (x.tmod y)) w) : Bn Tryz.prog .rem 3 c (.int .i64 x) (.int .i64 y) w K := by
  ((try simp -dsimp [go_sem]); repeat (simp -dsimp (disch := omega) only [gL, it_t, it_f, dit_t, dit_f]; try simp -dsimp [go_sem])); exact hk
theorem Bn_quG {x : Int} {y : Int} {c : Bool} {w : World} {K : Value → World → Prop} (h0 : -9223372036854775808 ≤ x) (h1 : x ≤ 9223372036854775807) (hy : 1 < y) (hk : K (.int .i64 (x.tdiv y)) w) : Bn Tryz.prog .quo 3 c (.int .i64 x) (.int .i64 y) w K := by
  have e := Int.natAbs_tdiv x y
  have e2 : x.natAbs.div y.natAbs ≤ x.natAbs / 2 := by
    show x.natAbs / y.natAbs ≤ x.natAbs / 2
    exact Nat.div_le_div_left (by omega) (by decide)
  obtain ⟨q, hq⟩ : ∃ q, q = x.tdiv y := ⟨_, rfl⟩
  rw [← hq] at hk e
  have b0 : -9223372036854775808 ≤ q := by omega
  have b1 : q ≤ 9223372036854775807 := by omega
  clear e e2
  ((try simp -dsimp [go_sem, ← hq]); repeat (simp -dsimp (disch := omega) only [gL, it_t, it_f, dit_t, dit_f]; try simp -dsimp [go_sem, ← hq])); exact hk
theorem Un_ng {x : Int} {w : World} {K : Value → World → Prop} (h0 : -9223372036854775808 ≤ -x) (h1 : -x ≤ 9223372036854775807) (hk : K (.int .i64 (-x)) w) : Un Tryz.prog .neg (.int .i64 x) w K := by
  ((try simp -dsimp [go_sem]); repeat (simp -dsimp (disch := omega) only [gL, it_t, it_f, dit_t, dit_f]; try simp -dsimp [go_sem])); exact hk
theorem c_rFromInt {n : Int} {w : World} (h0 : -9223372036854775808 ≤ n) (h1 : n ≤ 9223372036854775807) : Calls Tryz.prog 20 #[.int .i64 n] w (Ret fun r w' => Ext w w' ∧ r = str (Lib.itoa n)) := by
  have hp10 : ∀ i : Nat, (0 : Int) < 10 ^ i := fun i => Int.pow_pos (by decide)
  apply e_ref03_FromInt
  unfold s_ref03_FromInt
  obtain ⟨I, hI⟩ : ∃ I : Value → Value → World → Prop, I = (fun o i W => ∃ (m : Int) (zs : List Int), i = .int .i64 m ∧ m.natAbs ≤ n.natAbs ∧ -9223372036854775808 ≤ m ∧ m ≤ 9223372036854775807 ∧ Owns W w.heap.size 3 o (zs.map iv) ∧ Ext w W ∧ Dg10 zs ∧ num10 zs + 10 ^ zs.length * (m.natAbs : Int) = n.natAbs ∧ (zs ≠ [] → (10 : Int) ^ (zs.length - 1) ≤ n.natAbs)) := ⟨_, rfl⟩
  obtain ⟨μ, hμ⟩ : ∃ μ : Value → Value → World → Nat, μ = (fun _ i _ => match i with | .int _ i' => i'.natAbs | _ => 0) := ⟨_, rfl⟩
  refine Lp2.mk I μ (by rw [hI]; exact ⟨n, [], rfl, Nat.le_refl _, h0, h1, Owns.nil _ _ _, .refl _, by simp [Dg10], by simp [num10], by simp⟩) ?_
  intro o i W hh
  rw [hI] at hh
  obtain ⟨m, zs, rfl, hmn, m0, m1, ho, hW, hd, hnum, hge⟩ := hh
  have hwsz := hW.size
  have hzl : zs.length ≤ 20 := by
    refine Nat.le_of_not_lt fun hc => ?_
    have h2 := hge (by intro h; rw [h] at hc; simp at hc)
    have h3 := pow10_mono (a := 20) (b := zs.length - 1) (by omega)
    have h4 : (10 : Int) ^ 20 = 100000000000000000000 := by decide
    omega
  by_cases hm : m = 0
  · subst hm
    have hnum' : num10 zs = n.natAbs := by simpa using hnum
    have hN : Nrm10 zs := nrm_of_ge hd (by rw [hnum']; exact hge)
    have fin : ∀ b : Bool, decide (n < 0) = b → Cl Tryz.prog 52 #[.bool b, o] W (Pk (Ret fun r w' => Ext w w' ∧ r = str (Lib.itoa n))) fun t27 w_1 => Ex t27 0 w_1 fun t28 w_1 => Ex t27 1 w_1 fun t29 w_1 => Ret (fun r w' => Ext w w' ∧ r = str (Lib.itoa n)) (.returned t28) w_1 := by
      intro b hb
      refine Cl2 n_ref03_text (c_rtext (neg := b) ho.slAt hN (by omega)) fun w2 x2 => ?_
      refine Ret.mk ⟨hW.tr x2, ?_⟩
      rw [hnum', ← hb, sg_natAbs]
    (((with_reducible refine Bn_neF ?_ ?_); focus omega); (with_reducible refine If_F ?_))
    by_cases hn : n < 0
    · (((with_reducible refine Bn_ltT ?_ ?_); focus omega))
      exact fin true (by simp [hn])
    · (((with_reducible refine Bn_ltF ?_ ?_); focus omega))
      exact fin false (by simp [hn])
  · obtain ⟨D, hD⟩ : ∃ D : Nat, D = m.natAbs % 10 := ⟨_, rfl⟩
    obtain ⟨Q, hQ⟩ : ∃ Q : Nat, Q = m.natAbs / 10 := ⟨_, rfl⟩
    have hDQ : m.natAbs = D + 10 * Q := by omega
    have hDlt : D < 10 := by omega
    obtain ⟨q, hq⟩ : ∃ q, q = m.tdiv 10 := ⟨_, rfl⟩
    have hqa : q.natAbs = Q := by
      rw [hq, hQ, Int.natAbs_tdiv]; rfl
    have hq0 : -9223372036854775808 ≤ q := by omega
    have hq1 : q ≤ 9223372036854775807 := by omega
    have fin : ∀ (d : Int), d = D → ∀ v' W', Owns W' w.heap.size 3 v' (zs.map iv ++ [iv d]) → Below w.heap.size W W' → I v' (.int .i64 q) W' ∧ μ v' (.int .i64 q) W' < μ o (.int .i64 m) W := by
      intro d hdd v' W' ho' hb'
      rw [hI, hμ]
      have hpw : (10 : Int) ^ (zs.length + 1) = 10 ^ zs.length * 10 := Int.pow_succ ..
      have e1 : (10 : Int) ^ zs.length * (m.natAbs : Int) = 10 ^ zs.length * d + 10 ^ zs.length * 10 * Q := by
        rw [hDQ, hdd]; push_cast; grind
      have e2 : (10 : Int) ^ zs.length * 1 ≤ 10 ^ zs.length * (m.natAbs : Int) := Int.mul_le_mul_of_nonneg_left (by omega) (Int.le_of_lt (hp10 _))
      have e3 := num10_nonneg hd
      refine ⟨⟨q, zs ++ [d], rfl, by omega, hq0, hq1, by simpa using ho', hW.trans hb', ?_, ?_, ?_⟩, ?_⟩
      · intro x hx'
        rcases List.mem_append.1 hx' with h | h
        · exact hd x h
        · simp at h; omega
      · rw [hqa, num10_append, show (zs ++ [d]).length = zs.length + 1 from by simp, hpw]
        simp only [num10]
        have e4 : (10 : Int) ^ zs.length * (d + 10 * 0) = 10 ^ zs.length * d := by simp
        rw [e4]; omega
      · intro _
        rw [show (zs ++ [d]).length - 1 = zs.length from by simp]
        omega
      · show q.natAbs < m.natAbs
        omega
    by_cases hneg : m < 0
    · have ht : m.tmod 10 = -(D : Int) := by
        rw [show m = -(m.natAbs : Int) from by omega, Int.neg_tmod, Int.tmod_eq_emod_of_nonneg (by omega)]
        omega
      (((with_reducible refine Bn_neT ?_ ?_); focus omega); (with_reducible refine If_T ?_))
      refine Bn_rmG (by decide) ?_
      rw [ht]
      by_cases hD0 : D = 0
      · (((with_reducible refine Bn_ltF ?_ ?_); focus omega); (with_reducible refine If_F ?_))
        refine ap_one sliI (by decide) ho rfl rfl (by simp; omega) hwsz fun v' W' ho' hb' _ => ?_
        refine Bn_quG m0 m1 (by decide) ?_
        rw [← hq]
        exact fin _ (by omega) v' W' ho' hb'
      · (((with_reducible refine Bn_ltT ?_ ?_); focus omega); (with_reducible refine If_T ?_))
        refine Un_ng (by omega) (by omega) ?_
        refine ap_one sliI (by decide) ho rfl rfl (by simp; omega) hwsz fun v' W' ho' hb' _ => ?_
        refine Bn_quG m0 m1 (by decide) ?_
        rw [← hq]
        exact fin _ (by omega) v' W' ho' hb'
    · have ht : m % 10 = (D : Int) := by omega
      have hq2 : m / 10 = q := by rw [hq, Int.tdiv_eq_ediv_of_nonneg (by omega)]
      (((with_reducible refine Bn_neT ?_ ?_); focus omega); (with_reducible refine If_T ?_); ((with_reducible refine Bn_rm ?_ ?_ ?_); (focus omega); (focus omega)); ((with_reducible refine Bn_ltF ?_ ?_); focus omega); (with_reducible refine If_F ?_))
      rw [ht]
      skip
      refine ap_one sliI (by decide) ho rfl rfl (by simp; omega) hwsz fun v' W' ho' hb' _ => ?_
      (((with_reducible refine Bn_qu ?_ ?_ ?_ ?_); (focus omega); (focus omega); (focus omega)))
      rw [hq2]
      exact fin _ rfl v' W' ho' hb'
end Go.Proofs.YthpcmmfijelbaaaGreatDoor
namespace Go.Proofs.YthpcmmfijelbaaaGreatDoor
open Go Go.Eng Go.Proofs Go.Num Go.RowKit
set_option maxRecDepth 100000
set_option linter.unusedVariables false
theorem lmin : Lib.itoa (-9223372036854775808) = [45, 57, 50, 50, 51, 51, 55, 50, 48, 51, 54, 56, 53, 52, 55, 55, 53, 56, 48, 56] := lit_neg _ (by decide) (by decide) (by decide)
theorem lmax : Lib.itoa 9223372036854775807 = [57, 50, 50, 51, 51, 55, 50, 48, 51, 54, 56, 53, 52, 55, 55, 53, 56, 48, 55] := lit_pos _ (by decide) (by decide)
theorem i64M {n : Int} (h0 : -9223372036854775808 ≤ n) (h1 : n ≤ 9223372036854775807) : n.natAbs < MaxI := by
  have h : n.natAbs < 10 ^ 200 := Nat.lt_of_lt_of_le (show n.natAbs < 10 ^ 20 by omega) (Nat.pow_le_pow_right (by decide) (by decide))
  unfold MaxI; exact h
theorem dv_take_le (l : List UInt8) (k : Nat) : dv (l.take k) ≤ dv l := by
  have h := dv_append (l.take k) (l.drop k)
  rw [List.take_append_drop] at h
  have hp : 1 ≤ 10 ^ (l.drop k).length := Nat.pow_pos (by decide)
  have := Nat.mul_le_mul_left (dv (l.take k)) hp
  omega
theorem dv_step {l : List UInt8} {k : Nat} (h : k < l.length) : dv (l.take (k + 1)) = dv (l.take k) * 10 + (l[k].toNat - 48) := by
  rw [List.take_add_one, List.getElem?_eq_getElem h]
  exact dv_snoc _ _
theorem Bn_muT {x : Int} {c : Bool} {w : World} {K : Value → World → Prop} (h0 : -9223372036854775808 ≤ 10 * x) (h1 : 10 * x ≤ 9223372036854775807) (hk : K (.int .i64 (10 * x)) w) : Bn Tryz.prog .mul 3 c (.int .i64 10) (.int .i64 x) w K := Bn_mu h0 h1 hk
theorem k_rCompare {x y c : Int} {w : World} (hx : x.natAbs < MaxI) (hy : y.natAbs < MaxI) (e : cmpI x y = c) :
    Calls Tryz.prog 67 #[str (Lib.itoa x), str (Lib.itoa y)] w (Ret fun r w' => Ext w w' ∧ r = .int .i64 c) := Ret.lit (c_rCompare hx hy) (by rw [e])
theorem c_rToInt {s : List UInt8} {w : World} (hs : s.length ≤ 1000000) : Calls Tryz.prog 43 #[str s] w (Ret fun r w' => Ext w w' ∧ r = toIntV s) := by
  have hS : Tryz.prog.underlying 9 = some .string := Tryz.underlying9
  have c1 := c_rValid (w := w) hs
  cases hv : validB s with
  | false =>
    rw [hv] at c1
    have e : toIntV s = .tuple #[.int .i64 0, .int .i64 30] := by unfold toIntV; rw [hv]; rfl
    rw [e]
    apply e_ref03_ToInt
    unfold s_ref03_ToInt
    refine Cl1 n_ref03_Valid c1 fun w1 x1 => ?_
    ((with_reducible refine Un_F ?_); (with_reducible refine Gd_TF ?_); (with_reducible refine Gd_TF ?_); (with_reducible refine Gd_TF ?_); (with_reducible refine Pick_T ?_); (with_reducible refine Gd_TF ?_); (with_reducible refine Gd_TF ?_); (with_reducible refine Gd_TF ?_); (with_reducible refine Pick_T ?_); (with_reducible refine If_T ?_))
    exact Ret.mk ⟨x1, rfl⟩
  | true =>
    rw [hv] at c1
    obtain ⟨z, hz, rfl⟩ := valid_ex hv
    rw [toIntV_itoa hz]
    have mmin := i64M (n := -9223372036854775808) (by decide) (by decide)
    have mmax := i64M (n := 9223372036854775807) (by decide) (by decide)
    by_cases h0 : z < -9223372036854775808
    · rw [if_neg (by omega)]
      apply e_ref03_ToInt
      unfold s_ref03_ToInt
      refine Cl1 n_ref03_Valid c1 fun w1 x1 => ?_
      ((with_reducible refine Un_T ?_); (with_reducible refine Gd_F ?_); (with_reducible refine Gd_F ?_))
      refine Cl1 n_ref03_Compare (lmin ▸ k_rCompare (y := -9223372036854775808) hz mmin (cmpI_lt h0)) fun w2 x2 => ?_
      ((with_reducible refine Gd_F ?_); ((with_reducible refine Bn_ltT ?_ ?_); focus omega); (with_reducible refine Pick_F ?_); (with_reducible refine Gd_TF ?_); (with_reducible refine Gd_TF ?_); (with_reducible refine Gd_TF ?_); (with_reducible refine Pick_T ?_); (with_reducible refine If_T ?_))
      exact Ret.mk ⟨x1.tr x2, rfl⟩
    · have g0 := cmpI_ge (show -9223372036854775808 ≤ z by omega)
      by_cases h1 : 9223372036854775807 < z
      · rw [if_neg (by omega)]
        apply e_ref03_ToInt
        unfold s_ref03_ToInt
        refine Cl1 n_ref03_Valid c1 fun w1 x1 => ?_
        ((with_reducible refine Un_T ?_); (with_reducible refine Gd_F ?_); (with_reducible refine Gd_F ?_))
        refine Cl1 n_ref03_Compare (lmin ▸ k_rCompare (y := -9223372036854775808) hz mmin rfl) fun w2 x2 => ?_
        ((with_reducible refine Gd_F ?_); ((with_reducible refine Bn_ltF ?_ ?_); focus omega); (with_reducible refine Pick_F ?_); (with_reducible refine Gd_F ?_); (with_reducible refine Gd_F ?_))
        refine Cl1 n_ref03_Compare (lmax ▸ k_rCompare (y := 9223372036854775807) hz mmax (cmpI_gt h1)) fun w3 x3 => ?_
        ((with_reducible refine Gd_F ?_); ((with_reducible refine Bn_gtT ?_ ?_); focus omega); (with_reducible refine Pick_F ?_); (with_reducible refine If_T ?_))
        exact Ret.mk ⟨(x1.tr x2).tr x3, rfl⟩
      · have g1 := cmpI_le (show z ≤ 9223372036854775807 by omega)
        rw [if_pos ⟨by omega, by omega⟩]
        obtain ⟨l, hl⟩ : ∃ l, l = Lib.decDigits z.natAbs := ⟨_, rfl⟩
        have hlD : ∀ b ∈ l, isD b := by rw [hl]; exact dec_isD _
        have hdv : dv l = z.natAbs := by rw [hl]; exact dv_dec _
        have hll : l.length ≤ 200 := by rw [hl]; exact (dec_len (by decide)).2 (by unfold MaxI at hz; exact hz)
        have hlne : l ≠ [] := by rw [hl]; exact dec_ne _
        have hlp : 0 < l.length := List.length_pos_iff.2 hlne
        have hz0 : -9223372036854775808 ≤ z := by omega
        have hz1 : z ≤ 9223372036854775807 := by omega
        by_cases hneg : z < 0
        · have hi : Lib.itoa z = 45 :: l := by unfold Lib.itoa; rw [if_pos hneg, hl]
          have k1 := fun w => k_rCompare (w := w) (y := -9223372036854775808) hz mmin rfl
          have k2 := fun w => k_rCompare (w := w) (y := 9223372036854775807) hz mmax rfl
          rw [lmin] at k1
          rw [lmax] at k2
          rw [hi] at c1 k1 k2 ⊢
          have hlen : (45 :: l).length = l.length + 1 := rfl
          have h45 : ((45 : UInt8).toNat : Int) = 45 := rfl
          apply e_ref03_ToInt
          unfold s_ref03_ToInt
          refine Cl1 n_ref03_Valid c1 fun w1 x1 => ?_
          ((with_reducible refine Un_T ?_); (with_reducible refine Gd_F ?_); (with_reducible refine Gd_F ?_))
          refine Cl1 n_ref03_Compare (k1 w1) fun w2 x2 => ?_
          ((with_reducible refine Gd_F ?_); ((with_reducible refine Bn_ltF ?_ ?_); focus omega); (with_reducible refine Pick_F ?_); (with_reducible refine Gd_F ?_); (with_reducible refine Gd_F ?_))
          refine Cl1 n_ref03_Compare (k2 w2) fun w3 x3 => ?_
          ((with_reducible refine Gd_F ?_); ((with_reducible refine Bn_gtF ?_ ?_); focus omega); (with_reducible refine Pick_F ?_); (with_reducible refine If_F ?_))
          have h3 := (x1.tr x2).tr x3
          obtain ⟨I, hI⟩ : ∃ I : Value → Value → World → Prop, I = (fun n i W => W = w3 ∧ ((n = .int .i64 0 ∧ i = .int .i64 0) ∨ ∃ j : Nat, j ≤ l.length ∧ i = .int .i64 ((j : Int) + 1) ∧ n = .int .i64 (-(dv (l.take j) : Int)))) := ⟨_, rfl⟩
          obtain ⟨μ, hμ⟩ : ∃ μ : Value → Value → World → Nat, μ = (fun _ i _ => match i with | .int _ i' => (l.length + 1 - i').toNat | _ => 0) := ⟨_, rfl⟩
          refine Lp2.mk I μ (by rw [hI]; exact ⟨rfl, .inl ⟨rfl, rfl⟩⟩) ?_
          intro n i W hh
          rw [hI] at hh
          rcases hh with ⟨rfl, ⟨rfl, rfl⟩ | ⟨j, hj, rfl, rfl⟩⟩
          · (((with_reducible refine Bt_lenS ?_ ?_); (focus assumption)); ((with_reducible refine Bn_ltT ?_ ?_); focus omega); (with_reducible refine If_T ?_))
            refine Ix_s (l := 45 :: l) (j := 0) (b := 45) rfl rfl (by omega) ?_
            (((with_reducible refine Bn_eqT ?_ ?_); focus omega); (with_reducible refine If_T ?_); ((with_reducible refine Bn_ad ?_ ?_ ?_); (focus omega); (focus omega)))
            rw [hI, hμ]
            exact ⟨⟨rfl, .inr ⟨0, by omega, rfl, rfl⟩⟩, by simp only []; omega⟩
          · by_cases hjl : j < l.length
            · have hat : (45 :: l)[j + 1]? = some l[j] := by rw [List.getElem?_cons_succ]; exact List.getElem?_eq_getElem hjl
              obtain ⟨b, hb⟩ : ∃ b, b = l[j] := ⟨_, rfl⟩
              have hbD := hlD b (by rw [hb]; exact List.getElem_mem _)
              have hst := dv_step hjl
              have hle := dv_take_le l (j + 1)
              rw [← hb] at hat hst
              unfold isD at hbD
              (((with_reducible refine Bt_lenS ?_ ?_); (focus assumption)); ((with_reducible refine Bn_ltT ?_ ?_); focus omega); (with_reducible refine If_T ?_))
              refine Ix_s (l := 45 :: l) (j := j + 1) (by push_cast; rfl) hat (by omega) ?_
              (((with_reducible refine Bn_eqF ?_ ?_); focus omega); (with_reducible refine If_F ?_))
              refine Ix_s (l := 45 :: l) (j := j + 1) (by push_cast; rfl) hat (by omega) ?_
              refine Bn_su8 (by omega) (by omega) ?_
              refine Cv_8 (by omega) (by omega) ?_
              refine Ix_s (l := 45 :: l) (j := 0) (b := 45) rfl rfl (by omega) ?_
              (((with_reducible refine Bn_eqT ?_ ?_); focus omega); (with_reducible refine If_T ?_))
              refine Un_ng (by omega) (by omega) ?_
              refine Bn_muT (by omega) (by omega) ?_
              (((with_reducible refine Bn_ad ?_ ?_ ?_); (focus omega); (focus omega)); ((with_reducible refine Bn_ad ?_ ?_ ?_); (focus omega); (focus omega)))
              rw [hI, hμ]
              exact ⟨⟨rfl, .inr ⟨j + 1, by omega, by push_cast; rfl, by rw [hst]; congr 1; omega⟩⟩, by simp only []; omega⟩
            · have ht : dv (l.take j) = z.natAbs := by rw [List.take_of_length_le (by omega), hdv]
              (((with_reducible refine Bt_lenS ?_ ?_); (focus assumption)); ((with_reducible refine Bn_ltF ?_ ?_); focus omega); (with_reducible refine If_F ?_))
              refine Ret.mk ⟨h3, ?_⟩
              rw [ht]
              congr 3
              simp; omega
        · have hi : Lib.itoa z = l := by unfold Lib.itoa; rw [if_neg hneg, hl, show z.toNat = z.natAbs from by omega]
          have k1 := fun w => k_rCompare (w := w) (y := -9223372036854775808) hz mmin rfl
          have k2 := fun w => k_rCompare (w := w) (y := 9223372036854775807) hz mmax rfl
          rw [lmin] at k1
          rw [lmax] at k2
          rw [hi] at c1 k1 k2 ⊢
          have hat0 : l[0]? = some l[0] := List.getElem?_eq_getElem hlp
          obtain ⟨b0, hb0⟩ : ∃ b, b = l[0] := ⟨_, rfl⟩
          have hb0D := hlD b0 (by rw [hb0]; exact List.getElem_mem _)
          rw [← hb0] at hat0
          unfold isD at hb0D
          apply e_ref03_ToInt
          unfold s_ref03_ToInt
          refine Cl1 n_ref03_Valid c1 fun w1 x1 => ?_
          ((with_reducible refine Un_T ?_); (with_reducible refine Gd_F ?_); (with_reducible refine Gd_F ?_))
          refine Cl1 n_ref03_Compare (k1 w1) fun w2 x2 => ?_
          ((with_reducible refine Gd_F ?_); ((with_reducible refine Bn_ltF ?_ ?_); focus omega); (with_reducible refine Pick_F ?_); (with_reducible refine Gd_F ?_); (with_reducible refine Gd_F ?_))
          refine Cl1 n_ref03_Compare (k2 w2) fun w3 x3 => ?_
          ((with_reducible refine Gd_F ?_); ((with_reducible refine Bn_gtF ?_ ?_); focus omega); (with_reducible refine Pick_F ?_); (with_reducible refine If_F ?_))
          have h3 := (x1.tr x2).tr x3
          obtain ⟨I, hI⟩ : ∃ I : Value → Value → World → Prop, I = (fun n i W => W = w3 ∧ ∃ j : Nat, j ≤ l.length ∧ i = .int .i64 j ∧ n = .int .i64 (dv (l.take j))) := ⟨_, rfl⟩
          obtain ⟨μ, hμ⟩ : ∃ μ : Value → Value → World → Nat, μ = (fun _ i _ => match i with | .int _ i' => (l.length - i').toNat | _ => 0) := ⟨_, rfl⟩
          refine Lp2.mk I μ (by rw [hI]; exact ⟨rfl, 0, by omega, rfl, rfl⟩) ?_
          intro n i W hh
          rw [hI] at hh
          obtain ⟨rfl, j, hj, rfl, rfl⟩ := hh
          by_cases hjl : j < l.length
          · have hat : l[j]? = some l[j] := List.getElem?_eq_getElem hjl
            obtain ⟨b, hb⟩ : ∃ b, b = l[j] := ⟨_, rfl⟩
            have hbD := hlD b (by rw [hb]; exact List.getElem_mem _)
            have hst := dv_step hjl
            have hle := dv_take_le l (j + 1)
            rw [← hb] at hat hst
            unfold isD at hbD
            (((with_reducible refine Bt_lenS ?_ ?_); (focus assumption)); ((with_reducible refine Bn_ltT ?_ ?_); focus omega); (with_reducible refine If_T ?_))
            refine Ix_s (j := j) rfl hat (by omega) ?_
            (((with_reducible refine Bn_eqF ?_ ?_); focus omega); (with_reducible refine If_F ?_))
            refine Ix_s (j := j) rfl hat (by omega) ?_
            refine Bn_su8 (by omega) (by omega) ?_
            refine Cv_8 (by omega) (by omega) ?_
            refine Ix_s (j := 0) rfl hat0 (by omega) ?_
            (((with_reducible refine Bn_eqF ?_ ?_); focus omega); (with_reducible refine If_F ?_))
            refine Bn_muT (by omega) (by omega) ?_
            (((with_reducible refine Bn_ad ?_ ?_ ?_); (focus omega); (focus omega)); ((with_reducible refine Bn_ad ?_ ?_ ?_); (focus omega); (focus omega)))
            rw [hI, hμ]
            exact ⟨⟨rfl, j + 1, by omega, by push_cast; rfl, by rw [hst]; congr 1; omega⟩, by simp only []; omega⟩
          · have ht : dv (l.take j) = z.natAbs := by rw [List.take_of_length_le (by omega), hdv]
            (((with_reducible refine Bt_lenS ?_ ?_); (focus assumption)); ((with_reducible refine Bn_ltF ?_ ?_); focus omega); (with_reducible refine If_F ?_))
            refine Ret.mk ⟨h3, ?_⟩
            rw [ht]
            congr 3
            simp; omega
end Go.Proofs.YthpcmmfijelbaaaGreatDoor
