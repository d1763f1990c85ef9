/-
  Contracts and plain lemmas. By an AI agent.
-/
import Derived.Test.YtnkmbjedcjcccaaGreatDoorStrY
import Derived.Test.YtnkmbjedcjcccaaGreatDoorEng
set_option linter.unusedSimpArgs false
set_option linter.unusedVariables false
set_option linter.unusedSectionVars false
namespace Go.Proofs.YtnkmbjedcjcccaaGreatDoor
open Go Go.Eng Go.Proofs Go.Num Go.RowKit
set_option maxRecDepth 100000
theorem num10_append (xs ys : List Int) : num10 (xs ++ ys) = num10 xs + 10 ^ xs.length * num10 ys := by
 induction xs with
 | nil => simp [num10]
 | cons d ds ih => simp only [List.cons_append, num10, ih, List.length_cons, Int.pow_succ]; grind
theorem Nrm10.tail {d : Int} {ds : List Int} (h : Nrm10 (d :: ds)) : Nrm10 ds := by
 refine ⟨fun x hx => h.1 x (by simp [hx]), ?_⟩
 have := h.2
 simp only [Num.trimL] at this
 split at this
 ·simp at this
 ·simpa using this
theorem Nrm10.pos {xs : List Int} (h : Nrm10 xs) (hne : xs ≠ []) : 0 < num10 xs := by
 induction xs with
 | nil => exact absurd rfl hne
 | cons d ds ih =>
  have hd := h.1 d (by simp)
  by_cases hds : ds = []
  ·subst hds
   have := h.2
   simp only [Num.trimL] at this
   by_cases h0 : d = 0
   ·simp [h0] at this
   ·simp only [num10]; omega
  ·have := ih h.tail hds
   simp only [num10]; omega
theorem Nrm10.ge {xs : List Int} (h : Nrm10 xs) (hne : xs ≠ []) : 10 ^ (xs.length - 1) ≤ num10 xs := by
 induction xs with
 | nil => exact absurd rfl hne
 | cons d ds ih =>
  have hd := h.1 d (by simp)
  by_cases hds : ds = []
  ·subst hds
   have := h.pos (by simp)
   simp only [num10, List.length_cons, List.length_nil] at this ⊢
   simp at this ⊢; omega
  ·have := ih h.tail hds
   obtain ⟨x, xs, rfl⟩ := List.exists_cons_of_ne_nil hds
   simp only [List.length_cons, Nat.add_sub_cancel] at this ⊢
   rw [Int.pow_succ]
   simp only [num10] at this ⊢; omega
theorem pow10_mono {a b : Nat} (h : a ≤ b) : (10 : Int) ^ a ≤ 10 ^ b := by
 obtain ⟨k, rfl⟩ := Nat.exists_eq_add_of_le h
 induction k with
 | zero => simp
 | succ k ih =>
  have := ih (by omega)
  rw [← Nat.add_assoc, Int.pow_succ]
  have h0 : (0 : Int) < 10 ^ (a + k) := Int.pow_pos (by decide)
  omega
theorem Nrm10.len {xs : List Int} (h : Nrm10 xs) {k : Nat} (hk : num10 xs < 10 ^ k) : xs.length ≤ k := by
 by_cases hne : xs = []
 ·subst hne; simp
 ·have h1 := h.ge hne
  refine Classical.byContradiction fun hc => ?_
  have := pow10_mono (a := k) (b := xs.length - 1) (by omega)
  omega
theorem num10_split (xs : List Int) (i : Nat) (h : i ≤ xs.length) : num10 xs = num10 (xs.take i) + 10 ^ i * num10 (xs.drop i) := by
 conv => lhs; rw [← List.take_append_drop i xs]
 rw [num10_append, List.length_take, Nat.min_eq_left h]
theorem Dg10.take {xs : List Int} (h : Dg10 xs) (i : Nat) : Dg10 (xs.take i) := fun d hd => h d (List.mem_of_mem_take hd)
theorem num10_lt_of {xs ys : List Int} (hx : Dg10 xs) (hy : Dg10 ys) {i : Nat} (h1 : i < xs.length) (h2 : i < ys.length) (hd : xs.drop (i + 1) = ys.drop (i + 1)) (hlt : xs[i] < ys[i]) : num10 xs < num10 ys := by
 rw [num10_split xs i (by omega), num10_split ys i (by omega), List.drop_eq_getElem_cons h1, List.drop_eq_getElem_cons h2, hd]
 simp only [num10]
 have a1 := num10_lt (hx.take i)
 have a2 := num10_nonneg (hy.take i)
 rw [List.length_take, Nat.min_eq_left (by omega)] at a1
 have hp : (0 : Int) < 10 ^ i := Int.pow_pos (by decide)
 obtain ⟨k, hk⟩ : ∃ k, ys[i] = xs[i] + 1 + k ∧ 0 ≤ k := ⟨ys[i] - xs[i] - 1, by omega, by omega⟩
 rw [hk.1]
 have : (10 : Int) ^ i * (xs[i] + 1 + k + 10 * num10 (ys.drop (i + 1))) = 10 ^ i * (xs[i] + 10 * num10 (ys.drop (i + 1))) + 10 ^ i + 10 ^ i * k := by grind
 rw [this]
 have := Int.mul_nonneg (Int.le_of_lt hp) hk.2
 omega
theorem Nrm10.lt_of_len {xs ys : List Int} (hx : Nrm10 xs) (hy : Nrm10 ys) (h : xs.length < ys.length) : num10 xs < num10 ys := by
 have h1 := num10_lt hx.1
 have h2 := hy.ge (by intro hc; subst hc; simp at h)
 have := pow10_mono (a := xs.length) (b := ys.length - 1) (by omega)
 omega
def DAt (w : World) (v : Value) (n : Int) : Prop := ∃ xs : List Int, NumL w v xs ∧ Nrm10 xs ∧ num10 xs = n
theorem DAt.ext {w w' : World} {v : Value} {n : Int} (h : DAt w v n) (he : Ext w w') : DAt w' v n := by
 obtain ⟨xs, h1, h2, h3⟩ := h; exact ⟨xs, SlAt.ext h1 he, h2, h3⟩
theorem DAt.nonneg {w : World} {v : Value} {n : Int} (h : DAt w v n) : 0 ≤ n := by
 obtain ⟨xs, _, h2, rfl⟩ := h; exact num10_nonneg h2.1
theorem ord_drop {j : Nat} {xs : List Int} (h : j < xs.length) : xs.drop j = xs[j] :: xs.drop (j + 1) := List.drop_eq_getElem_cons h
theorem c_order {w : World} {u v : Value} {xs ys : List Int} (hu : NumL w u xs) (hv : NumL w v ys) (hx : Nrm10 xs) (hy : Nrm10 ys) (hlx : xs.length ≤ 1000000) (hly : ys.length ≤ 1000000) :
 Calls Tryz.prog 127 #[u, v] w (Ret fun r w' => Ext w w' ∧ r = .int .i64 (cmpI (num10 xs) (num10 ys))) := by
 by_cases hl : xs.length = ys.length
 ·rcases hu with ⟨rfl, hx'⟩ | ⟨b, o, cap, rfl, hc, hcells⟩
  ·have h0 : xs = [] := by simpa using hx'
   have h1 : ys = [] := by rw [h0] at hl; exact List.eq_nil_of_length_eq_zero hl.symm
   subst h0; subst h1
   obtain ⟨a2, cap2, rfl⟩ := hv.slice
   apply e_ref03_order
   unfold s_ref03_order
   ((try simp -dsimp [go_sem]); repeat (simp -dsimp (disch := omega) only [gL, gI]; try simp -dsimp [go_sem]))
   refine Lp1.mk (fun i W => W = w ∧ i = .int .i64 (-1)) (fun _ _ => 0) ⟨rfl, rfl⟩ ?_
   rintro i W ⟨rfl, rfl⟩
   ((try simp -dsimp [go_sem]); repeat (simp -dsimp (disch := omega) only [gL, gI]; try simp -dsimp [go_sem]))
   exact Ret.mk ⟨.refl _, rfl⟩
  ·rcases hv with ⟨rfl, hy'⟩ | ⟨b2, o2, cap2, rfl, hc2, hcells2⟩
   ·have h0 : ys = [] := by simpa using hy'
    have h1 : xs = [] := by rw [h0] at hl; exact List.eq_nil_of_length_eq_zero hl
    subst h0; subst h1
    apply e_ref03_order
    unfold s_ref03_order
    ((try simp -dsimp [go_sem]); repeat (simp -dsimp (disch := omega) only [gL, gI]; try simp -dsimp [go_sem]))
    refine Lp1.mk (fun i W => W = w ∧ i = .int .i64 (-1)) (fun _ _ => 0) ⟨rfl, rfl⟩ ?_
    rintro i W ⟨rfl, rfl⟩
    ((try simp -dsimp [go_sem]); repeat (simp -dsimp (disch := omega) only [gL, gI]; try simp -dsimp [go_sem]))
    exact Ret.mk ⟨.refl _, rfl⟩
   ·simp only [List.length_map] at hc hc2 ⊢
    apply e_ref03_order
    unfold s_ref03_order
    ((try simp -dsimp [go_sem, hl]); repeat (simp -dsimp (disch := omega) only [gL, gI]; try simp -dsimp [go_sem, hl]))
    obtain ⟨I, hI⟩ : ∃ I : Value → World → Prop, I = (fun i W => Ext w W ∧ ∃ j : Nat, j ≤ xs.length ∧ i = .int .i64 ((j : Int) - 1) ∧ xs.drop j = ys.drop j) := ⟨_, rfl⟩
    obtain ⟨μ, hμ⟩ : ∃ μ : Value → World → Nat, μ = (fun i _ => match i with | .int _ i' => (i' + 1).toNat | _ => 0) := ⟨_, rfl⟩
    refine Lp1.mk I μ (by rw [hI]; exact ⟨.refl _, ys.length, by omega, by congr 1, by rw [List.drop_of_length_le (by omega), List.drop_of_length_le (by omega)]⟩) ?_
    intro i W hh
    rw [hI] at hh
    obtain ⟨hW, j, hj, rfl, hd⟩ := hh
    by_cases hj0 : j = 0
    ·subst hj0
     ((try simp -dsimp [go_sem]); repeat (simp -dsimp (disch := omega) only [gL, gI]; try simp -dsimp [go_sem]))
     refine Ret.mk ⟨hW, ?_⟩
     have : xs = ys := by simpa using hd
     rw [this]; simp [cmpI]
    ·obtain ⟨k, rfl⟩ : ∃ k, j = k + 1 := ⟨j - 1, by omega⟩
     have hc1 := hW.cell' (hcells k (iv (xs[k]'(by omega))) (by simp))
     have hc3 := hW.cell' (hcells2 k (iv (ys[k]'(by omega))) (by simp))
     obtain ⟨x, hxk⟩ : ∃ x, x = xs[k]'(by omega) := ⟨_, rfl⟩
     obtain ⟨y, hyk⟩ : ∃ y, y = ys[k]'(by omega) := ⟨_, rfl⟩
     rw [← hxk] at hc1
     rw [← hyk] at hc3
     have e1 : ((k + 1 : Nat) : Int) - 1 = k := by omega
     rw [e1]
     have hdr : Ext W W.drew.drew := Ext.dr (Ext.dr (.refl _))
     rcases Int.lt_trichotomy x y with h | h | h
     ·((try simp -dsimp [go_sem, hc1, hc3]); repeat (simp -dsimp (disch := omega) only [gL, gI]; try simp -dsimp [go_sem, hc1, hc3]))
      refine Ret.mk ⟨hW.tr hdr, ?_⟩
      have := num10_lt_of hx.1 hy.1 (i := k) (by omega) (by omega) hd (by rw [← hxk, ← hyk]; exact h)
      unfold cmpI; rw [if_pos this]
     ·((try simp -dsimp [go_sem, hc1, hc3]); repeat (simp -dsimp (disch := omega) only [gL, gI]; try simp -dsimp [go_sem, hc1, hc3]))
      rw [hI, hμ]
      refine ⟨⟨hW.tr (Ext.dr (.refl _)), k, by omega, by congr 1, ?_⟩, by simp only []; omega⟩
      rw [ord_drop (xs := xs) (j := k) (by omega), ord_drop (xs := ys) (j := k) (by omega), hd, ← hxk, ← hyk, h]
     ·((try simp -dsimp [go_sem, hc1, hc3]); repeat (simp -dsimp (disch := omega) only [gL, gI]; try simp -dsimp [go_sem, hc1, hc3]))
      refine Ret.mk ⟨hW.tr hdr, ?_⟩
      have := num10_lt_of hy.1 hx.1 (i := k) (by omega) (by omega) hd.symm (by rw [← hxk, ← hyk]; exact h)
      unfold cmpI; rw [if_neg (by omega), if_pos this]
 ·obtain ⟨a1, cap1, rfl⟩ := hu.slice
  obtain ⟨a2, cap2, rfl⟩ := hv.slice
  apply e_ref03_order
  unfold s_ref03_order
  rcases Nat.lt_or_gt_of_ne hl with h | h
  ·((try simp -dsimp [go_sem]); repeat (simp -dsimp (disch := omega) only [gL, gI]; try simp -dsimp [go_sem]))
   refine Ret.mk ⟨.refl _, ?_⟩
   have := hx.lt_of_len hy h
   unfold cmpI; rw [if_pos this]
  ·((try simp -dsimp [go_sem]); repeat (simp -dsimp (disch := omega) only [gL, gI]; try simp -dsimp [go_sem]))
   refine Ret.mk ⟨.refl _, ?_⟩
   have := hy.lt_of_len hx h
   unfold cmpI; rw [if_neg (by omega), if_pos this]
theorem hL44 : ∃ e, Tryz.prog.underlying 33 = some (.slice e) := ⟨_, Tryz.underlying33⟩
theorem ld44 {v : Value} {xs : List Int} {i : Int} {j : Nat} {w : World} {K : Value → World → Prop} (h : NumL w v xs) (hi : i = j) (hj : j < xs.length) (hk : K (.int .i64 xs[j]) w) :
 Ia Tryz.prog 33 v (.int .i64 i) w fun a w => Ld Tryz.prog 3 a w K := Ia_ld Tryz.underlying33 Tryz.sizeOf3 Tryz.isAgg3 h hi hj hk
def dg (xs : List Int) (i : Nat) : Int := xs[i]?.getD 0
theorem dg_at {xs : List Int} {i : Nat} (h : i < xs.length) : xs[i] = dg xs i := by unfold dg; rw [List.getElem?_eq_getElem h]; rfl
theorem dg_out {xs : List Int} {i : Nat} (h : xs.length ≤ i) : dg xs i = 0 := by unfold dg; rw [List.getElem?_eq_none h]; rfl
theorem dg_bd {xs : List Int} (h : Dg10 xs) (i : Nat) : 0 ≤ dg xs i ∧ dg xs i < 10 := by
 by_cases hi : i < xs.length
 ·rw [← dg_at hi]; exact h _ (List.getElem_mem _)
 ·rw [dg_out (by omega)]; decide
theorem take_step (xs : List Int) (i : Nat) : num10 (xs.take (i + 1)) = num10 (xs.take i) + 10 ^ i * dg xs i := by
 by_cases hi : i < xs.length
 ·rw [List.take_add_one, List.getElem?_eq_getElem hi, num10_append, List.length_take, Nat.min_eq_left (by omega), ← dg_at hi]
  simp [num10]
 ·rw [List.take_of_length_le (by omega), List.take_of_length_le (by omega), dg_out (by omega)]; simp
theorem nrm_of_ge {zs : List Int} (h : Dg10 zs) (hge : zs ≠ [] → (10 : Int) ^ (zs.length - 1) ≤ num10 zs) : Nrm10 zs := by
 rcases List.eq_nil_or_concat zs with rfl | ⟨ys, d, rfl⟩
 ·exact ⟨h, rfl⟩
 ·simp only [List.concat_eq_append] at *
  refine ⟨h, trimL_snoc ?_ ys⟩
  rintro rfl
  have h1 := hge (by simp)
  rw [num10_append] at h1
  have h2 := num10_lt (xs := ys) (fun x hx => h x (by simp [hx]))
  simp [num10] at h1
  omega
theorem split10 (p n : Int) : p * n = p * (n % 10) + p * 10 * (n / 10) := by
 have e1 : n = n % 10 + 10 * (n / 10) := by omega
 conv => lhs; rw [e1]
 grind
theorem c_rplus {w : World} {u v : Value} {xs ys : List Int} (hu : NumL w u xs) (hv : NumL w v ys) (hx : Nrm10 xs) (hy : Nrm10 ys) (hlx : xs.length ≤ 100000) (hly : ys.length ≤ 100000) :
 Calls Tryz.prog 123 #[u, v] w (Ret fun r w' => Ext w w' ∧ DAt w' r (num10 xs + num10 ys)) := by
 obtain ⟨a1, cap1, rfl⟩ := hu.slice
 obtain ⟨a2, cap2, rfl⟩ := hv.slice
 have hL := hL44
 obtain ⟨M, hM⟩ : ∃ M, M = max xs.length ys.length := ⟨_, rfl⟩
 have hp : ∀ i : Nat, (0 : Int) < 10 ^ i := fun i => Int.pow_pos (by decide)
 apply e_ref03_plus
 unfold s_ref03_plus
 obtain ⟨I, hI⟩ : ∃ I : Value → Value → Value → World → Prop, I = (fun o c i W => ∃ (zs : List Int) (c' : Int), i = .int .i64 zs.length ∧ c = .int .i64 c' ∧ Owns W w.heap.size 3 o (zs.map iv) ∧ Ext w W ∧ Dg10 zs ∧ 0 ≤ c' ∧ c' ≤ 1 ∧
  num10 zs + 10 ^ zs.length * c' = num10 (xs.take zs.length) + num10 (ys.take zs.length) ∧ (zs.length ≤ M ∨ (zs.length = M + 1 ∧ c' = 0 ∧ 10 ^ M ≤ num10 zs))) := ⟨_, rfl⟩
 obtain ⟨μ, hμ⟩ : ∃ μ : Value → Value → Value → World → Nat, μ = (fun _ _ i _ => match i with | .int _ i' => (M + 2 - i').toNat | _ => 0) := ⟨_, rfl⟩
 refine Lp3.mk I μ (by rw [hI]; exact ⟨[], 0, rfl, rfl, Owns.nil _ _ _, .refl _, by simp [Dg10], by decide, by decide, by simp [num10], .inl (by simp)⟩) ?_
 intro o c i W hh
 rw [hI] at hh
 obtain ⟨zs, c', rfl, rfl, ho, hW, hd, hc0, hc1, hnum, htop⟩ := hh
 have hwsz := hW.size
 by_cases hgo : zs.length < M ∨ 0 < c'
 ·have bx := dg_bd hx.1 zs.length
  have bY := dg_bd hy.1 zs.length
  have hxW := hu.ext hW
  have hyW := hv.ext hW
  have fin : ∀ n, n = c' + dg xs zs.length + dg ys zs.length → ∀ v' W', Owns W' w.heap.size 3 v' (zs.map iv ++ [iv (n % 10)]) → Below w.heap.size W W' →
   I v' (.int .i64 (n / 10)) (.int .i64 ((zs.length : Int) + 1)) W' ∧ μ v' (.int .i64 (n / 10)) (.int .i64 ((zs.length : Int) + 1)) W' < μ o (.int .i64 c') (.int .i64 zs.length) W := by
   intro n hn v' W' ho' hb'
   rw [hI, hμ]
   have hpow : (10 : Int) ^ (zs.length + 1) = 10 ^ zs.length * 10 := Int.pow_succ ..
   have hnum' : num10 (zs ++ [n % 10]) + 10 ^ (zs ++ [n % 10]).length * (n / 10) = num10 (xs.take (zs ++ [n % 10]).length) + num10 (ys.take (zs ++ [n % 10]).length) := by
    rw [show (zs ++ [n % 10]).length = zs.length + 1 from by simp, take_step, take_step, num10_append, hpow]
    have e2 := split10 (10 ^ zs.length) n
    have e3 : (10 : Int) ^ zs.length * n = 10 ^ zs.length * c' + 10 ^ zs.length * dg xs zs.length + 10 ^ zs.length * dg ys zs.length := by rw [hn]; grind
    simp only [num10]
    have e4 : (10 : Int) ^ zs.length * (n % 10 + 10 * 0) = 10 ^ zs.length * (n % 10) := by simp
    rw [e4]
    omega
   refine ⟨⟨zs ++ [n % 10], n / 10, by simp, rfl, by simpa using ho', hW.trans hb', ?_, by omega, by omega, hnum', ?_⟩, by simp only []; omega⟩
   ·intro x hx'
    rcases List.mem_append.1 hx' with h | h
    ·exact hd x h
    ·simp at h; omega
   ·by_cases h : zs.length < M
    ·left; simp; omega
    ·right
     have hzM : zs.length = M := by omega
     have h1 : dg xs zs.length = 0 := dg_out (by omega)
     have h2 : dg ys zs.length = 0 := dg_out (by omega)
     have hn1 : n = 1 := by omega
     refine ⟨by simp; omega, by omega, ?_⟩
     rw [num10_append, hn1, hzM]
     have := num10_nonneg hd
     simp [num10]; omega
  have run : Jn1 (fun k2 => Bt Tryz.prog .len #[33] 3 #[.slice a1 xs.length cap1] W fun t28 w => Bn Tryz.prog .lss 3 false (.int .i64 zs.length) t28 w fun t29 w => If t29
   (Ia Tryz.prog 33 (.slice a1 xs.length cap1) (.int .i64 zs.length) w fun t33 w => Ld Tryz.prog 3 t33 w fun t34 w => Bn Tryz.prog .add 3 false (.int .i64 c') t34 w fun t35 w => k2 t35 w)
   (k2 (.int .i64 c') w)) (fun t8 w => Jn1 (fun k3 => Bt Tryz.prog .len #[33] 3 #[.slice a2 ys.length cap2] w fun t38 w => Bn Tryz.prog .lss 3 false (.int .i64 zs.length) t38 w fun t39 w => If t39
   (Ia Tryz.prog 33 (.slice a2 ys.length cap2) (.int .i64 zs.length) w fun t43 w => Ld Tryz.prog 3 t43 w fun t44 w => Bn Tryz.prog .add 3 false t8 t44 w fun t45 w => k3 t45 w)
   (k3 t8 w)) (fun t8x1 w => Bn Tryz.prog .rem 3 true t8x1 (.int .i64 10) w fun t48 w => Bs Tryz.prog 33 1 [(0, t48)] w fun t49 w => Bt Tryz.prog .append #[33, 33] 33 #[o, t49] w fun t50 w =>
   Bn Tryz.prog .quo 3 true t8x1 (.int .i64 10) w fun t52 w => Bn Tryz.prog .add 3 true (.int .i64 zs.length) (.int .i64 1) w fun t24 w => (fun b0 b1 b2 w' => I b0 b1 b2 w' ∧ μ b0 b1 b2 w' < μ o (.int .i64 c') (.int .i64 zs.length) W) t50 t52 t24 w)) := by
   refine Jn1.mk fun K hK => ?_
   have g1 : ∀ n1, n1 = c' + dg xs zs.length → K (.int .i64 n1) W := by
    intro n1 hn1
    refine hK _ _ ?_
    refine Jn1.mk fun K2 hK2 => ?_
    have g2 : ∀ n, n = n1 + dg ys zs.length → K2 (.int .i64 n) W := by
     intro n hn
     refine hK2 _ _ ?_
     ((refine Bn_rm ?_ ?_ ?_; (focus omega); (focus omega)))
     have hn0 : 0 ≤ n := by omega
     have hn1' : n ≤ 100 := by omega
     refine ap_one sliI (by decide) ho rfl rfl (by simp; omega) hwsz fun v' W' ho' hb' _ => ?_
     ((refine Bn_qu ?_ ?_ ?_ ?_; (focus omega); (focus omega); (focus omega)); (refine Bn_ad ?_ ?_ ?_; (focus omega); (focus omega)))
     exact fin n (by omega) v' W' ho' hb'
    by_cases h2 : zs.length < ys.length
    ·((refine Bt_lenL ?_ ?_; (focus assumption)); (refine Bn_ltT ?_ ?_; focus omega); refine If_T ?_)
     refine ld44 hyW rfl h2 ?_
     rw [dg_at h2]
     ((refine Bn_ad ?_ ?_ ?_; (focus omega); (focus omega)))
     exact g2 _ rfl
    ·((refine Bt_lenL ?_ ?_; (focus assumption)); (refine Bn_ltF ?_ ?_; focus omega); refine If_F ?_)
     exact g2 _ (by rw [dg_out (by omega)]; omega)
   by_cases h1 : zs.length < xs.length
   ·((refine Bt_lenL ?_ ?_; (focus assumption)); (refine Bn_ltT ?_ ?_; focus omega); refine If_T ?_)
    refine ld44 hxW rfl h1 ?_
    rw [dg_at h1]
    ((refine Bn_ad ?_ ?_ ?_; (focus omega); (focus omega)))
    exact g1 _ rfl
   ·((refine Bt_lenL ?_ ?_; (focus assumption)); (refine Bn_ltF ?_ ?_; focus omega); refine If_F ?_)
    exact g1 _ (by rw [dg_out (by omega)]; omega)
  have hzM : zs.length ≤ 100001 := by omega
  by_cases h1 : zs.length < xs.length
  ·((refine Bt_lenL ?_ ?_; (focus assumption)); (refine Bn_ltT ?_ ?_; focus omega); refine Gd_TF ?_; refine Gd_TF ?_; refine Gd_TF ?_; refine Gd_TF ?_; refine Pick_T ?_; refine Gd_TF ?_; refine Gd_TF ?_; refine Pick_T ?_; refine If_T ?_)
   exact run
  ·by_cases h2 : zs.length < ys.length
   ·((refine Bt_lenL ?_ ?_; (focus assumption)); (refine Bn_ltF ?_ ?_; focus omega); refine Gd_F ?_; refine Gd_F ?_; refine Gd_F ?_; (refine Bt_lenL ?_ ?_; (focus assumption)); refine Gd_F ?_; (refine Bn_ltT ?_ ?_; focus omega); refine Pick_F ?_; refine Gd_TF ?_; refine Gd_TF ?_; refine Pick_T ?_; refine If_T ?_)
    exact run
   ·((refine Bt_lenL ?_ ?_; (focus assumption)); (refine Bn_ltF ?_ ?_; focus omega); refine Gd_F ?_; refine Gd_F ?_; refine Gd_F ?_; (refine Bt_lenL ?_ ?_; (focus assumption)); refine Gd_F ?_; (refine Bn_ltF ?_ ?_; focus omega); refine Pick_F ?_; refine Gd_F ?_; refine Gd_F ?_; (refine Bn_gtT ?_ ?_; focus omega); refine Pick_F ?_; refine If_T ?_)
    exact run
 ·have hc' : c' = 0 := by omega
  have hge : M ≤ zs.length := by omega
  have hzM : zs.length ≤ 100001 := by omega
  ((refine Bt_lenL ?_ ?_; (focus assumption)); (refine Bn_ltF ?_ ?_; focus omega); refine Gd_F ?_; refine Gd_F ?_; refine Gd_F ?_; (refine Bt_lenL ?_ ?_; (focus assumption)); refine Gd_F ?_; (refine Bn_ltF ?_ ?_; focus omega); refine Pick_F ?_; refine Gd_F ?_; refine Gd_F ?_; (refine Bn_gtF ?_ ?_; focus omega); refine Pick_F ?_; refine If_F ?_)
  refine Ret.mk ⟨hW, zs, ho.slAt, ?_, ?_⟩
  ·refine nrm_of_ge hd fun hne => ?_
   have hpos : 0 < zs.length := List.length_pos_iff.2 hne
   rcases htop with h | h
   ·have hzM : zs.length = M := by omega
    rw [hc', List.take_of_length_le (by omega), List.take_of_length_le (by omega)] at hnum
    have h1 := num10_nonneg hx.1
    have h2 := num10_nonneg hy.1
    rw [hzM]
    by_cases hh : xs.length = M
    ·have := hx.ge (by intro hc; rw [hc] at hh; simp at hh; omega)
     rw [hh] at this
     simp at hnum; omega
    ·have hh : ys.length = M := by omega
     have := hy.ge (by intro hc; rw [hc] at hh; simp at hh; omega)
     rw [hh] at this
     simp at hnum; omega
   ·rw [h.1]; simpa using h.2.2
  ·rw [hc', List.take_of_length_le (by omega), List.take_of_length_le (by omega)] at hnum
   simpa using hnum
theorem len_le {xs ys : List Int} (hx : Nrm10 xs) (hy : Nrm10 ys) (h : num10 ys ≤ num10 xs) : ys.length ≤ xs.length := by
 refine Nat.le_of_not_lt fun hc => ?_
 have := hx.lt_of_len hy hc
 omega
theorem c_rminus {w : World} {u v : Value} {xs ys : List Int} (hu : NumL w u xs) (hv : NumL w v ys) (hx : Nrm10 xs) (hy : Nrm10 ys) (hlx : xs.length ≤ 100000) (hle : num10 ys ≤ num10 xs) :
 Calls Tryz.prog 124 #[u, v] w (Ret fun r w' => Ext w w' ∧ DAt w' r (num10 xs - num10 ys) ∧ Fresh w.heap.size r) := by
 have hll := len_le hx hy hle
 obtain ⟨a1, cap1, rfl⟩ := hu.slice
 obtain ⟨a2, cap2, rfl⟩ := hv.slice
 have hL := hL44
 have hp : ∀ i : Nat, (0 : Int) < 10 ^ i := fun i => Int.pow_pos (by decide)
 apply e_ref03_minus
 unfold s_ref03_minus
 obtain ⟨I, hI⟩ : ∃ I : Value → Value → Value → World → Prop, I = (fun o c i W => ∃ (zs : List Int) (c' : Int), i = .int .i64 zs.length ∧ c = .int .i64 c' ∧ Owns W w.heap.size 3 o (zs.map iv) ∧ Ext w W ∧ Dg10 zs ∧ 0 ≤ c' ∧ c' ≤ 1 ∧
  num10 zs = num10 (xs.take zs.length) - num10 (ys.take zs.length) + 10 ^ zs.length * c' ∧ zs.length ≤ xs.length) := ⟨_, rfl⟩
 obtain ⟨μ, hμ⟩ : ∃ μ : Value → Value → Value → World → Nat, μ = (fun _ _ i _ => match i with | .int _ i' => (xs.length - i').toNat | _ => 0) := ⟨_, rfl⟩
 refine Lp3.mk I μ (by rw [hI]; exact ⟨[], 0, rfl, rfl, Owns.nil _ _ _, .refl _, by simp [Dg10], by decide, by decide, by simp [num10], by simp⟩) ?_
 intro o c i W hh
 rw [hI] at hh
 obtain ⟨zs, c', rfl, rfl, ho, hW, hd, hc0, hc1, hnum, htop⟩ := hh
 have hwsz := hW.size
 by_cases hgo : zs.length < xs.length
 ·have bx := dg_bd hx.1 zs.length
  have bY := dg_bd hy.1 zs.length
  have hxW := hu.ext hW
  have hyW := hv.ext hW
  have fin : ∀ d b : Int, 0 ≤ d → d < 10 → 0 ≤ b → b ≤ 1 → d - 10 * b = dg xs zs.length - c' - dg ys zs.length → ∀ v' W', Owns W' w.heap.size 3 v' (zs.map iv ++ [iv d]) → Below w.heap.size W W' →
   I v' (.int .i64 b) (.int .i64 ((zs.length : Int) + 1)) W' ∧ μ v' (.int .i64 b) (.int .i64 ((zs.length : Int) + 1)) W' < μ o (.int .i64 c') (.int .i64 zs.length) W := by
   intro d b hd0 hd1 hb0 hb1 hdb v' W' ho' hb'
   rw [hI, hμ]
   have hpow : (10 : Int) ^ (zs.length + 1) = 10 ^ zs.length * 10 := Int.pow_succ ..
   refine ⟨⟨zs ++ [d], b, by simp, rfl, by simpa using ho', hW.trans hb', ?_, hb0, hb1, ?_, by simp; omega⟩, by simp only []; omega⟩
   ·intro x hx'
    rcases List.mem_append.1 hx' with h | h
    ·exact hd x h
    ·simp at h; omega
   ·rw [show (zs ++ [d]).length = zs.length + 1 from by simp, take_step, take_step, num10_append, hpow]
    have e1 : d = dg xs zs.length - c' - dg ys zs.length + 10 * b := by omega
    have e2 : (10 : Int) ^ zs.length * d = 10 ^ zs.length * dg xs zs.length - 10 ^ zs.length * c' - 10 ^ zs.length * dg ys zs.length + 10 ^ zs.length * 10 * b := by
     conv => lhs; rw [e1]
     grind
    simp only [num10]
    have e4 : (10 : Int) ^ zs.length * (d + 10 * 0) = 10 ^ zs.length * d := by simp
    rw [e4]
    omega
  ((refine Bt_lenL ?_ ?_; (focus assumption)); (refine Bn_ltT ?_ ?_; focus omega); refine If_T ?_)
  refine ld44 hxW rfl hgo ?_
  rw [dg_at hgo]
  ((refine Bn_su ?_ ?_ ?_; (focus omega); (focus omega)))
  refine Jn1.mk fun K hK => ?_
  have g : ∀ n, n = dg xs zs.length - c' - dg ys zs.length → K (.int .i64 n) W := by
   intro n hn
   refine hK _ _ ?_
   by_cases hneg : n < 0
   ·((refine Bn_ltT ?_ ?_; focus omega); refine If_T ?_; (refine Bn_ad ?_ ?_ ?_; (focus omega); (focus omega)))
    refine ap_one sliI (by decide) ho rfl rfl (by simp; omega) hwsz fun v' W' ho' hb' _ => ?_
    ((refine Bn_ad ?_ ?_ ?_; (focus omega); (focus omega)))
    exact fin _ _ (by omega) (by omega) (by omega) (by omega) (by omega) v' W' ho' hb'
   ·((refine Bn_ltF ?_ ?_; focus omega); refine If_F ?_)
    refine ap_one sliI (by decide) ho rfl rfl (by simp; omega) hwsz fun v' W' ho' hb' _ => ?_
    ((refine Bn_ad ?_ ?_ ?_; (focus omega); (focus omega)))
    exact fin _ _ (by omega) (by omega) (by omega) (by omega) (by omega) v' W' ho' hb'
  by_cases h2 : zs.length < ys.length
  ·((refine Bt_lenL ?_ ?_; (focus assumption)); (refine Bn_ltT ?_ ?_; focus omega); refine If_T ?_)
   refine ld44 hyW rfl h2 ?_
   rw [dg_at h2]
   ((refine Bn_su ?_ ?_ ?_; (focus omega); (focus omega)))
   exact g _ rfl
  ·((refine Bt_lenL ?_ ?_; (focus assumption)); (refine Bn_ltF ?_ ?_; focus omega); refine If_F ?_)
   exact g _ (by rw [dg_out (xs := ys) (by omega)]; omega)
 ·((refine Bt_lenL ?_ ?_; (focus assumption)); (refine Bn_ltF ?_ ?_; focus omega); refine If_F ?_)
  refine Cl_i n_ref03_trim (c_rtrim ho.slAt (by omega)) ?_
  rintro r _ ⟨hr, rfl, hfr⟩
  refine Ret.mk ⟨hW, ⟨trimL zs, hr, Nrm10.trimL hd, ?_⟩, hfr _ (Fresh.own ho)⟩
  rw [num10_trimL]
  have hzl : zs.length = xs.length := by omega
  rw [List.take_of_length_le (by omega), List.take_of_length_le (by omega)] at hnum
  have h1 := num10_lt hd
  have h2 := hp zs.length
  by_cases hc : c' = 0
  ·rw [hc] at hnum; simpa using hnum
  ·rw [show c' = 1 from by omega, Int.mul_one] at hnum
   omega
theorem Ix_s {l : List UInt8} {i : Int} {j : Nat} {b : UInt8} {w : World} {K : Value → World → Prop} (hi : i = j) (h : l[j]? = some b) (hl : l.length ≤ 1000000) (hk : K (.int .u8 b.toNat) w) : Ix Tryz.prog 9 (str l) (.int .i64 i) w K := by
 subst hi
 obtain ⟨hj, hb⟩ := List.getElem?_eq_some_iff.1 h
 subst hb
 ((try simp -dsimp [go_sem, size_str]); repeat (simp -dsimp (disch := omega) only [gL, gI]; try simp -dsimp [go_sem, size_str]))
 exact hk
theorem Bn_su8 {x y : Int} {c : Bool} {w : World} {K : Value → World → Prop} (h0 : 0 ≤ x - y) (h1 : x - y < 256) (hk : K (.int .u8 (x - y)) w) : Bn Tryz.prog .sub 5 c (.int .u8 x) (.int .u8 y) w K := by
 have e := wu8 h0 h1
 ((try simp -dsimp [go_sem, e]); repeat (simp -dsimp (disch := omega) only [gL, gI]; try simp -dsimp [go_sem, e]))
 exact hk
theorem Cv_8 {x : Int} {w : World} {K : Value → World → Prop} (h0 : 0 ≤ x) (h1 : x < 256) (hk : K (.int .i64 x) w) : Cv Tryz.prog 5 3 (.int .u8 x) w K := by
 ((try simp -dsimp [go_sem]); repeat (simp -dsimp (disch := omega) only [gL, gI]; try simp -dsimp [go_sem]))
 exact hk
theorem Sc_1 {a : UInt8} {l : List UInt8} {w : World} {K : Value → World → Prop} (hl : l.length ≤ 1000000) (hk : K (str l) w) : Sc Tryz.prog 9 (str (a :: l)) (some (.int .i64 1)) none none w K := by
 have e : (ByteArray.mk (a :: l).toArray).extract 1 (l.length + 1) = ⟨l.toArray⟩ := by
  apply ByteArray.ext
  apply Array.toList_inj.1
  rw [Lib.extract_data]
  simp
 ((try simp -dsimp [go_sem, size_str, e]); repeat (simp -dsimp (disch := omega) only [gL, gI]; try simp -dsimp [go_sem, size_str, e]))
 exact hk
theorem Nrm10.cons {d : Int} {xs : List Int} (h : Nrm10 xs) (hne : xs ≠ []) (hd : 0 ≤ d ∧ d < 10) : Nrm10 (d :: xs) := by
 refine ⟨fun x hx => ?_, ?_⟩
 ·rcases List.mem_cons.1 hx with rfl | hx
  ·exact hd
  ·exact h.1 x hx
 ·simp only [Num.trimL, h.2]
  rw [if_neg (fun hc => hne hc.2)]
theorem ex_txt {u : Nat} (hu : 0 < u) : ∃ xs, Nrm10 xs ∧ num10 xs = u ∧ txt xs = Lib.decDigits u := by
 induction u using Nat.strongRecOn with
 | _ u ih =>
  by_cases h : u < 10
  ·refine ⟨[(u : Int)], ⟨?_, ?_⟩, by simp [num10], ?_⟩
   ·intro x hx; simp at hx; omega
   ·simp only [Num.trimL]; rw [if_neg (by omega)]
   ·rw [dec_lt h]; simp [txt, dch]
  ·obtain ⟨xs, h1, h2, h3⟩ := ih (u / 10) (by omega) (by omega)
   have hne : xs ≠ [] := by
    intro hc; rw [hc] at h2; simp [num10] at h2; omega
   refine ⟨((u % 10 : Nat) : Int) :: xs, h1.cons hne (by omega), ?_, ?_⟩
   ·simp only [num10, h2]; omega
   ·rw [txt_cons, h3, dec_ge h]
    have e : (((u % 10 : Nat) : Int)).toNat = u % 10 := Int.toNat_natCast _
    unfold dch
    rw [e]
theorem Mx4000 : Mx ≤ 10 ^ 4000 := by unfold Mx; decide +kernel
theorem DAt.get {w : World} {v : Value} {n : Int} (h : DAt w v n) (hn : n < Mx) : ∃ xs, NumL w v xs ∧ Nrm10 xs ∧ num10 xs = n ∧ xs.length ≤ 100000 := by
 obtain ⟨xs, h1, h2, h3⟩ := h
 have h4 := h2.len (k := 4000) (by rw [h3]; exact Int.lt_of_lt_of_le hn Mx4000)
 exact ⟨xs, h1, h2, h3, by omega⟩
theorem fits_iff {xs : List Int} (h : Nrm10 xs) : xs.length ≤ 200 ↔ num10 xs < MaxI := by
 have e : ((MaxI : Nat) : Int) = 10 ^ 200 := by unfold MaxI; rfl
 constructor
 ·intro hl
  have h1 := num10_lt h.1
  have h2 := pow10_mono hl
  rw [e]; omega
 ·intro hl
  rw [e] at hl
  exact h.len hl
theorem c_checked {w : World} {v : Value} {n : Int} {neg : Bool} (h : DAt w v n) (hn : n < Mx) :
 Calls Tryz.prog 125 #[.bool neg, v] w (Ret fun r w' => Ext w w' ∧ r = resI (sg neg n)) := by
 obtain ⟨xs, h1, h2, rfl, h4⟩ := h.get hn
 have h0 := num10_nonneg h2.1
 have hf := fits_iff h2
 apply e_ref03_checked
 unfold s_ref03_checked
 refine Cl2 n_ref03_text (c_rtext (neg := neg) h1 h2 (by omega)) fun w1 x1 => ?_
 by_cases hl : xs.length ≤ 200
 ·rw [decide_eq_true hl]
  (refine Un_T ?_; refine If_F ?_)
  refine Ret.mk ⟨x1, ?_⟩
  unfold resI
  rw [if_pos (by rw [natAbs_sg]; have := hf.1 hl; omega)]
 ·rw [decide_eq_false hl]
  (refine Un_F ?_; refine If_T ?_)
  refine Ret.mk ⟨x1, ?_⟩
  unfold resI
  rw [if_neg (by rw [natAbs_sg]; intro hc; exact hl (hf.2 (by omega)))]
def DigR (w : World) (neg : Bool) (n : Int) (r : Value) (w' : World) : Prop := Ext w w' ∧ ∃ v, r = .tuple #[.bool neg, v] ∧ DAt w' v n
theorem DAt.nil (w : World) : DAt w (.slice none 0 0) 0 := ⟨[], .inl ⟨rfl, rfl⟩, ⟨by simp [Dg10], rfl⟩, rfl⟩
theorem dec0 : Lib.decDigits 0 = [48] := dec_lt (by decide)
theorem dec_not48 {u : Nat} (h : u ≠ 0) : (Lib.decDigits u == [48]) = false := by
 rw [beq_eq_false_iff_ne]
 intro hc
 have := dec_head h
 rw [hc] at this
 exact this rfl
theorem c_digits {z : Int} {w : World} (hz : z.natAbs < MaxI) : Calls Tryz.prog 121 #[str (Lib.itoa z)] w (Ret (DigR w (decide (z < 0)) z.natAbs)) := by
 obtain ⟨l, hl⟩ : ∃ l, l = Lib.decDigits z.natAbs := ⟨_, rfl⟩
 have hne : l ≠ [] := by rw [hl]; exact dec_ne _
 have hlen : l.length ≤ 200 := by rw [hl]; exact (dec_len (by decide)).2 (by unfold MaxI at hz; exact hz)
 have hlp : 0 < l.length := List.length_pos_iff.2 hne
 have hS : Tryz.prog.underlying 9 = some .string := Tryz.underlying9
 apply e_ref03_digits
 unfold s_ref03_digits
 have main : ∀ (K : Value → World → Prop) (neg : Bool), neg = decide (z < 0) → (∀ a0 w_1, (Bt Tryz.prog .len #[9] 3 #[a0] w_1 fun t14 w_1 => Bn Tryz.prog .sub 3 true t14 (.int .i64 1) w_1 fun t15 w_1 =>
  Lp2 (.slice none 0 0) t15 w_1 (fun t5 t6 w_1 k2 =>
  Bn Tryz.prog .geq 3 true t6 (.int .i64 0) w_1 fun t17 w_1 =>
  Gd t17 true (fun k => k a0 w_1) w_1 fun t19 w_1 =>
  Gd t17 true (fun k => Bn Tryz.prog .neq 9 true t19 (str [48]) w_1 k) w_1 fun t20 w_1 =>
  Pick t17 t20 (.bool false) w_1 fun t21 w_1 =>
  If t21
  (Ix Tryz.prog 9 a0 t6 w_1 fun t27 w_1 =>
  Bn Tryz.prog .sub 5 true t27 (.int .u8 48) w_1 fun t28 w_1 =>
  Cv Tryz.prog 5 3 t28 w_1 fun t29 w_1 =>
  Bs Tryz.prog 33 1 [(0, t29)] w_1 fun t30 w_1 =>
  Bt Tryz.prog .append #[33, 33] 33 #[t5, t30] w_1 fun t31 w_1 =>
  Bn Tryz.prog .sub 3 true t6 (.int .i64 1) w_1 fun t23 w_1 =>
  k2 t31 t23 w_1)
  (Ret (DigR w (decide (z < 0)) z.natAbs) (.returned (.tuple #[.bool neg, t5])) w_1))) → K a0 w_1) → K (str l) w := by
  intro K neg hneg hK
  refine hK _ _ ?_
  ((refine Bt_lenS ?_ ?_; (focus assumption)); (refine Bn_su ?_ ?_ ?_; (focus omega); (focus omega)))
  by_cases h0 : z.natAbs = 0
  ·have e48 : l = [48] := by rw [hl, h0, dec0]
   rw [e48]
   refine Lp2.mk (fun o i W => W = w ∧ o = .slice none 0 0 ∧ i = .int .i64 0) (fun _ _ _ => 0) ⟨rfl, rfl, rfl⟩ ?_
   rintro o i W ⟨rfl, rfl, rfl⟩
   ((refine Bn_geT ?_ ?_; focus omega); refine Gd_T ?_; refine Gd_T ?_; refine Bn_neST ?_; refine Pick_T ?_; refine If_F ?_)
   refine Ret.mk ⟨.refl _, _, by rw [hneg], ?_⟩
   rw [h0]; exact DAt.nil _
  ·have hn48 : (l == [48]) = false := by rw [hl]; exact dec_not48 h0
   obtain ⟨xs, k1, k2, k3⟩ := ex_txt (u := z.natAbs) (by omega)
   rw [← hl] at k3
   have hxl : xs.length = l.length := by rw [← k3, txt_length]
   obtain ⟨I, hI⟩ : ∃ I : Value → Value → World → Prop, I = (fun o i W => ∃ j : Nat, j ≤ xs.length ∧ i = .int .i64 ((xs.length : Int) - 1 - j) ∧ Owns W w.heap.size 3 o ((xs.take j).map iv) ∧ Ext w W) := ⟨_, rfl⟩
   obtain ⟨μ, hμ⟩ : ∃ μ : Value → Value → World → Nat, μ = (fun _ i _ => match i with | .int _ i' => (i' + 1).toNat | _ => 0) := ⟨_, rfl⟩
   refine Lp2.mk I μ (by rw [hI]; exact ⟨0, by omega, by rw [hxl]; congr 1; omega, Owns.nil _ _ _, .refl _⟩) ?_
   intro o i W hh
   rw [hI] at hh
   obtain ⟨j, hj, rfl, ho, hW⟩ := hh
   have hwsz := hW.size
   by_cases hjj : j = xs.length
   ·((refine Bn_geF ?_ ?_; focus omega); refine Gd_FT ?_; refine Gd_FT ?_; refine Pick_F ?_; refine If_F ?_)
    refine Ret.mk ⟨hW, _, by rw [hneg], xs, ?_, k1, k2⟩
    have := ho.slAt
    rw [hjj, List.take_of_length_le (Nat.le_refl _)] at this
    exact this
   ·have hjlt : j < xs.length := by omega
    have hd := k1.1 (xs[j]) (List.getElem_mem _)
    have hat : l[xs.length - 1 - j]? = some (dch xs[j]) := by
     rw [← k3]
     unfold txt
     rw [List.getElem?_map, List.getElem?_reverse (by omega), show xs.length - 1 - (xs.length - 1 - j) = j from by omega, List.getElem?_eq_getElem hjlt]
     rfl
    have hdn := dch_toNat hd
    ((refine Bn_geT ?_ ?_; focus omega); refine Gd_T ?_; refine Gd_T ?_; (refine Bn_neSF ?_ ?_; focus assumption); refine Pick_T ?_; refine If_T ?_)
    refine Ix_s (j := xs.length - 1 - j) (by omega) hat (by omega) ?_
    rw [hdn]
    refine Bn_su8 (by omega) (by omega) (Cv_8 (by omega) (by omega) ?_)
    refine ap_one sliI (by decide) ho rfl rfl (by simp; omega) hwsz fun v' W' ho' hb' _ => ?_
    ((refine Bn_su ?_ ?_ ?_; (focus omega); (focus omega)))
    rw [hI, hμ]
    refine ⟨⟨j + 1, by omega, by congr 1; omega, ?_, hW.trans hb'⟩, by simp only []; omega⟩
    rw [List.take_add_one, List.getElem?_eq_getElem hjlt, List.map_append]
    have e : ((48 + xs[j].toNat : Nat) : Int) - 48 = xs[j] := by omega
    rw [e] at ho'
    exact ho'
 by_cases hneg : z < 0
 ·have hs : Lib.itoa z = 45 :: l := by unfold Lib.itoa; rw [if_pos hneg, hl]
  rw [hs]
  refine Ix_s (j := 0) (b := 45) rfl rfl (by simp; omega) ?_
  refine Bn_eqT rfl ?_
  refine Jn1.mk fun K hK => ?_
  (refine If_T ?_)
  refine Sc_1 (by omega) ?_
  exact main K true (by simp [hneg]) hK
 ·have hs : Lib.itoa z = l := by unfold Lib.itoa; rw [if_neg hneg, hl, show z.toNat = z.natAbs from by omega]
  obtain ⟨a, l', hal⟩ := List.exists_cons_of_ne_nil hne
  have ha : a.toNat ≠ 45 := by
   intro hc
   have := dec_head45 z.natAbs
   rw [← hl, hal] at this
   exact this (by rw [byte_ext (show a.toNat = (45 : UInt8).toNat from hc)]; rfl)
  rw [hs]
  refine Ix_s (j := 0) (b := a) rfl (by rw [hal]; rfl) (by omega) ?_
  refine Bn_eqF (by omega) (Jn1.mk fun K hK => ?_)
  (refine If_F ?_)
  exact main K false (by simp [hneg]) hK
end Go.Proofs.YtnkmbjedcjcccaaGreatDoor
