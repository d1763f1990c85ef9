/-
  Contracts and plain lemmas. By an AI agent.
-/
import Derived.Test.YthjhkpefammjkaaGreatDoorShA
set_option linter.unusedSimpArgs false
set_option linter.unusedVariables false
set_option linter.unusedSectionVars false
namespace Go.Proofs.YthjhkpefammjkaaGreatDoor
open Go Go.Eng Go.Proofs Go.Num Go.RowKit Go.Shr
set_option maxRecDepth 100000
theorem q_inj {x y : Rat} (h1 : eN (some x) = eN (some y)) (h2 : eD (some x) = eD (some y)) : x = y := by
 have h1 := itoa_inj (show Lib.itoa x.num = Lib.itoa y.num from h1)
 have h2 := itoa_inj (show Lib.itoa (x.den : Int) = Lib.itoa (y.den : Int) from h2)
 exact Rat.ext h1 (by omega)
theorem qe_t (x : Rat) : (eN (some x) == eN (some x) && eD (some x) == eD (some x)) = true := by simp
theorem qe_f {x y : Rat} (h : x ≠ y) : (eN (some x) == eN (some y) && eD (some x) == eD (some y)) = false := by
 rw [Bool.and_eq_false_iff, beq_eq_false_iff_ne, beq_eq_false_iff_ne]
 refine Classical.byContradiction fun hc => h ?_
 have hc := not_or.1 hc
 exact q_inj (Classical.not_not.1 hc.1) (Classical.not_not.1 hc.2)
theorem take_ne {α : Type} {xs ys : List α} {j : Nat} {x y : α} (hx : xs[j]? = some x) (hy : ys[j]? = some y) (h : x ≠ y) : xs ≠ ys := by
 intro e; rw [e, hy] at hx; exact h (Option.some.inj hx).symm
section
variable {w0 : World} {v u : Value} {xs ys : List Rat} (hv : SlC w0 2 v xs.length (qC xs)) (hu : SlC w0 2 u ys.length (qC ys)) (hx : xs.length ≤ 1000000) (hy : ys.length ≤ 1000000)
include hv hu hx hy
theorem c_SameQ {b : Bool} (hb : b = true ↔ xs = ys) : Calls Tryz.prog 53 #[v, u] w0 (Ret fun r w' => Ext w0 w' ∧ r = .bool b) := by
 by_cases hl : xs.length = ys.length
 rotate_left
 ·have e : b = false := by
   cases b
   ·rfl
   ·exact absurd (congrArg List.length (hb.1 rfl)) hl
  subst e
  apply e_ref25_SameShares
  unfold s_ref25_SameShares
  have h := Hp.init [] w0
  refine leS (hv.hp h) ?_
  refine leS (hu.hp h) ?_
  refine Bn_neT (by omega) (If_T ?_)
  exact Ret.mk ⟨h.ext, rfl⟩
 apply e_ref25_SameShares
 unfold s_ref25_SameShares
 have h := Hp.init [] w0
 refine leS (hv.hp h) ?_
 refine leS (hu.hp h) ?_
 refine Bn_neF (by omega) (If_F (Lp1.mk (fun i W => ∃ j : Nat, j ≤ xs.length ∧ i = .int .i64 j ∧ xs.take j = ys.take j ∧ Hp [] w0 W []) (fun i _ => match i with | .int _ i' => xs.length - i'.toNat | _ => 0) ⟨0, by omega, rfl, rfl, h⟩ ?_))
 clear h
 rintro _ W ⟨j, hj, rfl, ht, h⟩
 by_cases hjl : j < xs.length
 ·refine Exists.elim (p := fun x => xs[j]? = some x) ⟨_, List.getElem?_eq_getElem hjl⟩ fun x hxj => ?_
  refine Exists.elim (p := fun y => ys[j]? = some y) ⟨_, List.getElem?_eq_getElem (by omega)⟩ fun y hyj => ?_
  have sx : Seg (qC xs) (j * 2) (fO (some x)) := flat_seg (f := fun x : Rat => fO (some x)) (fun _ => rfl) hxj
  have sy : Seg (qC ys) (j * 2) (fO (some y)) := flat_seg (f := fun x : Rat => fO (some x)) (fun _ => rfl) hyj
  by_cases hxy : x = y
  ·have e := qe_t y
   subst hxy
   refine leS (hv.hp h) ?_
   refine Bn_ltT (by omega) (If_T ?_)
   replace h := h.dr
   refine diH h ‹_› (by omega) fun zb zo zk zv zc => ?_
   refine dhA h ‹_› ‹_› (by rfl) ?_
   refine diH h ‹_› (by omega) fun zb zo zk zv zc => ?_
   refine dhA h ‹_› ‹_› (by rfl) ?_
   refine dqNeF ‹_› ?_
   refine If_F (Bn_ad (by omega) (by omega) ?_)
   exact ⟨⟨j + 1, by omega, rfl, by rw [take_snoc hxj, take_snoc hyj, ht], h⟩, by show xs.length - ((j : Int) + 1).toNat < xs.length - (j : Int).toNat; omega⟩
  ·have e := qe_f hxy
   have e2 : b = false := by
    cases b
    ·rfl
    ·exact absurd (hb.1 rfl) (take_ne hxj hyj hxy)
   subst e2
   refine leS (hv.hp h) ?_
   refine Bn_ltT (by omega) (If_T ?_)
   replace h := h.dr
   refine diH h ‹_› (by omega) fun zb zo zk zv zc => ?_
   refine dhA h ‹_› ‹_› (by rfl) ?_
   refine diH h ‹_› (by omega) fun zb zo zk zv zc => ?_
   refine dhA h ‹_› ‹_› (by rfl) ?_
   refine dqNeT ‹_› ?_
   refine If_T ?_
   exact Ret.mk ⟨h.ext, rfl⟩
 rw [List.take_of_length_le (by omega), List.take_of_length_le (by omega)] at ht
 have e2 : b = true := hb.2 ht
 subst e2
 refine leS (hv.hp h) ?_
 refine Bn_ltF (by omega) (If_F ?_)
 exact Ret.mk ⟨h.ext, rfl⟩
theorem c_EqualQ {b : Bool} (hb : b = true ↔ xs = ys) : Calls Tryz.prog 55 #[v, u] w0 (Ret fun r w' => Ext w0 w' ∧ r = .bool b) := by
 by_cases hl : xs.length = ys.length
 rotate_left
 ·have e : b = false := by
   cases b
   ·rfl
   ·exact absurd (congrArg List.length (hb.1 rfl)) hl
  subst e
  apply e_slices_Equal_api_Ratio_api_Ratio
  unfold s_slices_Equal_api_Ratio_api_Ratio
  have h := Hp.init [] w0
  refine leS (hv.hp h) ?_
  refine leS (hu.hp h) ?_
  refine Bn_neT (by omega) (If_T ?_)
  exact Ret.mk ⟨h.ext, rfl⟩
 apply e_slices_Equal_api_Ratio_api_Ratio
 unfold s_slices_Equal_api_Ratio_api_Ratio
 have h := Hp.init [] w0
 refine leS (hv.hp h) ?_
 refine leS (hu.hp h) ?_
 refine Bn_neF (by omega) (If_F (leS (hv.hp h) ?_))
 refine Lp1.mk (fun i W => ∃ j : Nat, j ≤ xs.length ∧ i = .int .i64 j ∧ xs.take j = ys.take j ∧ Hp [] w0 W []) (fun i _ => match i with | .int _ i' => xs.length - i'.toNat | _ => 0) ⟨0, by omega, rfl, rfl, h⟩ ?_
 clear h
 rintro _ W ⟨j, hj, rfl, ht, h⟩
 by_cases hjl : j < xs.length
 ·refine Exists.elim (p := fun x => xs[j]? = some x) ⟨_, List.getElem?_eq_getElem hjl⟩ fun x hxj => ?_
  refine Exists.elim (p := fun y => ys[j]? = some y) ⟨_, List.getElem?_eq_getElem (by omega)⟩ fun y hyj => ?_
  have sx : Seg (qC xs) (j * 2) (fO (some x)) := flat_seg (f := fun x : Rat => fO (some x)) (fun _ => rfl) hxj
  have sy : Seg (qC ys) (j * 2) (fO (some y)) := flat_seg (f := fun x : Rat => fO (some x)) (fun _ => rfl) hyj
  by_cases hxy : x = y
  ·have e := qe_t y
   subst hxy
   refine Bn_ltT (by omega) (If_T ?_)
   replace h := h.dr
   refine diH h ‹_› (by omega) fun zb zo zk zv zc => ?_
   refine dhA h ‹_› ‹_› (by rfl) ?_
   refine diH h ‹_› (by omega) fun zb zo zk zv zc => ?_
   refine dhA h ‹_› ‹_› (by rfl) ?_
   refine dqNeF ‹_› ?_
   refine If_F (Bn_ad (by omega) (by omega) ?_)
   exact ⟨⟨j + 1, by omega, rfl, by rw [take_snoc hxj, take_snoc hyj, ht], h⟩, by show xs.length - ((j : Int) + 1).toNat < xs.length - (j : Int).toNat; omega⟩
  ·have e := qe_f hxy
   have e2 : b = false := by
    cases b
    ·rfl
    ·exact absurd (hb.1 rfl) (take_ne hxj hyj hxy)
   subst e2
   refine Bn_ltT (by omega) (If_T ?_)
   replace h := h.dr
   refine diH h ‹_› (by omega) fun zb zo zk zv zc => ?_
   refine dhA h ‹_› ‹_› (by rfl) ?_
   refine diH h ‹_› (by omega) fun zb zo zk zv zc => ?_
   refine dhA h ‹_› ‹_› (by rfl) ?_
   refine dqNeT ‹_› ?_
   refine If_T ?_
   exact Ret.mk ⟨h.ext, rfl⟩
 rw [List.take_of_length_le (by omega), List.take_of_length_le (by omega)] at ht
 have e2 : b = true := hb.2 ht
 subst e2
 refine Bn_ltF (by omega) (If_F ?_)
 exact Ret.mk ⟨h.ext, rfl⟩
theorem c_same {b : Bool} (hb : b = true ↔ xs = ys) : Calls Tryz.prog 19 #[v, u] w0 (Ret fun r w' => Ext w0 w' ∧ r = .bool b) := by
 have cc1 := fun {W : World} (e : Ext w0 W) => c_SameQ (w0 := W) (hv.ext e) (hu.ext e) hx hy hb
 apply e_law25_same
 unfold s_law25_same
 have h := Hp.init [] w0
 refine cl1 h n_ref25_SameShares (cc1 h.ext) fun w h => ?_
 exact Ret.mk ⟨h.ext, rfl⟩
end
section
variable {w0 : World} {v u : Value} {xs ys : List Int} (hv : SlC w0 1 v xs.length (xs.flatMap fI)) (hu : SlC w0 1 u ys.length (ys.flatMap fI)) (hx : xs.length ≤ 1000000) (hy : ys.length ≤ 1000000)
include hv hu hx hy
theorem c_ints {b : Bool} (hb : b = true ↔ xs = ys) : Calls Tryz.prog 21 #[v, u] w0 (Ret fun r w' => Ext w0 w' ∧ r = .bool b) := by
 by_cases hl : xs.length = ys.length
 rotate_left
 ·have e : b = false := by
   cases b
   ·rfl
   ·exact absurd (congrArg List.length (hb.1 rfl)) hl
  subst e
  apply e_law25_ints
  unfold s_law25_ints
  have h := Hp.init [] w0
  refine leS (hv.hp h) ?_
  refine leS (hu.hp h) ?_
  refine Bn_neT (by omega) (If_T ?_)
  exact Ret.mk ⟨h.ext, rfl⟩
 apply e_law25_ints
 unfold s_law25_ints
 have h := Hp.init [] w0
 refine leS (hv.hp h) ?_
 refine leS (hu.hp h) ?_
 refine Bn_neF (by omega) (If_F (Lp1.mk (fun i W => ∃ j : Nat, j ≤ xs.length ∧ i = .int .i64 j ∧ xs.take j = ys.take j ∧ Hp [] w0 W []) (fun i _ => match i with | .int _ i' => xs.length - i'.toNat | _ => 0) ⟨0, by omega, rfl, rfl, h⟩ ?_))
 clear h
 rintro _ W ⟨j, hj, rfl, ht, h⟩
 by_cases hjl : j < xs.length
 ·refine Exists.elim (p := fun x => xs[j]? = some x) ⟨_, List.getElem?_eq_getElem hjl⟩ fun x hxj => ?_
  refine Exists.elim (p := fun y => ys[j]? = some y) ⟨_, List.getElem?_eq_getElem (by omega)⟩ fun y hyj => ?_
  have sx : Seg (xs.flatMap fI) (j * 1) (fI x) := flat_seg (f := fI) (fun _ => rfl) hxj
  have sy : Seg (ys.flatMap fI) (j * 1) (fI y) := flat_seg (f := fI) (fun _ => rfl) hyj
  by_cases hxy : x = y
  ·subst hxy
   refine leS (hv.hp h) ?_
   refine Bn_ltT (by omega) (If_T ?_)
   replace h := h.dr
   refine diH h ‹_› (by omega) fun zb zo zk zv zc => ?_
   refine dh0 h ‹_› ‹_› (by rfl) ?_
   refine diH h ‹_› (by omega) fun zb zo zk zv zc => ?_
   refine dh0 h ‹_› ‹_› (by rfl) ?_
   refine Dv_neF (by omega) (If_F (Bn_ad (by omega) (by omega) ?_))
   exact ⟨⟨j + 1, by omega, rfl, by rw [take_snoc hxj, take_snoc hyj, ht], h⟩, by show xs.length - ((j : Int) + 1).toNat < xs.length - (j : Int).toNat; omega⟩
  ·have e2 : b = false := by
    cases b
    ·rfl
    ·exact absurd (hb.1 rfl) (take_ne hxj hyj hxy)
   subst e2
   refine leS (hv.hp h) ?_
   refine Bn_ltT (by omega) (If_T ?_)
   replace h := h.dr
   refine diH h ‹_› (by omega) fun zb zo zk zv zc => ?_
   refine dh0 h ‹_› ‹_› (by rfl) ?_
   refine diH h ‹_› (by omega) fun zb zo zk zv zc => ?_
   refine dh0 h ‹_› ‹_› (by rfl) ?_
   refine Dv_neT (by omega) (If_T ?_)
   exact Ret.mk ⟨h.ext, rfl⟩
 rw [List.take_of_length_le (by omega), List.take_of_length_le (by omega)] at ht
 have e2 : b = true := hb.2 ht
 subst e2
 refine leS (hv.hp h) ?_
 refine Bn_ltF (by omega) (If_F ?_)
 exact Ret.mk ⟨h.ext, rfl⟩
end
section
variable {w0 : World} {v : Value} {l : List Int} (hv : SlC w0 1 v l.length (l.flatMap fI)) (hl : l.length ≤ 1000000)
include hv hl
theorem c_ShapleyE (hno : ¬ ∃ n, n ≤ 6 ∧ l.length = 2 ^ n ∧ ∀ x ∈ l, wOk x) : Calls Tryz.prog 13 #[v] w0 (Ret fun r w' => Ext w0 w' ∧ r = .tuple #[.slice none 0 0, .int .i64 250]) := by
 apply e_share_Shapley
 unfold s_share_Shapley
 have h := Hp.init [] w0
 refine Cl_i n_share_causes (c_causesF hv (by omega) hno) ?_
 rintro _ w ⟨x, z, rfl⟩
 have h := h.x x
 refine Ex2 (Un_F (If_T ?_))
 exact Ret.mk ⟨h.ext, rfl⟩
theorem c_Check {n : Nat} (hn : n ≤ 6) (hln : l.length = 2 ^ n) (hw : ∀ x ∈ l, wOk x) (hT : Tab w0) (hF : FacV w0) {u : Value} {ys : List Rat} (hu : SlC w0 2 u ys.length (qC ys)) (hy : ys.length ≤ 1000000) {b : Bool} (hb : b = true ↔ shrs n l = ys) :
 Calls Tryz.prog 24 #[v, u] w0 (Ret fun r w' => Ext w0 w' ∧ r = .bool b) := by
 apply e_share_Check
 unfold s_share_Check
 have h := Hp.init [] w0
 refine Cl_i n_share_Shapley (c_Shapley hv hn hln hw hT hF) ?_
 rintro _ w ⟨a, rfl, h⟩
 have hll : (shrs n l).length = n := by simp [shrs]
 have hs : SlC w 2 a (shrs n l).length (qC (shrs n l)) := by rw [hll]; exact h.sl (i := 0) rfl
 have hx := h.ext
 have cc1 := fun {W : World} (e : Ext w W) => c_EqualQ (w0 := W) (hs.ext e) ((hu.ext hx).ext e) (by omega) hy hb
 have h := Hp.init [] w
 cases b
 ·refine Ex2 (Bn_eqT (by omega) (Gd_T (Gd_T (Gd_T (cl1 h n_slices_Equal_api_Ratio_api_Ratio (cc1 h.ext) fun w h => ?_)))))
  refine Pick_T ?_
  exact Ret.mk ⟨hx.tr h.ext, rfl⟩
 ·refine Ex2 (Bn_eqT (by omega) (Gd_T (Gd_T (Gd_T (cl1 h n_slices_Equal_api_Ratio_api_Ratio (cc1 h.ext) fun w h => ?_)))))
  refine Pick_T ?_
  exact Ret.mk ⟨hx.tr h.ext, rfl⟩
end
theorem shrs_get {n i : Nat} {l : List Int} (h : i < n) : (shrs n l)[i]? = some (shr n l i) := by simp [shrs, h]
section
variable {w0 : World} {v : Value} {l : List Int} {n : Nat} (hn : n ≤ 6) (hln : l.length = 2 ^ n) (hw : ∀ x ∈ l, wOk x) (hv : SlC w0 2 v n (qC (shrs n l))) (hT : Tab w0)
include hn hln hw hv hT
end
theorem or_bit {n i s : Nat} (hn : n ≤ 6) (hi : i < n) (hs : s < 2 ^ n) (h : s / 2 ^ i % 2 = 0) : (s ||| 2 ^ i) = s + 2 ^ i ∧ s + 2 ^ i < 2 ^ n := (ones_free hn hi hs h).2
section
variable {w0 : World} {v : Value} {l : List Int} (hv : SlC w0 1 v l.length (l.flatMap fI)) {n i j : Nat} (hn : n ≤ 6) (hln : l.length = 2 ^ n) (hi : i < n) (hj : j < n)
include hv hn hln hi hj
set_option maxHeartbeats 4000000 in
theorem c_alike {b : Bool} (hb : b = true ↔ Alk n l i j) : Calls Tryz.prog 44 #[v, .int .i64 i, .int .i64 j] w0 (Ret fun r w' => Ext w0 w' ∧ r = .bool b) := by
 have hl64 : l.length ≤ 64 := by
  rw [hln]; exact Nat.pow_le_pow_right (n := 2) (by decide) hn
 apply e_share_alike
 unfold s_share_alike
 have h := Hp.init [] w0
 refine leS (hv.hp h) ?_
 refine Lp1.mk (fun x W => ∃ s : Nat, s ≤ l.length ∧ x = .int .i64 s ∧ (∀ t, t < s → t / 2 ^ i % 2 = 0 → t / 2 ^ j % 2 = 0 → g l (t + 2 ^ i) = g l (t + 2 ^ j)) ∧ Hp [] w0 W []) (fun x _ => match x with | .int _ x => l.length - x.toNat | _ => 0) ⟨0, by omega, rfl, fun t h => absurd h (Nat.not_lt_zero t), h⟩ ?_
 clear h
 rintro _ W ⟨s, hs, rfl, hall, h⟩
 by_cases hsl : s < l.length
 ·have d1 : s / 2 ^ i ≤ s := Nat.div_le_self _ _
  have d2 : s / 2 ^ j ≤ s := Nat.div_le_self _ _
  have p63 : (64 : Nat) < 2 ^ 63 := by decide
  refine Bn_ltT (by omega) (If_T ?_)
  replace h := h.dr
  refine dvBx (fun w K hk => Bn_sr (by omega) hk) ?_
  refine dvBx (fun w K hk => Bn_an1 (Nat.lt_of_le_of_lt (show s / 2 ^ i ≤ 64 by omega) p63) hk) ?_
  by_cases h1 : s / 2 ^ i % 2 = 0
  ·by_cases h2 : s / 2 ^ j % 2 = 0
   ·have o1 := (or_bit hn hi (show s < 2 ^ n by omega) h1).1
    have o2 := (or_bit hn hi (show s < 2 ^ n by omega) h1).2
    have o3 := (or_bit hn hj (show s < 2 ^ n by omega) h2).1
    have o4 := (or_bit hn hj (show s < 2 ^ n by omega) h2).2
    have s1 : Seg (l.flatMap fI) ((s + 2 ^ i) * 1) (fI (g l (s + 2 ^ i))) := flat_seg (f := fI) (fun _ => rfl) (g_get (by omega))
    have s2 : Seg (l.flatMap fI) ((s + 2 ^ j) * 1) (fI (g l (s + 2 ^ j))) := flat_seg (f := fI) (fun _ => rfl) (g_get (by omega))
    refine Dv_eqT (by omega) (GdP_T (GdP_T (GdP_T (dvBx (fun w K hk => Bn_sr (by omega) hk) ?_))))
    refine GdP_T (dvBx (fun w K hk => Bn_an1 (Nat.lt_of_le_of_lt (show s / 2 ^ j ≤ 64 by omega) p63) hk) ?_)
    refine GdP_T (Dv_eqT (by omega) (PickP_T (GdP_T (GdP_T (GdP_T (GdP_T (dvBx (fun w K hk => Bn_sl1 (j := i) (by omega) hk) ?_)))))))
    refine GdP_T (dvBx (v := .int .i64 ((s + 2 ^ i : Nat) : Int)) (fun w K hk => Bn_or (a := s) (b := 2 ^ i) (Nat.lt_of_le_of_lt (show s ≤ 64 by omega) p63) (Nat.lt_of_le_of_lt (show 2 ^ i ≤ 64 by omega) p63) (by rw [o1]; exact hk)) ?_)
    refine GdP_T (diH h ‹_› (by omega) fun zb zo zk zv zc => ?_)
    refine GdP_T (dh0 h ‹_› ‹_› (by rfl) ?_)
    refine GdP_T (GdP_T (GdP_T (GdP_T (dvBx (fun w K hk => Bn_sl1 (j := j) (by omega) hk) ?_))))
    refine GdP_T (dvBx (v := .int .i64 ((s + 2 ^ j : Nat) : Int)) (fun w K hk => Bn_or (a := s) (b := 2 ^ j) (Nat.lt_of_le_of_lt (show s ≤ 64 by omega) p63) (Nat.lt_of_le_of_lt (show 2 ^ j ≤ 64 by omega) p63) (by rw [o3]; exact hk)) ?_)
    by_cases hg : g l (s + 2 ^ i) = g l (s + 2 ^ j)
    ·refine GdP_T (diH h ‹_› (by omega) fun zb zo zk zv zc => ?_)
     refine GdP_T (dh0 h ‹_› ‹_› (by rfl) ?_)
     refine GdP_T (Dv_neF (by omega) (PickP_T (If_F (Bn_ad (by omega) (by omega) ?_))))
     refine ⟨⟨s + 1, by omega, rfl, fun t ht a c => ?_, h⟩, by show l.length - ((s : Int) + 1).toNat < l.length - (s : Int).toNat; omega⟩
     by_cases e : t = s
     ·subst e; exact hg
     ·exact hall t (by omega) a c
    ·have e2 : b = false := by
      cases b
      ·rfl
      ·exact absurd (hb.1 rfl s (by omega) h1 h2) hg
     subst e2
     refine GdP_T (diH h ‹_› (by omega) fun zb zo zk zv zc => ?_)
     refine GdP_T (dh0 h ‹_› ‹_› (by rfl) ?_)
     refine GdP_T (Dv_neT (by omega) (PickP_T (If_T ?_)))
     exact Ret.mk ⟨h.ext, rfl⟩
   ·refine Dv_eqT (by omega) (GdP_T (GdP_T (GdP_T (dvBx (fun w K hk => Bn_sr (by omega) hk) ?_))))
    refine GdP_T (dvBx (fun w K hk => Bn_an1 (Nat.lt_of_le_of_lt (show s / 2 ^ j ≤ 64 by omega) p63) hk) ?_)
    refine GdP_T (Dv_eqF (by omega) (PickP_T (GdP_FT (GdP_FT (GdP_FT (GdP_FT (GdP_FT (GdP_FT (GdP_FT (GdP_FT (GdP_FT (GdP_FT (GdP_FT (GdP_FT (GdP_FT (GdP_FT (GdP_FT (PickP_F (If_F (Bn_ad (by omega) (by omega) ?_))))))))))))))))))))
    refine ⟨⟨s + 1, by omega, rfl, fun t ht a c => ?_, h⟩, by show l.length - ((s : Int) + 1).toNat < l.length - (s : Int).toNat; omega⟩
    by_cases e : t = s
    ·subst e; exact absurd c h2
    ·exact hall t (by omega) a c
  ·refine Dv_eqF (by omega) (GdP_FT (GdP_FT (GdP_FT (GdP_FT (GdP_FT (PickP_F (GdP_FT (GdP_FT (GdP_FT (GdP_FT (GdP_FT (GdP_FT (GdP_FT (GdP_FT (GdP_FT (GdP_FT (GdP_FT (GdP_FT (GdP_FT (GdP_FT (GdP_FT (PickP_F (If_F (Bn_ad (by omega) (by omega) ?_))))))))))))))))))))))))
   refine ⟨⟨s + 1, by omega, rfl, fun t ht a c => ?_, h⟩, by show l.length - ((s : Int) + 1).toNat < l.length - (s : Int).toNat; omega⟩
   by_cases e : t = s
   ·subst e; exact absurd a h1
   ·exact hall t (by omega) a c
 ·refine Bn_ltF (by omega) (If_F ?_)
  refine Ret.mk ⟨h.ext, ?_⟩
  rw [hb.2 fun t ht => hall t (by omega)]
end
abbrev fN (x : Nat) : List Value := [.int .i64 (x : Int)]
theorem many_snoc (l : List Nat) (k : Nat) : many (l ++ [k]) = ((many l).1 * (k + 1), (many l).2 + k) := by simp [many, List.foldl_append]
theorem many_le {ks : List Nat} (h : ∀ k ∈ ks, k ≤ 10) : (many ks).1 ≤ 11 ^ ks.length ∧ (many ks).2 ≤ 10 * ks.length := by
 generalize hn : ks.length = n
 induction n generalizing ks with
 | zero => rw [List.length_eq_zero_iff.1 hn]; exact ⟨Nat.le_refl _, Nat.le_refl _⟩
 | succ n ih =>
  have hne : ks ≠ [] := by intro e; rw [e] at hn; cases hn
  obtain ⟨q, j, rfl⟩ : ∃ q j, ks = q ++ [j] := ⟨ks.dropLast, ks.getLast hne, (List.dropLast_concat_getLast hne).symm⟩
  rw [List.length_append, List.length_singleton] at hn
  have h1 := ih (ks := q) (fun k hk => h k (List.mem_append_left _ hk)) (by omega)
  have h2 := h j (by simp)
  rw [many_snoc]
  refine ⟨?_, by show (many q).2 + j ≤ 10 * (n + 1); omega⟩
  rw [Nat.pow_succ]
  exact Nat.mul_le_mul h1.1 (by omega)
section
variable {w0 : World} {v : Value} {ks : List Nat} (hv : SlC w0 1 v ks.length (ks.flatMap fN)) (hl : ks.length ≤ 7) (hk : ∀ k ∈ ks, k ≤ 10)
include hv hl hk
theorem c_many : Calls Tryz.prog 50 #[v] w0 (Ret fun r w' => Ext w0 w' ∧ r = .tuple #[.int .i64 ((many ks).1 : Nat), .int .i64 ((many ks).2 : Nat)]) := by
 apply e_share_many
 unfold s_share_many
 have h := Hp.init [] w0
 refine leS (hv.hp h) ?_
 refine Lp3.mk (fun a b x W => ∃ j : Nat, j ≤ ks.length ∧ x = .int .i64 j ∧ a = .int .i64 ((many (ks.take j)).1 : Nat) ∧ b = .int .i64 ((many (ks.take j)).2 : Nat) ∧ Hp [] w0 W []) (fun _ _ x _ => match x with | .int _ x => ks.length - x.toNat | _ => 0) ⟨0, by omega, rfl, rfl, rfl, h⟩ ?_
 clear h
 rintro _ _ _ W ⟨j, hj, rfl, rfl, rfl, h⟩
 by_cases hjl : j < ks.length
 ·refine Exists.elim (p := fun x => ks[j]? = some x) ⟨_, List.getElem?_eq_getElem hjl⟩ fun x hx => ?_
  have sx : Seg (ks.flatMap fN) (j * 1) (fN x) := flat_seg (f := fN) (fun _ => rfl) hx
  have hx10 := hk x (List.mem_of_getElem? hx)
  have hm := many_le (ks := ks.take j) fun k h => hk k (List.mem_of_mem_take h)
  have hp : 11 ^ (ks.take j).length ≤ 11 ^ 7 := Nat.pow_le_pow_right (by decide) (by rw [List.length_take]; omega)
  have hp7 : (11 : Nat) ^ 7 = 19487171 := by decide
  have hm1 : (many (ks.take j)).1 ≤ 19487171 := by omega
  have hm2 : (many (ks.take j)).2 ≤ 100 := by have := hm.2; rw [List.length_take] at this; omega
  have es := many_snoc (ks.take j) x
  rw [← take_snoc hx] at es
  have hmu : (((many (ks.take j)).1 : Nat) : Int) * ((x : Int) + 1) = (((many (ks.take (j + 1))).1 : Nat) : Int) := by
   rw [es]
   show _ = (((many (ks.take j)).1 * (x + 1) : Nat) : Int)
   rw [Int.natCast_mul]; rfl
  have hm3 : (many (ks.take (j + 1))).1 ≤ 19487171 * 11 := by rw [es]; exact Nat.mul_le_mul hm1 (by omega)
  have hm4 : (many (ks.take (j + 1))).2 = (many (ks.take j)).2 + x := by rw [es]
  clear hm hp es
  refine Bn_ltT (by omega) (If_T (iaH h ‹_› (by omega) fun zb zo zk zv zc => ?_))
  refine lh0 h ‹_› ‹_› (by rfl) ?_
  refine Bn_ad (by omega) (by omega) (Bn_mu (by omega) (by omega) (Bn_ad (by omega) (by omega) (Bn_ad (by omega) (by omega) ?_)))
  refine ⟨⟨j + 1, by omega, rfl, by rw [hmu], by rw [hm4]; rfl, h⟩, by show ks.length - ((j : Int) + 1).toNat < ks.length - (j : Int).toNat; omega⟩
 ·rw [show j = ks.length by omega, List.take_length]
  refine Bn_ltF (by omega) (If_F ?_)
  exact Ret.mk ⟨h.ext, rfl⟩
theorem c_counts {ix : Nat} (hix : ix ≤ 1000000000) : Calls Tryz.prog 51 #[v, .int .i64 ix] w0 (Ret fun r w' => ∃ u, r = u ∧ Hp [] w0 w' [ro tI 1 u ks.length ((cnt ks ix).flatMap fN)]) := by
 apply e_share_counts
 unfold s_share_counts
 have h := Hp.init [] w0
 refine leS (hv.hp h) ?_
 replace h := h.nil tI 1
 refine Lp3.mk (fun a u x W => ∃ (j y : Nat) (L : List Nat), j ≤ ks.length ∧ x = .int .i64 j ∧ a = .int .i64 y ∧ y ≤ ix ∧ cnt ks ix = L ++ cnt (ks.drop j) y ∧ Hp [] w0 W [ro tI 1 u j (L.flatMap fN)]) (fun _ _ x _ => match x with | .int _ x => ks.length - x.toNat | _ => 0) ⟨0, ix, [], by omega, rfl, rfl, Nat.le_refl _, rfl, h⟩ ?_
 clear h
 rintro _ u _ W ⟨j, y, L, hj, rfl, rfl, hy, hc, h⟩
 by_cases hjl : j < ks.length
 ·refine Exists.elim (p := fun x => ks[j]? = some x) ⟨_, List.getElem?_eq_getElem hjl⟩ fun x hx => ?_
  have sx : Seg (ks.flatMap fN) (j * 1) (fN x) := flat_seg (f := fN) (fun _ => rfl) hx
  have hx10 := hk x (List.mem_of_getElem? hx)
  have hd : ks.drop j = x :: ks.drop (j + 1) := by
   rw [List.drop_eq_getElem_cons hjl]
   rw [List.getElem?_eq_getElem hjl] at hx
   rw [Option.some.inj hx]
  have hc2 : cnt ks ix = (L ++ [y % (x + 1)]) ++ cnt (ks.drop (j + 1)) (y / (x + 1)) := by
   rw [hc, hd, List.append_assoc]; rfl
  have hy2 : y / (x + 1) ≤ y := Nat.div_le_self _ _
  have e1 : (y : Int) % ((x : Int) + 1) = ((y % (x + 1) : Nat) : Int) := rfl
  have e2 : (y : Int) / ((x : Int) + 1) = ((y / (x + 1) : Nat) : Int) := rfl
  clear hc hd
  refine Bn_ltT (by omega) (If_T (iaH h ‹_› (by omega) fun zb zo zk zv zc => ?_))
  refine lh0 h ‹_› ‹_› (by rfl) ?_
  refine Bn_ad (by omega) (by omega) (Bn_rm (by omega) (by omega) (bs1A h (by rfl) (by decide) (by rfl) (by decide) fun v1 w h => ?_))
  refine apR (by rfl) (by decide) h 1 rfl (qZ 0 h rfl) (by first | rfl | assumption) (by omega) fun v2 w h => ?_
  refine Bn_ad (by omega) (by omega) (Bn_qu (by omega) (by omega) (by omega) (Bn_ad (by omega) (by omega) ?_))
  dsimp only [List.set] at h
  refine ⟨⟨j + 1, y / (x + 1), L ++ [y % (x + 1)], by omega, rfl, by rw [e2], by omega, hc2, ?_⟩, by show ks.length - ((j : Int) + 1).toNat < ks.length - (j : Int).toNat; omega⟩
  rw [List.flatMap_append]
  exact h.pick [1] (by decide) rfl
 ·have e : ks.drop j = [] := List.drop_eq_nil_of_le (by omega)
  rw [e] at hc
  have e2 : cnt ks ix = L := by rw [hc]; simp [cnt]
  have e3 : j = ks.length := by omega
  rw [e2]
  subst e3
  refine Bn_ltF (by omega) (If_F ?_)
  exact Ret.mk ⟨_, rfl, h⟩
end
theorem c_choose {w0 : World} {n k : Nat} (hn : n ≤ 10) (hk : k ≤ n) (hF : FacV w0) : Calls Tryz.prog 85 #[.int .i64 n, .int .i64 k] w0 (Ret fun r w' => Ext w0 w' ∧ r = .int .i64 (cho n k : Nat)) := by
 have p1 := fac_le (show n ≤ 10 by omega)
 have p2 := fac_le (show k ≤ 10 by omega)
 have p3 := fac_le (show n - k ≤ 10 by omega)
 have q1 : fac n / fac k ≤ fac n := Nat.div_le_self _ _
 apply e_share_choose
 unfold s_share_choose
 have h := (Hp.init [] w0).dr
 refine diA (j := n) (by omega) ?_
 refine fLd hF h (by omega) ?_
 refine diA (j := k) (by omega) ?_
 refine fLd hF h (by omega) ?_
 refine dvBx (v := .int .i64 ((fac n / fac k : Nat) : Int)) (fun w K hk => Bn_qu (by omega) (by omega) (by omega) hk) ?_
 refine dvBx (v := .int .i64 ((n - k : Nat) : Int)) (fun w K hk' => Bn_su (by omega) (by omega) (by rw [show (n : Int) - (k : Int) = ((n - k : Nat) : Int) by omega]; exact hk')) ?_
 refine diA (j := n - k) (by omega) ?_
 refine fLd hF h (by omega) ?_
 refine dvBx (v := .int .i64 ((fac n / fac k / fac (n - k) : Nat) : Int)) (fun w K hk => Bn_qu (x := ((fac n / fac k : Nat) : Int)) (Int.natCast_nonneg _) (by have : ((fac n / fac k : Nat) : Int) ≤ (fac n : Nat) := Int.ofNat_le.2 q1; omega) (by omega) hk) ?_
 exact Ret.mk ⟨h.ext, rfl⟩
section
variable {w0 : World} {v : Value} {l : List Int} (hv : SlC w0 1 v l.length (l.flatMap fI))
include hv
end
end Go.Proofs.YthjhkpefammjkaaGreatDoor
