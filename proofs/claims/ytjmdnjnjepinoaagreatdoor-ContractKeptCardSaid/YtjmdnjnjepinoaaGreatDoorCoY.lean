/-
  Contracts and plain lemmas. By an AI agent.
-/
import Derived.Test.YtjmdnjnjepinoaaGreatDoorLCoY
import Derived.Test.YtjmdnjnjepinoaaGreatDoorCoX
import Derived.Test.YtjmdnjnjepinoaaGreatDoorEsA
set_option linter.unusedSimpArgs false
set_option linter.unusedVariables false
set_option linter.unusedSectionVars false
namespace Go.Proofs.YtjmdnjnjepinoaaGreatDoor
open Go Go.Eng Go.Proofs Go.Num Go.RowKit
set_option maxRecDepth 100000
set_option linter.unusedVariables false
set_option linter.unusedSectionVars false
theorem parts_get {P : List Rat} {a : Int} {i : Nat} (hi : i < P.length) : (partsL P a)[i]? = some (partA P a i) := by
 unfold partsL
 rw [List.getElem?_map, List.getElem?_range hi]; rfl
theorem parts_len (P : List Rat) (a : Int) : (partsL P a).length = P.length := by unfold partsL; simp
theorem gZ_sum (f : Nat → Int) : ∀ l : List Nat, (l.map f).sum = gZ f l
 | [] => rfl
 | i :: l => by rw [List.map_cons, List.sum_cons, gZ_sum f l]; rfl
theorem parts_sum {P : List Rat} {a : Int} (h : Spl P a) : (partsL P a).sum = a := by
 unfold partsL
 rw [gZ_sum]; exact h.total
theorem cmp_gt (x y : Rat) : 0 < cmpQ x y ↔ y < x := by
 rcases cmpQ_cases x y with ⟨h, e⟩ | ⟨h, e⟩ | ⟨h, e⟩ <;> rw [e]
 ·exact ⟨fun h1 => absurd h1 (by decide), fun h1 => absurd h1 (Rat.not_lt.2 (Rat.le_of_lt h))⟩
 ·exact ⟨fun h1 => absurd h1 (by decide), fun h1 => absurd h1 (by rw [h]; exact Rat.lt_irrefl)⟩
 ·exact ⟨fun _ => h, fun _ => by decide⟩
theorem pA_get {P : List Rat} {i : Nat} {p : Rat} (h : P[i]? = some p) : pA P i = p := by unfold pA; rw [List.getD_eq_getElem?_getD, h]; rfl
section
variable {w0 : World} {v : Value} {x : List I2} {amount : Int} (he : En w0) (hv : SlC w0 2 v x.length (x.flatMap f2)) (hI : ∀ a ∈ x, I64 a.1 ∧ I64 a.2) (hll : x.length ≤ 9223372036854775807) (ham : I64 amount)
include he hv hI hll ham
set_option maxHeartbeats 16000000 in
theorem law_Exact : Calls Tryz.prog 4 #[.int .i64 amount, v] w0 (Ret fun r w' => Ext w0 w' ∧ r = .bool true) := by
 have b0 := pickZ_bd (c := amount) (n := 100001) (by decide)
 have hlen := shaL_len x
 have hGP := shaL_GP x
 obtain ⟨a, hA⟩ : ∃ a, pickZ amount 100001 = a := ⟨_, rfl⟩
 rw [hA] at b0
 have b1 := b0.1
 have b2 := b0.2
 obtain ⟨T, hT⟩ : ∃ T, shaL x = T := ⟨_, rfl⟩
 have cr1 : ∀ {W : World}, Ext w0 W → Calls Tryz.prog 26 #[v] W (Ret fun r w' => ∃ u, r = u ∧ Hp [] W w' [ro tR 2 u T.length ((txs T).flatMap fR)]) := fun {W} e => by
  refine (c_shares (he.hT.ext e) (hv.ext e) hI hll).mono ?_
  rintro _ w' ⟨r, rfl, h⟩
  rw [hT] at h
  exact Ret.mk ⟨_, rfl, h⟩
 rw [hT] at hlen hGP
 have haa : 0 ≤ a ∧ a ≤ 1000000000 := by omega
 obtain ⟨s, hS⟩ : ∃ s, lsum qid T = s := ⟨_, rfl⟩
 obtain ⟨P, hP⟩ : ∃ P, prL T a = P := ⟨_, rfl⟩
 obtain ⟨l, hL⟩ : ∃ l, partsL P a = l := ⟨_, rfl⟩
 have hSp := (splO_ok hGP haa).2
 rw [hP] at hSp
 have hPl : P.length = T.length := by rw [← hP, List.length_map]
 have hLl : l.length = T.length := by rw [← hL, parts_len, hPl]
 have hLs : l.sum = a := by rw [← hL]; exact parts_sum hSp
 have hs0 : 0 < s := by rw [← hS]; exact hGP.pos
 have hsne : s ≠ 0 := fun e => by rw [e] at hs0; exact absurd hs0 Rat.lt_irrefl
 have hss : Sml s := hS ▸ hGP.toGS.ssum
 have hs10 : SR 10 6 s := hS ▸ dr_sz hGP.toGS.sum hGP.d0 hGP.d1 (by decide)
 have sa : Sml (qI a) := ⟨by rw [Rat.num_intCast]; exact Nat.lt_of_le_of_lt (m := 1000000000) (by omega) (by decide +kernel), by rw [Rat.den_intCast]; show (1 : Nat) < 10 ^ 99; decide +kernel⟩
 have hPg : ∀ (j : Nat) (y : Rat), T[j]? = some y → P[j]? = some (qI a * y / s) := fun j y hy => by rw [← hP, ← hS]; show ((T.map _)[j]?) = _; rw [List.getElem?_map, hy]; rfl
 have hLg : ∀ j, j < T.length → l[j]? = some (partA P a j) := fun j hj => by rw [← hL]; exact parts_get (by omega)
 have hbd : ∀ j, j < T.length → 0 ≤ partA P a j ∧ partA P a j ≤ 1000000001 := fun j hj => by
  have h1 := (splO_ok hGP haa).1
  rw [hP, hL] at h1
  exact splO_bd h1 _ (List.mem_of_getElem? (hLg j hj))
 have cc1 := fun {W : World} (x : Ext w0 W) => c_sane (w0 := W) (he.ext x)
 have cc2 : ∀ {W : World}, Ext w0 W → Calls Tryz.prog 23 #[.int .i64 amount, .int .i64 100001] W (Ret fun r w' => Ext W w' ∧ r = .int .i64 a) := fun {W} _ => hA ▸ c_pickL (w := W) (c := amount) (n := 100001) ham (by decide)
 have cc3 : ∀ {W : World}, Ext w0 W → ∀ {u : Value}, SlC W 2 u T.length ((txs T).flatMap fR) → Calls Tryz.prog 27 #[u] W (Ret fun r w' => Ext W w' ∧ r = .tuple #[ov (some s), .bool true]) := fun {W} e u hu => by
  have := c_total (he.hT.ext e) (v := u) (txs_flat T ▸ hu) hGP.toGS
  rw [hS] at this
  exact this
 have cr2 : ∀ {W : World}, Ext w0 W → ∀ {u : Value}, SlC W 2 u T.length ((txs T).flatMap fR) → Calls Tryz.prog 24 #[.int .i64 a, u] W (Ret fun r w' => ∃ u, r = .tuple #[u, .int .i64 0] ∧ Hp [] W w' [ro tI 1 u T.length (l.flatMap fI)]) := fun {W} e u hu => by
  have := g_split (he.ext e) hu hGP haa
  rw [hP, hL] at this
  exact this
 apply e_law26_ContractExact
 unfold s_law26_ContractExact
 have h := Hp.init [] w0
 clear hA hT hS hP hL
 refine cl1 h n_law26_sane (cc1 h.ext) fun w h => ?_
 refine cl1 h n_law26_pick (cc2 h.ext) fun w h => ?_
 refine clR h n_law26_shares (cr1 h.ext) fun v1 w h => ?_
 refine cl1 h n_law26_total (cc3 h.ext (by first | exact (h.sl (i := 0) rfl) | assumption)) fun w h => ?_
 refine Ex2 ?_
 refine alS h fun g1 w h => ?_
 refine stA h 0 rfl rfl rfl rfl fun w h => ?_
 refine clR h n_contract_Split (cr2 h.ext (by first | exact (h.sl (i := 1) rfl) | assumption)) fun v2 w h => ?_
 refine Ex2 ?_
 refine Un_T ?_
 iterate 2 refine Gd_F ?_
 refine Bn_neF (by omega) ?_
 refine Pick_F ?_
 iterate 2 refine Gd_F ?_
 refine leS (h.sl (i := 0) rfl) ?_
 iterate 2 refine Gd_F ?_
 refine leS (h.sl (i := 2) rfl) ?_
 refine Gd_F ?_
 refine Bn_neF (by omega) ?_
 refine Pick_F ?_
 refine If_F ?_
 dsimp only [List.set] at h
 refine Lp2.mk (fun t i W => ∃ j : Nat, j ≤ T.length ∧ i = .int .i64 j ∧ t = .int .i64 (sumZ (l.take j)) ∧ 0 ≤ sumZ (l.take j) ∧ sumZ (l.take j) ≤ j * 1000000001 ∧ Hp [] w0 W [ro tI 1 v2 T.length (l.flatMap fI), bx g1 tR (fO (some s)), ro tR 2 v1 T.length ((txs T).flatMap fR)])
  (fun _ i _ => match i with | .int _ i' => T.length - i'.toNat | _ => 0) ⟨0, by omega, rfl, rfl, by rw [List.take_zero]; decide, by rw [List.take_zero]; decide, h⟩ ?_
 clear h cc1 cc2 cc3 cr1 cr2
 rintro _ _ W ⟨j, hj, rfl, rfl, s1, s2, h⟩
 by_cases hjl : j < T.length
 rotate_left
 ·have e : sumZ (l.take j) = a := by rw [List.take_of_length_le (by omega), sumZ_sum, hLs]
  refine leS (h.sl (i := 0) rfl) ?_
  refine Bn_ltF (by omega) ?_
  refine If_F ?_
  iterate 3 refine Gd_T ?_
  refine Bn_eqT (by omega) ?_
  refine Pick_T ?_
  exact Ret.mk ⟨h.ext, rfl⟩
 refine Exists.elim (p := fun y => T[j]? = some y) ⟨_, List.getElem?_eq_getElem hjl⟩ fun y hy => ?_
 have sy : Seg ((txs T).flatMap fR) (j * 2) (fTx y) := flat_seg (f := fR) (fun _ => rfl) (by show (T.map tx)[j]? = _; rw [List.getElem?_map, hy]; rfl)
 have hym := List.mem_of_getElem? hy
 have ys := hGP.toGS.sml hym
 have hp := hPg j y hy
 have hl := hLg j hjl
 have hpA := pA_get hp
 have hnear := hSp.near j
 rw [hpA] at hnear
 have hz0 : y = 0 → partA P a j = 0 := fun e => hSp.part0 (by rw [hpA, e]; grind)
 have hb := hbd j hjl
 refine Exists.elim (p := fun z => partA P a j = z) ⟨_, rfl⟩ fun z hz => ?_
 rw [hz] at hnear hz0 hb hl
 have z1 := hb.1
 have z2 := hb.2
 have sz : Seg (l.flatMap fI) (j * 1) (fI z) := flat_seg (f := fI) (fun _ => rfl) hl
 have hpd : SR 18 6 (qI a * y) := by
  have d1 := (qa_DR hGP haa).mul (hGP.dr y hym) (by decide) hGP.d0
  rw [Nat.one_mul] at d1
  exact dr_sz d1 hGP.d0 hGP.d1 (by decide)
 have sp : Sml (qI a * y / s) := (SR.div hpd hs10 hsne).mono (by decide) (by decide)
 have smz : ∀ {n : Int}, -2000000000 ≤ n → n ≤ 2000000000 → Sml (qI n) := fun {n} h1 h2 => ⟨by rw [Rat.num_intCast]; exact Nat.lt_of_le_of_lt (m := 2000000000) (by omega) (by decide +kernel), by rw [Rat.den_intCast]; show (1 : Nat) < 10 ^ 99; decide +kernel⟩
 have szm : Sml (qI z) := smz (by omega) (by omega)
 have sd : RB (qI z - qI a * y / s) := (SR.sub (szm.mono (c := 99) (d := 99) (by decide) (by decide)) sp (k := 198) (by decide) (by decide)).rb (by decide) (by decide)
 have hsn := sumZ_snoc (l.take j) z
 rw [← take_snoc hl] at hsn
 have cc1 := fun {W : World} (x : Ext w0 W) => c_of1 (w := W) (n := a) (he.hT.ext x) (by omega)
 have cc2 : ∀ {W : World}, Ext w0 W → Calls Tryz.prog 28 #[ov (some (qI a)), ov (some y)] W (Ret fun r w' => Ext W w' ∧ r = .tuple #[ov (some (qI a * y)), .int .i64 0]) := fun {W} e => by
  have := o_mul (w := W) (o := some (qI a)) (p := some y) (.some sa.rb) (.some ys.rb) (he.hT.ext e)
  rw [omul_ok sa ys] at this
  exact this
 have hpd' : Sml (qI a * y) := hpd.mono (by decide) (by decide)
 have cc3 : ∀ {W : World}, Ext w0 W → Calls Tryz.prog 30 #[ov (some (qI a * y)), ov (some s)] W (Ret fun r w' => Ext W w' ∧ r = .tuple #[ov (some (qI a * y / s)), .int .i64 0]) := fun {W} e => by
  have := o_div (w := W) (o := some (qI a * y)) (p := some s) (.some hpd'.rb) (.some hss.rb) (he.hT.ext e)
  rw [odiv_ok hpd' hss hsne] at this
  exact this
 have cc4 := fun {W : World} (x : Ext w0 W) => c_of1 (w := W) (n := z) (he.hT.ext x) (by omega)
 have cc5 : ∀ {W : World}, Ext w0 W → Calls Tryz.prog 31 #[ov (some (qI z)), ov (some (qI a * y / s))] W (Ret fun r w' => Ext W w' ∧ r = .tuple #[ov (some (qI z - qI a * y / s)), .int .i64 0]) := fun {W} e => by
  have := o_sub (w := W) (o := some (qI z)) (p := some (qI a * y / s)) (.some szm.rb) (.some sp.rb) (he.hT.ext e)
  rw [osub_ok szm sp] at this
  exact this
 have cc6 := fun {W : World} (x : Ext w0 W) => c_of1 (w := W) (n := 1) (he.hT.ext x) (by decide)
 have cc7 := fun {W : World} (x : Ext w0 W) => c_of1 (w := W) (n := -1) (he.hT.ext x) (by decide)
 have cc8 := fun {W : World} (x : Ext w0 W) => c_of1 (w := W) (n := 0) (he.hT.ext x) (by decide)
 have cc9 := fun {W : World} (e : Ext w0 W) => o_cmp (w := W) (x := qI z - qI a * y / s) (y := qI 1) sd (smz (by decide) (by decide)).rb (he.hT.ext e)
 have cc10 := fun {W : World} (e : Ext w0 W) => o_cmp (w := W) (x := qI z - qI a * y / s) (y := qI (-1)) sd (smz (by decide) (by decide)).rb (he.hT.ext e)
 have k1 : cmpQ (qI z - qI a * y / s) (qI 1) < 0 := (cmp_lt _ _).2 hnear.1
 have k2 : 0 < cmpQ (qI z - qI a * y / s) (qI (-1)) := (cmp_gt _ _).2 hnear.2
 refine leS (h.sl (i := 0) rfl) ?_
 refine Bn_ltT (by omega) ?_
 refine If_T ?_
 refine Jn2.lfb tR (fO (some (qI a * y))) (.int .i64 0) h (fun K lf1 => ?_) (fun gx w h => ?_)
 ·replace h := h.dr
  refine diR h 2 rfl (by omega) fun zg zk zv => ?_
  refine drA h 2 rfl ‹_› ‹_› (by rfl) ?_
  refine ⟨?_, ?_⟩
  refine cl1 h n_law26_of (cc1 h.ext) fun w h => ?_
  refine krA h 2 rfl ‹_› ‹_› (by rfl) ?_
  refine ⟨?_, ?_⟩
  refine cl1 h n_rational_Mul (cc2 h.ext) fun w h => ?_
  refine ExP2 ?_
  refine alS h fun g2 w h => ?_
  refine krA h 3 rfl ‹_› ‹_› (by rfl) ?_
  refine stA h 0 rfl rfl rfl rfl fun w h => ?_
  exact lf1 _ _ h
  refine alS h fun g2 w h => ?_
  refine krA h 3 rfl ‹_› ‹_› (by rfl) ?_
  refine cl1 h n_rational_Mul (cc2 h.ext) fun w h => ?_
  refine ExP2 ?_
  refine stA h 0 rfl rfl rfl rfl fun w h => ?_
  exact lf1 _ _ h
  refine alS h fun g2 w h => ?_
  refine krA h 3 rfl ‹_› ‹_› (by rfl) ?_
  refine cl1 h n_law26_of (cc1 h.ext) fun w h => ?_
  refine krA h 3 rfl ‹_› ‹_› (by rfl) ?_
  refine cl1 h n_rational_Mul (cc2 h.ext) fun w h => ?_
  refine ExP2 ?_
  refine stA h 0 rfl rfl rfl rfl fun w h => ?_
  exact lf1 _ _ h
 refine ldA h 0 rfl rfl ?_
 refine ldA h 2 rfl rfl ?_
 refine cl1 h n_rational_Div (cc3 h.ext) fun w h => ?_
 refine Ex2 ?_
 refine alS h fun g2 w h => ?_
 refine stA h 0 rfl rfl rfl rfl fun w h => ?_
 dsimp only [List.set] at h
 refine Jn2.lfb tR (fO (some (qI z - qI a * y / s))) (.int .i64 0) h (fun K lf1 => ?_) (fun gy w h => ?_)
 ·replace h := h.dr
  refine diR h 2 rfl (by omega) fun zg zk zv => ?_
  refine dr0 h 2 rfl ‹_› ‹_› (by rfl) ?_
  refine dlA h 0 rfl rfl ?_
  refine ⟨?_, ?_⟩
  refine cl1 h n_law26_of (cc4 h.ext) fun w h => ?_
  refine klA h 0 rfl rfl ?_
  refine ⟨?_, ?_⟩
  refine cl1 h n_rational_Sub (cc5 h.ext) fun w h => ?_
  refine ExP2 ?_
  refine alS h fun g3 w h => ?_
  refine kr0 h 3 rfl ‹_› ‹_› (by rfl) ?_
  refine klA h 1 rfl rfl ?_
  refine stA h 0 rfl rfl rfl rfl fun w h => ?_
  exact lf1 _ _ h
  refine alS h fun g3 w h => ?_
  refine kr0 h 3 rfl ‹_› ‹_› (by rfl) ?_
  refine klA h 1 rfl rfl ?_
  refine cl1 h n_rational_Sub (cc5 h.ext) fun w h => ?_
  refine ExP2 ?_
  refine stA h 0 rfl rfl rfl rfl fun w h => ?_
  exact lf1 _ _ h
  refine alS h fun g3 w h => ?_
  refine kr0 h 3 rfl ‹_› ‹_› (by rfl) ?_
  refine klA h 1 rfl rfl ?_
  refine cl1 h n_law26_of (cc4 h.ext) fun w h => ?_
  refine klA h 1 rfl rfl ?_
  refine cl1 h n_rational_Sub (cc5 h.ext) fun w h => ?_
  refine ExP2 ?_
  refine stA h 0 rfl rfl rfl rfl fun w h => ?_
  exact lf1 _ _ h
 by_cases hy0 : y = qI 0
 ·have hz1 := hz0 hy0
  have q1 := qe_t hy0
  replace h := h.dr
  refine Dv_neF (by omega) ?_
  iterate 2 refine GdP_F ?_
  refine Dv_neF (by omega) ?_
  refine PickP_F ?_
  iterate 2 refine GdP_F ?_
  refine Dv_neF (by omega) ?_
  refine PickP_F ?_
  iterate 3 refine GdP_F ?_
  refine diR h 3 rfl (by omega) fun zg zk zv => ?_
  refine GdP_F ?_
  refine dr0 h 3 rfl ‹_› ‹_› (by rfl) ?_
  refine GdP_F ?_
  refine Dv_ltF (by omega) ?_
  refine PickP_F ?_
  refine GdP_F ?_
  refine dlA h 0 rfl rfl ?_
  refine Gd_F ?_
  refine cl1 h n_law26_of (cc6 h.ext) fun w h => ?_
  refine Kg_F ?_
  refine klA h 0 rfl rfl ?_
  refine Gd_F ?_
  refine cl1 h n_rational_Compare (cc9 h.ext) fun w h => ?_
  refine GdP_F ?_
  refine Dv_geF (by omega) ?_
  refine PickP_F ?_
  refine GdP_F ?_
  refine dlA h 0 rfl rfl ?_
  refine Gd_F ?_
  refine cl1 h n_law26_of (cc7 h.ext) fun w h => ?_
  refine Kg_F ?_
  refine klA h 0 rfl rfl ?_
  refine Gd_F ?_
  refine cl1 h n_rational_Compare (cc10 h.ext) fun w h => ?_
  refine GdP_F ?_
  refine Dv_leF (by omega) ?_
  refine PickP_F ?_
  refine If_F ?_
  replace h := h.dr
  refine diR h 5 rfl (by omega) fun zg zk zv => ?_
  refine drA h 5 rfl ‹_› ‹_› (by rfl) ?_
  refine cl1 h n_law26_of (cc8 h.ext) fun w h => ?_
  refine krA h 5 rfl ‹_› ‹_› (by rfl) ?_
  refine dqEqT ‹_› ?_
  iterate 3 refine GdP_T ?_
  refine diR h 3 rfl (by omega) fun zg zk zv => ?_
  refine GdP_T ?_
  refine dr0 h 3 rfl ‹_› ‹_› (by rfl) ?_
  refine GdP_T ?_
  refine Dv_neF (by omega) ?_
  refine PickP_T ?_
  refine If_F ?_
  refine Lp1.mk (fun i W => ∃ k : Nat, k ≤ j ∧ i = .int .i64 k ∧ Hp [] w0 W [ro tI 1 v2 T.length (l.flatMap fI), bx g1 tR (fO (some s)), ro tR 2 v1 T.length ((txs T).flatMap fR)])
   (fun i _ => match i with | .int _ i' => j - i'.toNat | _ => 0) ⟨0, by omega, rfl, h.pick [3, 4, 5] (by decide) rfl⟩ ?_
  clear h
  rintro _ W ⟨k, hk, rfl, h⟩
  by_cases hkj : k < j
  rotate_left
  ·have hk' : k = j := by omega
   refine Bn_ltF (by omega) ?_
   refine If_F ?_
   refine iaR h 0 rfl (by omega) fun zg zk zv => ?_
   refine lr0 h 0 rfl ‹_› ‹_› (by rfl) ?_
   iterate 2 refine Bn_ad (by omega) (by omega) ?_
   refine ⟨⟨j + 1, by omega, rfl, by rw [hsn], by omega, by omega, h⟩, by show T.length - ((j : Int) + 1).toNat < T.length - (j : Int).toNat; omega⟩
  refine Exists.elim (p := fun y => T[k]? = some y) ⟨_, List.getElem?_eq_getElem (by omega)⟩ fun yk hyk => ?_
  have syk : Seg ((txs T).flatMap fR) (k * 2) (fTx yk) := flat_seg (f := fR) (fun _ => rfl) (by show (T.map tx)[k]? = _; rw [List.getElem?_map, hyk]; rfl)
  by_cases hyy : yk = y
  rotate_left
  ·have q2 := qe_f hyy
   refine Bn_ltT (by omega) ?_
   refine If_T ?_
   replace h := h.dr
   refine diR h 2 rfl (by omega) fun zg zk zv => ?_
   refine drA h 2 rfl ‹_› ‹_› (by rfl) ?_
   refine diR h 2 rfl (by omega) fun zg zk zv => ?_
   refine drA h 2 rfl ‹_› ‹_› (by rfl) ?_
   refine dqEqF ‹_› ?_
   iterate 10 refine GdP_FT ?_
   iterate 10 refine GdP_U ?_
   refine GdP_FT ?_
   refine PickP_F ?_
   refine If_F ?_
   refine Bn_ad (by omega) (by omega) ?_
   exact ⟨⟨k + 1, by omega, rfl, h⟩, by show j - ((k : Int) + 1).toNat < j - (k : Int).toNat; omega⟩
  have q2 := qe_t hyy
  have hlk := hLg k (by omega)
  have hsame := hSp.same (k := k) (i := j) hkj (by omega) (by rw [hpA, pA_get (hPg k yk hyk), hyy])
  rw [hz] at hsame
  refine Exists.elim (p := fun z => partA P a k = z) ⟨_, rfl⟩ fun zk hzk => ?_
  rw [hzk] at hsame hlk
  have m1 := hsame.1
  have m2 := hsame.2
  have szk : Seg (l.flatMap fI) (k * 1) (fI zk) := flat_seg (f := fI) (fun _ => rfl) hlk
  refine Bn_ltT (by omega) ?_
  refine If_T ?_
  replace h := h.dr
  refine diR h 2 rfl (by omega) fun zg zk zv => ?_
  refine drA h 2 rfl ‹_› ‹_› (by rfl) ?_
  refine diR h 2 rfl (by omega) fun zg zk zv => ?_
  refine drA h 2 rfl ‹_› ‹_› (by rfl) ?_
  refine dqEqT ‹_› ?_
  iterate 3 refine GdP_T ?_
  refine diR h 0 rfl (by omega) fun zg zk zv => ?_
  refine GdP_T ?_
  refine dr0 h 0 rfl ‹_› ‹_› (by rfl) ?_
  iterate 3 refine GdP_T ?_
  refine diR h 0 rfl (by omega) fun zg zk zv => ?_
  refine GdP_T ?_
  refine dr0 h 0 rfl ‹_› ‹_› (by rfl) ?_
  refine GdP_T ?_
  refine Dv_ltF (by omega) ?_
  refine GdP_T ?_
  iterate 3 refine GdP_F ?_
  refine diR h 0 rfl (by omega) fun zg zk zv => ?_
  refine GdP_F ?_
  refine dr0 h 0 rfl ‹_› ‹_› (by rfl) ?_
  iterate 3 refine GdP_F ?_
  refine diR h 0 rfl (by omega) fun zg zk zv => ?_
  refine GdP_F ?_
  refine dr0 h 0 rfl ‹_› ‹_› (by rfl) ?_
  refine GdP_F ?_
  refine Dv_ad (by omega) (by omega) ?_
  refine GdP_F ?_
  refine Dv_gtF (by omega) ?_
  refine GdP_T ?_
  refine PickP_F ?_
  refine PickP_T ?_
  refine If_F ?_
  refine Bn_ad (by omega) (by omega) ?_
  exact ⟨⟨k + 1, by omega, rfl, h⟩, by show j - ((k : Int) + 1).toNat < j - (k : Int).toNat; omega⟩
 have q1 := qe_f hy0
 replace h := h.dr
 refine Dv_neF (by omega) ?_
 iterate 2 refine GdP_F ?_
 refine Dv_neF (by omega) ?_
 refine PickP_F ?_
 iterate 2 refine GdP_F ?_
 refine Dv_neF (by omega) ?_
 refine PickP_F ?_
 iterate 3 refine GdP_F ?_
 refine diR h 3 rfl (by omega) fun zg zk zv => ?_
 refine GdP_F ?_
 refine dr0 h 3 rfl ‹_› ‹_› (by rfl) ?_
 refine GdP_F ?_
 refine Dv_ltF (by omega) ?_
 refine PickP_F ?_
 refine GdP_F ?_
 refine dlA h 0 rfl rfl ?_
 refine Gd_F ?_
 refine cl1 h n_law26_of (cc6 h.ext) fun w h => ?_
 refine Kg_F ?_
 refine klA h 0 rfl rfl ?_
 refine Gd_F ?_
 refine cl1 h n_rational_Compare (cc9 h.ext) fun w h => ?_
 refine GdP_F ?_
 refine Dv_geF (by omega) ?_
 refine PickP_F ?_
 refine GdP_F ?_
 refine dlA h 0 rfl rfl ?_
 refine Gd_F ?_
 refine cl1 h n_law26_of (cc7 h.ext) fun w h => ?_
 refine Kg_F ?_
 refine klA h 0 rfl rfl ?_
 refine Gd_F ?_
 refine cl1 h n_rational_Compare (cc10 h.ext) fun w h => ?_
 refine GdP_F ?_
 refine Dv_leF (by omega) ?_
 refine PickP_F ?_
 refine If_F ?_
 replace h := h.dr
 refine diR h 5 rfl (by omega) fun zg zk zv => ?_
 refine drA h 5 rfl ‹_› ‹_› (by rfl) ?_
 refine cl1 h n_law26_of (cc8 h.ext) fun w h => ?_
 refine krA h 5 rfl ‹_› ‹_› (by rfl) ?_
 refine dqEqF ‹_› ?_
 iterate 5 refine GdP_FT ?_
 refine PickP_F ?_
 refine If_F ?_
 refine Lp1.mk (fun i W => ∃ k : Nat, k ≤ j ∧ i = .int .i64 k ∧ Hp [] w0 W [ro tI 1 v2 T.length (l.flatMap fI), bx g1 tR (fO (some s)), ro tR 2 v1 T.length ((txs T).flatMap fR)])
  (fun i _ => match i with | .int _ i' => j - i'.toNat | _ => 0) ⟨0, by omega, rfl, h.pick [3, 4, 5] (by decide) rfl⟩ ?_
 clear h
 rintro _ W ⟨k, hk, rfl, h⟩
 by_cases hkj : k < j
 rotate_left
 ·have hk' : k = j := by omega
  refine Bn_ltF (by omega) ?_
  refine If_F ?_
  refine iaR h 0 rfl (by omega) fun zg zk zv => ?_
  refine lr0 h 0 rfl ‹_› ‹_› (by rfl) ?_
  iterate 2 refine Bn_ad (by omega) (by omega) ?_
  refine ⟨⟨j + 1, by omega, rfl, by rw [hsn], by omega, by omega, h⟩, by show T.length - ((j : Int) + 1).toNat < T.length - (j : Int).toNat; omega⟩
 refine Exists.elim (p := fun y => T[k]? = some y) ⟨_, List.getElem?_eq_getElem (by omega)⟩ fun yk hyk => ?_
 have syk : Seg ((txs T).flatMap fR) (k * 2) (fTx yk) := flat_seg (f := fR) (fun _ => rfl) (by show (T.map tx)[k]? = _; rw [List.getElem?_map, hyk]; rfl)
 by_cases hyy : yk = y
 rotate_left
 ·have q2 := qe_f hyy
  refine Bn_ltT (by omega) ?_
  refine If_T ?_
  replace h := h.dr
  refine diR h 2 rfl (by omega) fun zg zk zv => ?_
  refine drA h 2 rfl ‹_› ‹_› (by rfl) ?_
  refine diR h 2 rfl (by omega) fun zg zk zv => ?_
  refine drA h 2 rfl ‹_› ‹_› (by rfl) ?_
  refine dqEqF ‹_› ?_
  iterate 10 refine GdP_FT ?_
  iterate 10 refine GdP_U ?_
  refine GdP_FT ?_
  refine PickP_F ?_
  refine If_F ?_
  refine Bn_ad (by omega) (by omega) ?_
  exact ⟨⟨k + 1, by omega, rfl, h⟩, by show j - ((k : Int) + 1).toNat < j - (k : Int).toNat; omega⟩
 have q2 := qe_t hyy
 have hlk := hLg k (by omega)
 have hsame := hSp.same (k := k) (i := j) hkj (by omega) (by rw [hpA, pA_get (hPg k yk hyk), hyy])
 rw [hz] at hsame
 refine Exists.elim (p := fun z => partA P a k = z) ⟨_, rfl⟩ fun zk hzk => ?_
 rw [hzk] at hsame hlk
 have m1 := hsame.1
 have m2 := hsame.2
 have szk : Seg (l.flatMap fI) (k * 1) (fI zk) := flat_seg (f := fI) (fun _ => rfl) hlk
 refine Bn_ltT (by omega) ?_
 refine If_T ?_
 replace h := h.dr
 refine diR h 2 rfl (by omega) fun zg zk zv => ?_
 refine drA h 2 rfl ‹_› ‹_› (by rfl) ?_
 refine diR h 2 rfl (by omega) fun zg zk zv => ?_
 refine drA h 2 rfl ‹_› ‹_› (by rfl) ?_
 refine dqEqT ‹_› ?_
 iterate 3 refine GdP_T ?_
 refine diR h 0 rfl (by omega) fun zg zk zv => ?_
 refine GdP_T ?_
 refine dr0 h 0 rfl ‹_› ‹_› (by rfl) ?_
 iterate 3 refine GdP_T ?_
 refine diR h 0 rfl (by omega) fun zg zk zv => ?_
 refine GdP_T ?_
 refine dr0 h 0 rfl ‹_› ‹_› (by rfl) ?_
 refine GdP_T ?_
 refine Dv_ltF (by omega) ?_
 refine GdP_T ?_
 iterate 3 refine GdP_F ?_
 refine diR h 0 rfl (by omega) fun zg zk zv => ?_
 refine GdP_F ?_
 refine dr0 h 0 rfl ‹_› ‹_› (by rfl) ?_
 iterate 3 refine GdP_F ?_
 refine diR h 0 rfl (by omega) fun zg zk zv => ?_
 refine GdP_F ?_
 refine dr0 h 0 rfl ‹_› ‹_› (by rfl) ?_
 refine GdP_F ?_
 refine Dv_ad (by omega) (by omega) ?_
 refine GdP_F ?_
 refine Dv_gtF (by omega) ?_
 refine GdP_T ?_
 refine PickP_F ?_
 refine PickP_T ?_
 refine If_F ?_
 refine Bn_ad (by omega) (by omega) ?_
 exact ⟨⟨k + 1, by omega, rfl, h⟩, by show j - ((k : Int) + 1).toNat < j - (k : Int).toNat; omega⟩
end
end Go.Proofs.YtjmdnjnjepinoaaGreatDoor
