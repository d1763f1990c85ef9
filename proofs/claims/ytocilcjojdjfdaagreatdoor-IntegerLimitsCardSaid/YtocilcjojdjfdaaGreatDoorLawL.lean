/-
  Contracts of functions of the program, and plain lemmas on numbers and strings. By an AI agent.
-/
import Derived.Test.YtocilcjojdjfdaaGreatDoorLawK
import Derived.Test.YtocilcjojdjfdaaGreatDoorEngP
set_option linter.unusedSimpArgs false
set_option linter.unusedVariables false
namespace Go.Proofs.YtocilcjojdjfdaaGreatDoor
open Go Go.Eng Go.Proofs Go.Num Go.RowKit
set_option maxRecDepth 100000
set_option linter.unusedVariables false
theorem prod_eq (m n : Nat) : (p10 m : Int) * (2 * (p10 n : Int) - 1) = 2 * (p10 (m + n) : Int) - p10 m := by
  rw [p10_add]; push_cast; grind
theorem prod_le (m n : Nat) : p10 m ≤ p10 (m + n) := p10_mono (by omega)
theorem prod_big {m n : Nat} (h : 200 ≤ m + n) : (MaxI : Int) ≤ (p10 m : Int) * (2 * (p10 n : Int) - 1) := by
  rw [prod_eq]
  have h1 := p10_mono h
  rw [p10_max] at h1
  have := prod_le m n
  omega
theorem prod_small {m n : Nat} (h : m + n < 200) : ((p10 m : Int) * (2 * (p10 n : Int) - 1)).natAbs < MaxI ∧ (Lib.itoa ((p10 m : Int) * (2 * (p10 n : Int) - 1))).length = m + n + 1 := by
  rw [prod_eq]
  have h1 := p10_mono (show m + n + 1 ≤ 200 by omega)
  rw [p10_max] at h1
  have h2 := prod_le m n
  have h3 := p10_pos m
  have h4 := p10_succ (m + n)
  refine ⟨by omega, ?_⟩
  unfold Lib.itoa
  rw [if_neg (by omega)]
  obtain ⟨u, hu⟩ : ∃ u, u = (2 * (p10 (m + n) : Int) - p10 m).toNat := ⟨_, rfl⟩
  rw [← hu]
  have hu1 : p10 (m + n) ≤ u := by omega
  have hu2 : u < p10 (m + n + 1) := by omega
  have a1 := (dec_len (u := u) (k := m + n + 1) (by omega)).2 (by unfold p10 at hu2; exact hu2)
  have a2 : m + n < (Lib.decDigits u).length := by
    by_cases h0 : m + n = 0
    · have := List.length_pos_iff.2 (dec_ne u); omega
    · refine Nat.lt_of_not_le fun hc => ?_
      have := (dec_len (u := u) (k := m + n) (by omega)).1 hc
      unfold p10 at hu1; omega
  omega
theorem lim_ttt {a : List UInt8} {mm nn x : Int} {m n : Nat} {w : World} (hm0 : -9223372036854775808 ≤ mm) (hm1 : mm ≤ 9223372036854775807) (hn0 : -9223372036854775808 ≤ nn) (hn1 : nn ≤ 9223372036854775807) (ht : Tab w)
    (hx : madeV a 5 = x) (hm : pickN mm = m) (hn : pickN nn = n) (hg : 0 < x) (hs : m + n < 200) (hz : m = 0) :
    Calls Tryz.prog 8 #[str a, .int .i64 mm, .int .i64 nn] w (Ret fun r w' => Ext w w' ∧ r = .bool true) := by
  have hMM := MaxI_pos
  have mMx : ((MaxI : Int) - 1).natAbs < MaxI := by omega
  have mNx : (-((MaxI : Int) - 1)).natAbs < MaxI := by omega
  have zx : x.natAbs < 100000 := by rw [← hx]; exact madeV_lt a 5
  have mx := small_MaxI (z := x) (by omega)
  have hml : m < 200 := by rw [← hm]; exact pickN_lt mm
  have hnl : n < 200 := by rw [← hn]; exact pickN_lt nn
  obtain ⟨most, hmost⟩ : ∃ l, l = List.replicate 200 (57 : UInt8) := ⟨_, rfl⟩
  obtain ⟨lm, hlm1⟩ : ∃ l, l = List.replicate m (57 : UInt8) := ⟨_, rfl⟩
  obtain ⟨ln, hln⟩ : ∃ l, l = List.replicate n (57 : UInt8) := ⟨_, rfl⟩
  have hmo : most = Lib.itoa ((MaxI : Int) - 1) := by rw [hmost, nines_itoa (by decide), p10_max]
  have hmn : 45 :: most = Lib.itoa (-((MaxI : Int) - 1)) := by rw [hmost, nines_neg (by decide), p10_max]
  have hl : most.length = 200 := by rw [hmost, List.length_replicate]
  have hb9 : validB (most ++ [57]) = false := by
    rw [hmost, ← List.replicate_succ', nines_itoa (by decide), valid_itoa]
    have := p10_succ 200
    rw [p10_max] at this
    exact decide_eq_false (by omega)
  have hbm : validB (45 :: most) = true := by rw [hmn]; exact valid_ok mNx
  have hlnl : ln.length = n := by rw [hln, List.length_replicate]
  have hlml : lm.length = m := by rw [hlm1, List.length_replicate]
  have h2n : 49 :: ln = Lib.itoa (2 * (p10 n : Int) - 1) := by rw [hln]; exact one_nines n
  have pm := p10_pos m
  have hmM := p10_lt hml
  have mone : (p10 m : Int).natAbs < MaxI := by omega
  have htn := two_lt hnl
  have hpn := p10_pos n
  have mtwo : (2 * (p10 n : Int) - 1).natAbs < MaxI := by omega
  have hlen := (prod_small hs).2
  have hb : (validB lm && validB [49]) = false := by rw [hlm1, hz]; rfl
  have hp1 : (p10 m : Int) = 1 := by rw [hz]; unfold p10; rfl
  have hMade : ∀ w, Calls Tryz.prog 13 #[str a, .int .i64 5] w (Ret fun r w' => Ext w w' ∧ r = str (Lib.itoa x)) := fun w => by
    have := c_MadeV (s := a) (m := 5) (w := w) (by decide)
    rw [hx] at this
    exact this
  have hPm : ∀ w, Calls Tryz.prog 23 #[.int .i64 mm, .int .i64 200] w (Ret fun r w' => Ext w w' ∧ r = .int .i64 m) := fun w => by
    have := c_pick (w := w) hm0 hm1
    rw [hm] at this
    exact this
  have hPn : ∀ w, Calls Tryz.prog 23 #[.int .i64 nn, .int .i64 200] w (Ret fun r w' => Ext w w' ∧ r = .int .i64 n) := fun w => by
    have := c_pick (w := w) hn0 hn1
    rw [hn] at this
    exact this
  have hB := Tryz.underlying4
  apply e_law03_IntegerLimits
  unfold s_law03_IntegerLimits
  refine Cl1 n_law03_sane (c_sane ht) fun w1 x1 => ?_
  refine Cl1 n_ref03_Made (hMade w1) fun w2 x2 => ?_
  have x2 := x1.tr x2
  refine Cl1 n_law03_nines (c_nines (n := 200) (by decide) hmost) fun w3 x3 => ?_
  have x3 := x2.tr x3
  refine Cl2 n_integer_Add (by rw [hmo]; exact (r_bad (c_Add mMx mx (ht.ext x3)) (by omega))) fun w4 x4 => ?_
  have x4 := x3.tr x4
  refine Bn_cons (by omega) ?_
  refine Cl2 n_integer_Sub (by rw [hmn]; exact (r_bad (c_Sub mNx mx (ht.ext x4)) (by omega))) fun w5 x5 => ?_
  have x5 := x4.tr x5
  refine Cl1 n_law03_pick (hPm w5) fun w6 x6 => ?_
  have x6 := x5.tr x6
  refine Cl1 n_law03_pick (hPn w6) fun w7 x7 => ?_
  have x7 := x6.tr x7
  refine Cl1 n_law03_nines (c_nines (by omega) hlm1) fun w8 x8 => ?_
  have x8 := x7.tr x8
  refine Cl2 n_integer_Add (c_Add_bad (by omega) (by decide) hb) fun w9 x9 => ?_
  have x9 := x8.tr x9
  refine Jn2.mk fun K hK => ?_
  ((try simp -dsimp [go_sem]); repeat (simp -dsimp (disch := omega) only [w64, wu64, dlt_t, dlt_f, dle_t, dle_f, deq_t, deq_f, beq_t, beq_f, bne_t, bne_f, nlt_t, nlt_f, nle_t, nle_f, neq_t, neq_f, nbeq_t, nbeq_f, nbne_t, nbne_f, it_t, it_f, dit_t, dit_f]; try simp -dsimp [go_sem]))
  refine Cl2 n_integer_Add (itoa0 ▸ l1 ▸ k_Add (x := 0) (y := 1) (s := (p10 m : Int)) m0 m1 mone (ht.ext x9) hp1.symm) fun w10 x10 => ?_
  have x10 := x9.tr x10
  refine hK _ _ _ ?_
  refine Cl1 n_law03_nines (c_nines (by omega) hln) fun w11 x11 => ?_
  have x11 := x10.tr x11
  refine Bn_cons (by omega) ?_
  refine Cl2 n_integer_Mul (by rw [h2n]; exact (k_Mul (s := (p10 m : Int) * (2 * (p10 n : Int) - 1)) mone mtwo (prod_small hs).1 (ht.ext x11) rfl)) fun w12 x12 => ?_
  have x12 := x11.tr x12
  refine Bn_addI (by omega) (by omega) ?_
  refine Bn_lssT (by omega) ?_
  refine Cl1 n_integer_Compare (itoa0 ▸ k_Compare (x := x) (y := 0) mx m0 (cmpI_gt hg)) fun w13 x13 => ?_
  have x13 := x12.tr x13
  clear mMx mNx zx mx mone mtwo hMM hmM htn hpn pm hp1
  (repeat (first | (with_reducible refine Gd_T ?_) | (with_reducible refine Gd_F ?_) | (with_reducible refine Gd_TF ?_) | (with_reducible refine Gd_FT ?_) | (with_reducible refine Gd_U ?_) | (with_reducible refine Pick_T ?_) | (with_reducible refine Pick_F ?_) | (with_reducible refine If_T ?_) | (with_reducible refine If_F ?_) | (with_reducible refine Un_T ?_) | (with_reducible refine Un_F ?_) | (with_reducible refine Bn_eqST ?_) | (with_reducible refine Bn_neST ?_) | ((with_reducible refine Bn_eqSF ?_ ?_); focus assumption) | ((with_reducible refine Bn_eqS1 ?_ ?_); focus assumption) | ((with_reducible refine Bn_neSF ?_ ?_); focus assumption) | ((with_reducible refine Bn_eqBT ?_ ?_ ?_); (focus assumption); (focus decide)) | ((with_reducible refine Bn_eqBF ?_ ?_ ?_); (focus assumption); (focus decide)) | ((with_reducible refine Bn_neBT ?_ ?_ ?_); (focus assumption); (focus decide)) | ((with_reducible refine Bn_neBF ?_ ?_ ?_); (focus assumption); (focus decide)) | ((with_reducible refine Bn_eqT ?_ ?_); focus omega) | ((with_reducible refine Bn_eqF ?_ ?_); focus omega) | ((with_reducible refine Bn_neT ?_ ?_); focus omega) | ((with_reducible refine Bn_neF ?_ ?_); focus omega) | ((with_reducible refine Bn_ltT ?_ ?_); focus omega) | ((with_reducible refine Bn_ltF ?_ ?_); focus omega) | ((with_reducible refine Bn_gtT ?_ ?_); focus omega) | ((with_reducible refine Bn_gtF ?_ ?_); focus omega) | ((with_reducible refine Bn_leT ?_ ?_); focus omega) | ((with_reducible refine Bn_leF ?_ ?_); focus omega) | ((with_reducible refine Bn_geT ?_ ?_); focus omega) | ((with_reducible refine Bn_geF ?_ ?_); focus omega) | ((with_reducible refine Bn_ad ?_ ?_ ?_); (focus omega); (focus omega)) | ((with_reducible refine Bn_su ?_ ?_ ?_); (focus omega); (focus omega))))
  refine Bt_lenS Tryz.underlying9 ?_
  (repeat (first | (with_reducible refine Gd_T ?_) | (with_reducible refine Gd_F ?_) | (with_reducible refine Gd_TF ?_) | (with_reducible refine Gd_FT ?_) | (with_reducible refine Gd_U ?_) | (with_reducible refine Pick_T ?_) | (with_reducible refine Pick_F ?_) | (with_reducible refine If_T ?_) | (with_reducible refine If_F ?_) | (with_reducible refine Un_T ?_) | (with_reducible refine Un_F ?_) | (with_reducible refine Bn_eqST ?_) | (with_reducible refine Bn_neST ?_) | ((with_reducible refine Bn_eqSF ?_ ?_); focus assumption) | ((with_reducible refine Bn_eqS1 ?_ ?_); focus assumption) | ((with_reducible refine Bn_neSF ?_ ?_); focus assumption) | ((with_reducible refine Bn_eqBT ?_ ?_ ?_); (focus assumption); (focus decide)) | ((with_reducible refine Bn_eqBF ?_ ?_ ?_); (focus assumption); (focus decide)) | ((with_reducible refine Bn_neBT ?_ ?_ ?_); (focus assumption); (focus decide)) | ((with_reducible refine Bn_neBF ?_ ?_ ?_); (focus assumption); (focus decide)) | ((with_reducible refine Bn_eqT ?_ ?_); focus omega) | ((with_reducible refine Bn_eqF ?_ ?_); focus omega) | ((with_reducible refine Bn_neT ?_ ?_); focus omega) | ((with_reducible refine Bn_neF ?_ ?_); focus omega) | ((with_reducible refine Bn_ltT ?_ ?_); focus omega) | ((with_reducible refine Bn_ltF ?_ ?_); focus omega) | ((with_reducible refine Bn_gtT ?_ ?_); focus omega) | ((with_reducible refine Bn_gtF ?_ ?_); focus omega) | ((with_reducible refine Bn_leT ?_ ?_); focus omega) | ((with_reducible refine Bn_leF ?_ ?_); focus omega) | ((with_reducible refine Bn_geT ?_ ?_); focus omega) | ((with_reducible refine Bn_geF ?_ ?_); focus omega) | ((with_reducible refine Bn_ad ?_ ?_ ?_); (focus omega); (focus omega)) | ((with_reducible refine Bn_su ?_ ?_ ?_); (focus omega); (focus omega))))
  refine Bn_cat (by simp; omega) ?_
  refine Cl1 n_integer_Valid (sanV (b := false) (by simp; omega) hb9) fun w14 x14 => ?_
  have x14 := x13.tr x14
  (repeat (first | (with_reducible refine Gd_T ?_) | (with_reducible refine Gd_F ?_) | (with_reducible refine Gd_TF ?_) | (with_reducible refine Gd_FT ?_) | (with_reducible refine Gd_U ?_) | (with_reducible refine Pick_T ?_) | (with_reducible refine Pick_F ?_) | (with_reducible refine If_T ?_) | (with_reducible refine If_F ?_) | (with_reducible refine Un_T ?_) | (with_reducible refine Un_F ?_) | (with_reducible refine Bn_eqST ?_) | (with_reducible refine Bn_neST ?_) | ((with_reducible refine Bn_eqSF ?_ ?_); focus assumption) | ((with_reducible refine Bn_eqS1 ?_ ?_); focus assumption) | ((with_reducible refine Bn_neSF ?_ ?_); focus assumption) | ((with_reducible refine Bn_eqBT ?_ ?_ ?_); (focus assumption); (focus decide)) | ((with_reducible refine Bn_eqBF ?_ ?_ ?_); (focus assumption); (focus decide)) | ((with_reducible refine Bn_neBT ?_ ?_ ?_); (focus assumption); (focus decide)) | ((with_reducible refine Bn_neBF ?_ ?_ ?_); (focus assumption); (focus decide)) | ((with_reducible refine Bn_eqT ?_ ?_); focus omega) | ((with_reducible refine Bn_eqF ?_ ?_); focus omega) | ((with_reducible refine Bn_neT ?_ ?_); focus omega) | ((with_reducible refine Bn_neF ?_ ?_); focus omega) | ((with_reducible refine Bn_ltT ?_ ?_); focus omega) | ((with_reducible refine Bn_ltF ?_ ?_); focus omega) | ((with_reducible refine Bn_gtT ?_ ?_); focus omega) | ((with_reducible refine Bn_gtF ?_ ?_); focus omega) | ((with_reducible refine Bn_leT ?_ ?_); focus omega) | ((with_reducible refine Bn_leF ?_ ?_); focus omega) | ((with_reducible refine Bn_geT ?_ ?_); focus omega) | ((with_reducible refine Bn_geF ?_ ?_); focus omega) | ((with_reducible refine Bn_ad ?_ ?_ ?_); (focus omega); (focus omega)) | ((with_reducible refine Bn_su ?_ ?_ ?_); (focus omega); (focus omega))))
  refine Bn_cons (by omega) ?_
  refine Cl1 n_integer_Valid (sanV (b := true) (by simp; omega) hbm) fun w15 x15 => ?_
  have x15 := x14.tr x15
  (repeat (first | (with_reducible refine Gd_T ?_) | (with_reducible refine Gd_F ?_) | (with_reducible refine Gd_TF ?_) | (with_reducible refine Gd_FT ?_) | (with_reducible refine Gd_U ?_) | (with_reducible refine Pick_T ?_) | (with_reducible refine Pick_F ?_) | (with_reducible refine If_T ?_) | (with_reducible refine If_F ?_) | (with_reducible refine Un_T ?_) | (with_reducible refine Un_F ?_) | (with_reducible refine Bn_eqST ?_) | (with_reducible refine Bn_neST ?_) | ((with_reducible refine Bn_eqSF ?_ ?_); focus assumption) | ((with_reducible refine Bn_eqS1 ?_ ?_); focus assumption) | ((with_reducible refine Bn_neSF ?_ ?_); focus assumption) | ((with_reducible refine Bn_eqBT ?_ ?_ ?_); (focus assumption); (focus decide)) | ((with_reducible refine Bn_eqBF ?_ ?_ ?_); (focus assumption); (focus decide)) | ((with_reducible refine Bn_neBT ?_ ?_ ?_); (focus assumption); (focus decide)) | ((with_reducible refine Bn_neBF ?_ ?_ ?_); (focus assumption); (focus decide)) | ((with_reducible refine Bn_eqT ?_ ?_); focus omega) | ((with_reducible refine Bn_eqF ?_ ?_); focus omega) | ((with_reducible refine Bn_neT ?_ ?_); focus omega) | ((with_reducible refine Bn_neF ?_ ?_); focus omega) | ((with_reducible refine Bn_ltT ?_ ?_); focus omega) | ((with_reducible refine Bn_ltF ?_ ?_); focus omega) | ((with_reducible refine Bn_gtT ?_ ?_); focus omega) | ((with_reducible refine Bn_gtF ?_ ?_); focus omega) | ((with_reducible refine Bn_leT ?_ ?_); focus omega) | ((with_reducible refine Bn_leF ?_ ?_); focus omega) | ((with_reducible refine Bn_geT ?_ ?_); focus omega) | ((with_reducible refine Bn_geF ?_ ?_); focus omega) | ((with_reducible refine Bn_ad ?_ ?_ ?_); (focus omega); (focus omega)) | ((with_reducible refine Bn_su ?_ ?_ ?_); (focus omega); (focus omega))))
  exact Ret.mk ⟨x15, rfl⟩
theorem lim_ttf {a : List UInt8} {mm nn x : Int} {m n : Nat} {w : World} (hm0 : -9223372036854775808 ≤ mm) (hm1 : mm ≤ 9223372036854775807) (hn0 : -9223372036854775808 ≤ nn) (hn1 : nn ≤ 9223372036854775807) (ht : Tab w)
    (hx : madeV a 5 = x) (hm : pickN mm = m) (hn : pickN nn = n) (hg : 0 < x) (hs : m + n < 200) (hz : ¬ m = 0) :
    Calls Tryz.prog 8 #[str a, .int .i64 mm, .int .i64 nn] w (Ret fun r w' => Ext w w' ∧ r = .bool true) := by
  have hMM := MaxI_pos
  have mMx : ((MaxI : Int) - 1).natAbs < MaxI := by omega
  have mNx : (-((MaxI : Int) - 1)).natAbs < MaxI := by omega
  have zx : x.natAbs < 100000 := by rw [← hx]; exact madeV_lt a 5
  have mx := small_MaxI (z := x) (by omega)
  have hml : m < 200 := by rw [← hm]; exact pickN_lt mm
  have hnl : n < 200 := by rw [← hn]; exact pickN_lt nn
  obtain ⟨most, hmost⟩ : ∃ l, l = List.replicate 200 (57 : UInt8) := ⟨_, rfl⟩
  obtain ⟨lm, hlm1⟩ : ∃ l, l = List.replicate m (57 : UInt8) := ⟨_, rfl⟩
  obtain ⟨ln, hln⟩ : ∃ l, l = List.replicate n (57 : UInt8) := ⟨_, rfl⟩
  have hmo : most = Lib.itoa ((MaxI : Int) - 1) := by rw [hmost, nines_itoa (by decide), p10_max]
  have hmn : 45 :: most = Lib.itoa (-((MaxI : Int) - 1)) := by rw [hmost, nines_neg (by decide), p10_max]
  have hl : most.length = 200 := by rw [hmost, List.length_replicate]
  have hb9 : validB (most ++ [57]) = false := by
    rw [hmost, ← List.replicate_succ', nines_itoa (by decide), valid_itoa]
    have := p10_succ 200
    rw [p10_max] at this
    exact decide_eq_false (by omega)
  have hbm : validB (45 :: most) = true := by rw [hmn]; exact valid_ok mNx
  have hlnl : ln.length = n := by rw [hln, List.length_replicate]
  have hlml : lm.length = m := by rw [hlm1, List.length_replicate]
  have h2n : 49 :: ln = Lib.itoa (2 * (p10 n : Int) - 1) := by rw [hln]; exact one_nines n
  have pm := p10_pos m
  have hmM := p10_lt hml
  have mone : (p10 m : Int).natAbs < MaxI := by omega
  have htn := two_lt hnl
  have hpn := p10_pos n
  have mtwo : (2 * (p10 n : Int) - 1).natAbs < MaxI := by omega
  have hlen := (prod_small hs).2
  have hlm2 : lm = Lib.itoa ((p10 m : Int) - 1) := by rw [hlm1]; exact nines_itoa (by omega)
  have mone1 : ((p10 m : Int) - 1).natAbs < MaxI := by omega
  have hMade : ∀ w, Calls Tryz.prog 13 #[str a, .int .i64 5] w (Ret fun r w' => Ext w w' ∧ r = str (Lib.itoa x)) := fun w => by
    have := c_MadeV (s := a) (m := 5) (w := w) (by decide)
    rw [hx] at this
    exact this
  have hPm : ∀ w, Calls Tryz.prog 23 #[.int .i64 mm, .int .i64 200] w (Ret fun r w' => Ext w w' ∧ r = .int .i64 m) := fun w => by
    have := c_pick (w := w) hm0 hm1
    rw [hm] at this
    exact this
  have hPn : ∀ w, Calls Tryz.prog 23 #[.int .i64 nn, .int .i64 200] w (Ret fun r w' => Ext w w' ∧ r = .int .i64 n) := fun w => by
    have := c_pick (w := w) hn0 hn1
    rw [hn] at this
    exact this
  have hB := Tryz.underlying4
  apply e_law03_IntegerLimits
  unfold s_law03_IntegerLimits
  refine Cl1 n_law03_sane (c_sane ht) fun w1 x1 => ?_
  refine Cl1 n_ref03_Made (hMade w1) fun w2 x2 => ?_
  have x2 := x1.tr x2
  refine Cl1 n_law03_nines (c_nines (n := 200) (by decide) hmost) fun w3 x3 => ?_
  have x3 := x2.tr x3
  refine Cl2 n_integer_Add (by rw [hmo]; exact (r_bad (c_Add mMx mx (ht.ext x3)) (by omega))) fun w4 x4 => ?_
  have x4 := x3.tr x4
  refine Bn_cons (by omega) ?_
  refine Cl2 n_integer_Sub (by rw [hmn]; exact (r_bad (c_Sub mNx mx (ht.ext x4)) (by omega))) fun w5 x5 => ?_
  have x5 := x4.tr x5
  refine Cl1 n_law03_pick (hPm w5) fun w6 x6 => ?_
  have x6 := x5.tr x6
  refine Cl1 n_law03_pick (hPn w6) fun w7 x7 => ?_
  have x7 := x6.tr x7
  refine Cl1 n_law03_nines (c_nines (by omega) hlm1) fun w8 x8 => ?_
  have x8 := x7.tr x8
  refine Cl2 n_integer_Add (by rw [hlm2]; exact (l1 ▸ k_Add (x := (p10 m : Int) - 1) (y := 1) (s := (p10 m : Int)) mone1 m1 mone (ht.ext x8) (by omega))) fun w9 x9 => ?_
  have x9 := x8.tr x9
  refine Jn2.mk fun K hK => ?_
  ((try simp -dsimp [go_sem]); repeat (simp -dsimp (disch := omega) only [w64, wu64, dlt_t, dlt_f, dle_t, dle_f, deq_t, deq_f, beq_t, beq_f, bne_t, bne_f, nlt_t, nlt_f, nle_t, nle_f, neq_t, neq_f, nbeq_t, nbeq_f, nbne_t, nbne_f, it_t, it_f, dit_t, dit_f]; try simp -dsimp [go_sem]))
  have x10 := x9
  refine hK _ _ _ ?_
  refine Cl1 n_law03_nines (c_nines (by omega) hln) fun w11 x11 => ?_
  have x11 := x10.tr x11
  refine Bn_cons (by omega) ?_
  refine Cl2 n_integer_Mul (by rw [h2n]; exact (k_Mul (s := (p10 m : Int) * (2 * (p10 n : Int) - 1)) mone mtwo (prod_small hs).1 (ht.ext x11) rfl)) fun w12 x12 => ?_
  have x12 := x11.tr x12
  refine Bn_addI (by omega) (by omega) ?_
  refine Bn_lssT (by omega) ?_
  refine Cl1 n_integer_Compare (itoa0 ▸ k_Compare (x := x) (y := 0) mx m0 (cmpI_gt hg)) fun w13 x13 => ?_
  have x13 := x12.tr x13
  clear mMx mNx zx mx mone mtwo hMM hmM htn hpn pm mone1
  (repeat (first | (with_reducible refine Gd_T ?_) | (with_reducible refine Gd_F ?_) | (with_reducible refine Gd_TF ?_) | (with_reducible refine Gd_FT ?_) | (with_reducible refine Gd_U ?_) | (with_reducible refine Pick_T ?_) | (with_reducible refine Pick_F ?_) | (with_reducible refine If_T ?_) | (with_reducible refine If_F ?_) | (with_reducible refine Un_T ?_) | (with_reducible refine Un_F ?_) | (with_reducible refine Bn_eqST ?_) | (with_reducible refine Bn_neST ?_) | ((with_reducible refine Bn_eqSF ?_ ?_); focus assumption) | ((with_reducible refine Bn_eqS1 ?_ ?_); focus assumption) | ((with_reducible refine Bn_neSF ?_ ?_); focus assumption) | ((with_reducible refine Bn_eqBT ?_ ?_ ?_); (focus assumption); (focus decide)) | ((with_reducible refine Bn_eqBF ?_ ?_ ?_); (focus assumption); (focus decide)) | ((with_reducible refine Bn_neBT ?_ ?_ ?_); (focus assumption); (focus decide)) | ((with_reducible refine Bn_neBF ?_ ?_ ?_); (focus assumption); (focus decide)) | ((with_reducible refine Bn_eqT ?_ ?_); focus omega) | ((with_reducible refine Bn_eqF ?_ ?_); focus omega) | ((with_reducible refine Bn_neT ?_ ?_); focus omega) | ((with_reducible refine Bn_neF ?_ ?_); focus omega) | ((with_reducible refine Bn_ltT ?_ ?_); focus omega) | ((with_reducible refine Bn_ltF ?_ ?_); focus omega) | ((with_reducible refine Bn_gtT ?_ ?_); focus omega) | ((with_reducible refine Bn_gtF ?_ ?_); focus omega) | ((with_reducible refine Bn_leT ?_ ?_); focus omega) | ((with_reducible refine Bn_leF ?_ ?_); focus omega) | ((with_reducible refine Bn_geT ?_ ?_); focus omega) | ((with_reducible refine Bn_geF ?_ ?_); focus omega) | ((with_reducible refine Bn_ad ?_ ?_ ?_); (focus omega); (focus omega)) | ((with_reducible refine Bn_su ?_ ?_ ?_); (focus omega); (focus omega))))
  refine Bt_lenS Tryz.underlying9 ?_
  (repeat (first | (with_reducible refine Gd_T ?_) | (with_reducible refine Gd_F ?_) | (with_reducible refine Gd_TF ?_) | (with_reducible refine Gd_FT ?_) | (with_reducible refine Gd_U ?_) | (with_reducible refine Pick_T ?_) | (with_reducible refine Pick_F ?_) | (with_reducible refine If_T ?_) | (with_reducible refine If_F ?_) | (with_reducible refine Un_T ?_) | (with_reducible refine Un_F ?_) | (with_reducible refine Bn_eqST ?_) | (with_reducible refine Bn_neST ?_) | ((with_reducible refine Bn_eqSF ?_ ?_); focus assumption) | ((with_reducible refine Bn_eqS1 ?_ ?_); focus assumption) | ((with_reducible refine Bn_neSF ?_ ?_); focus assumption) | ((with_reducible refine Bn_eqBT ?_ ?_ ?_); (focus assumption); (focus decide)) | ((with_reducible refine Bn_eqBF ?_ ?_ ?_); (focus assumption); (focus decide)) | ((with_reducible refine Bn_neBT ?_ ?_ ?_); (focus assumption); (focus decide)) | ((with_reducible refine Bn_neBF ?_ ?_ ?_); (focus assumption); (focus decide)) | ((with_reducible refine Bn_eqT ?_ ?_); focus omega) | ((with_reducible refine Bn_eqF ?_ ?_); focus omega) | ((with_reducible refine Bn_neT ?_ ?_); focus omega) | ((with_reducible refine Bn_neF ?_ ?_); focus omega) | ((with_reducible refine Bn_ltT ?_ ?_); focus omega) | ((with_reducible refine Bn_ltF ?_ ?_); focus omega) | ((with_reducible refine Bn_gtT ?_ ?_); focus omega) | ((with_reducible refine Bn_gtF ?_ ?_); focus omega) | ((with_reducible refine Bn_leT ?_ ?_); focus omega) | ((with_reducible refine Bn_leF ?_ ?_); focus omega) | ((with_reducible refine Bn_geT ?_ ?_); focus omega) | ((with_reducible refine Bn_geF ?_ ?_); focus omega) | ((with_reducible refine Bn_ad ?_ ?_ ?_); (focus omega); (focus omega)) | ((with_reducible refine Bn_su ?_ ?_ ?_); (focus omega); (focus omega))))
  refine Bn_cat (by simp; omega) ?_
  refine Cl1 n_integer_Valid (sanV (b := false) (by simp; omega) hb9) fun w14 x14 => ?_
  have x14 := x13.tr x14
  (repeat (first | (with_reducible refine Gd_T ?_) | (with_reducible refine Gd_F ?_) | (with_reducible refine Gd_TF ?_) | (with_reducible refine Gd_FT ?_) | (with_reducible refine Gd_U ?_) | (with_reducible refine Pick_T ?_) | (with_reducible refine Pick_F ?_) | (with_reducible refine If_T ?_) | (with_reducible refine If_F ?_) | (with_reducible refine Un_T ?_) | (with_reducible refine Un_F ?_) | (with_reducible refine Bn_eqST ?_) | (with_reducible refine Bn_neST ?_) | ((with_reducible refine Bn_eqSF ?_ ?_); focus assumption) | ((with_reducible refine Bn_eqS1 ?_ ?_); focus assumption) | ((with_reducible refine Bn_neSF ?_ ?_); focus assumption) | ((with_reducible refine Bn_eqBT ?_ ?_ ?_); (focus assumption); (focus decide)) | ((with_reducible refine Bn_eqBF ?_ ?_ ?_); (focus assumption); (focus decide)) | ((with_reducible refine Bn_neBT ?_ ?_ ?_); (focus assumption); (focus decide)) | ((with_reducible refine Bn_neBF ?_ ?_ ?_); (focus assumption); (focus decide)) | ((with_reducible refine Bn_eqT ?_ ?_); focus omega) | ((with_reducible refine Bn_eqF ?_ ?_); focus omega) | ((with_reducible refine Bn_neT ?_ ?_); focus omega) | ((with_reducible refine Bn_neF ?_ ?_); focus omega) | ((with_reducible refine Bn_ltT ?_ ?_); focus omega) | ((with_reducible refine Bn_ltF ?_ ?_); focus omega) | ((with_reducible refine Bn_gtT ?_ ?_); focus omega) | ((with_reducible refine Bn_gtF ?_ ?_); focus omega) | ((with_reducible refine Bn_leT ?_ ?_); focus omega) | ((with_reducible refine Bn_leF ?_ ?_); focus omega) | ((with_reducible refine Bn_geT ?_ ?_); focus omega) | ((with_reducible refine Bn_geF ?_ ?_); focus omega) | ((with_reducible refine Bn_ad ?_ ?_ ?_); (focus omega); (focus omega)) | ((with_reducible refine Bn_su ?_ ?_ ?_); (focus omega); (focus omega))))
  refine Bn_cons (by omega) ?_
  refine Cl1 n_integer_Valid (sanV (b := true) (by simp; omega) hbm) fun w15 x15 => ?_
  have x15 := x14.tr x15
  (repeat (first | (with_reducible refine Gd_T ?_) | (with_reducible refine Gd_F ?_) | (with_reducible refine Gd_TF ?_) | (with_reducible refine Gd_FT ?_) | (with_reducible refine Gd_U ?_) | (with_reducible refine Pick_T ?_) | (with_reducible refine Pick_F ?_) | (with_reducible refine If_T ?_) | (with_reducible refine If_F ?_) | (with_reducible refine Un_T ?_) | (with_reducible refine Un_F ?_) | (with_reducible refine Bn_eqST ?_) | (with_reducible refine Bn_neST ?_) | ((with_reducible refine Bn_eqSF ?_ ?_); focus assumption) | ((with_reducible refine Bn_eqS1 ?_ ?_); focus assumption) | ((with_reducible refine Bn_neSF ?_ ?_); focus assumption) | ((with_reducible refine Bn_eqBT ?_ ?_ ?_); (focus assumption); (focus decide)) | ((with_reducible refine Bn_eqBF ?_ ?_ ?_); (focus assumption); (focus decide)) | ((with_reducible refine Bn_neBT ?_ ?_ ?_); (focus assumption); (focus decide)) | ((with_reducible refine Bn_neBF ?_ ?_ ?_); (focus assumption); (focus decide)) | ((with_reducible refine Bn_eqT ?_ ?_); focus omega) | ((with_reducible refine Bn_eqF ?_ ?_); focus omega) | ((with_reducible refine Bn_neT ?_ ?_); focus omega) | ((with_reducible refine Bn_neF ?_ ?_); focus omega) | ((with_reducible refine Bn_ltT ?_ ?_); focus omega) | ((with_reducible refine Bn_ltF ?_ ?_); focus omega) | ((with_reducible refine Bn_gtT ?_ ?_); focus omega) | ((with_reducible refine Bn_gtF ?_ ?_); focus omega) | ((with_reducible refine Bn_leT ?_ ?_); focus omega) | ((with_reducible refine Bn_leF ?_ ?_); focus omega) | ((with_reducible refine Bn_geT ?_ ?_); focus omega) | ((with_reducible refine Bn_geF ?_ ?_); focus omega) | ((with_reducible refine Bn_ad ?_ ?_ ?_); (focus omega); (focus omega)) | ((with_reducible refine Bn_su ?_ ?_ ?_); (focus omega); (focus omega))))
  exact Ret.mk ⟨x15, rfl⟩
theorem lim_tff {a : List UInt8} {mm nn x : Int} {m n : Nat} {w : World} (hm0 : -9223372036854775808 ≤ mm) (hm1 : mm ≤ 9223372036854775807) (hn0 : -9223372036854775808 ≤ nn) (hn1 : nn ≤ 9223372036854775807) (ht : Tab w)
    (hx : madeV a 5 = x) (hm : pickN mm = m) (hn : pickN nn = n) (hg : 0 < x) (hs : ¬ m + n < 200) (hz : ¬ m = 0) :
    Calls Tryz.prog 8 #[str a, .int .i64 mm, .int .i64 nn] w (Ret fun r w' => Ext w w' ∧ r = .bool true) := by
  have hMM := MaxI_pos
  have mMx : ((MaxI : Int) - 1).natAbs < MaxI := by omega
  have mNx : (-((MaxI : Int) - 1)).natAbs < MaxI := by omega
  have zx : x.natAbs < 100000 := by rw [← hx]; exact madeV_lt a 5
  have mx := small_MaxI (z := x) (by omega)
  have hml : m < 200 := by rw [← hm]; exact pickN_lt mm
  have hnl : n < 200 := by rw [← hn]; exact pickN_lt nn
  obtain ⟨most, hmost⟩ : ∃ l, l = List.replicate 200 (57 : UInt8) := ⟨_, rfl⟩
  obtain ⟨lm, hlm1⟩ : ∃ l, l = List.replicate m (57 : UInt8) := ⟨_, rfl⟩
  obtain ⟨ln, hln⟩ : ∃ l, l = List.replicate n (57 : UInt8) := ⟨_, rfl⟩
  have hmo : most = Lib.itoa ((MaxI : Int) - 1) := by rw [hmost, nines_itoa (by decide), p10_max]
  have hmn : 45 :: most = Lib.itoa (-((MaxI : Int) - 1)) := by rw [hmost, nines_neg (by decide), p10_max]
  have hl : most.length = 200 := by rw [hmost, List.length_replicate]
  have hb9 : validB (most ++ [57]) = false := by
    rw [hmost, ← List.replicate_succ', nines_itoa (by decide), valid_itoa]
    have := p10_succ 200
    rw [p10_max] at this
    exact decide_eq_false (by omega)
  have hbm : validB (45 :: most) = true := by rw [hmn]; exact valid_ok mNx
  have hlnl : ln.length = n := by rw [hln, List.length_replicate]
  have hlml : lm.length = m := by rw [hlm1, List.length_replicate]
  have h2n : 49 :: ln = Lib.itoa (2 * (p10 n : Int) - 1) := by rw [hln]; exact one_nines n
  have pm := p10_pos m
  have hmM := p10_lt hml
  have mone : (p10 m : Int).natAbs < MaxI := by omega
  have htn := two_lt hnl
  have hpn := p10_pos n
  have mtwo : (2 * (p10 n : Int) - 1).natAbs < MaxI := by omega
  have hlm2 : lm = Lib.itoa ((p10 m : Int) - 1) := by rw [hlm1]; exact nines_itoa (by omega)
  have mone1 : ((p10 m : Int) - 1).natAbs < MaxI := by omega
  have hMade : ∀ w, Calls Tryz.prog 13 #[str a, .int .i64 5] w (Ret fun r w' => Ext w w' ∧ r = str (Lib.itoa x)) := fun w => by
    have := c_MadeV (s := a) (m := 5) (w := w) (by decide)
    rw [hx] at this
    exact this
  have hPm : ∀ w, Calls Tryz.prog 23 #[.int .i64 mm, .int .i64 200] w (Ret fun r w' => Ext w w' ∧ r = .int .i64 m) := fun w => by
    have := c_pick (w := w) hm0 hm1
    rw [hm] at this
    exact this
  have hPn : ∀ w, Calls Tryz.prog 23 #[.int .i64 nn, .int .i64 200] w (Ret fun r w' => Ext w w' ∧ r = .int .i64 n) := fun w => by
    have := c_pick (w := w) hn0 hn1
    rw [hn] at this
    exact this
  have hB := Tryz.underlying4
  apply e_law03_IntegerLimits
  unfold s_law03_IntegerLimits
  refine Cl1 n_law03_sane (c_sane ht) fun w1 x1 => ?_
  refine Cl1 n_ref03_Made (hMade w1) fun w2 x2 => ?_
  have x2 := x1.tr x2
  refine Cl1 n_law03_nines (c_nines (n := 200) (by decide) hmost) fun w3 x3 => ?_
  have x3 := x2.tr x3
  refine Cl2 n_integer_Add (by rw [hmo]; exact (r_bad (c_Add mMx mx (ht.ext x3)) (by omega))) fun w4 x4 => ?_
  have x4 := x3.tr x4
  refine Bn_cons (by omega) ?_
  refine Cl2 n_integer_Sub (by rw [hmn]; exact (r_bad (c_Sub mNx mx (ht.ext x4)) (by omega))) fun w5 x5 => ?_
  have x5 := x4.tr x5
  refine Cl1 n_law03_pick (hPm w5) fun w6 x6 => ?_
  have x6 := x5.tr x6
  refine Cl1 n_law03_pick (hPn w6) fun w7 x7 => ?_
  have x7 := x6.tr x7
  refine Cl1 n_law03_nines (c_nines (by omega) hlm1) fun w8 x8 => ?_
  have x8 := x7.tr x8
  refine Cl2 n_integer_Add (by rw [hlm2]; exact (l1 ▸ k_Add (x := (p10 m : Int) - 1) (y := 1) (s := (p10 m : Int)) mone1 m1 mone (ht.ext x8) (by omega))) fun w9 x9 => ?_
  have x9 := x8.tr x9
  refine Jn2.mk fun K hK => ?_
  ((try simp -dsimp [go_sem]); repeat (simp -dsimp (disch := omega) only [w64, wu64, dlt_t, dlt_f, dle_t, dle_f, deq_t, deq_f, beq_t, beq_f, bne_t, bne_f, nlt_t, nlt_f, nle_t, nle_f, neq_t, neq_f, nbeq_t, nbeq_f, nbne_t, nbne_f, it_t, it_f, dit_t, dit_f]; try simp -dsimp [go_sem]))
  have x10 := x9
  refine hK _ _ _ ?_
  refine Cl1 n_law03_nines (c_nines (by omega) hln) fun w11 x11 => ?_
  have x11 := x10.tr x11
  refine Bn_cons (by omega) ?_
  refine Cl2 n_integer_Mul (by rw [h2n]; exact (r_bad (c_Mul mone mtwo (ht.ext x11)) (.inl (prod_big (by omega))))) fun w12 x12 => ?_
  have x12 := x11.tr x12
  refine Bn_addI (by omega) (by omega) ?_
  refine Bn_lssF (by omega) ?_
  refine Cl1 n_integer_Compare (itoa0 ▸ k_Compare (x := x) (y := 0) mx m0 (cmpI_gt hg)) fun w13 x13 => ?_
  have x13 := x12.tr x13
  clear mMx mNx zx mx mone mtwo hMM hmM htn hpn pm mone1
  (repeat (first | (with_reducible refine Gd_T ?_) | (with_reducible refine Gd_F ?_) | (with_reducible refine Gd_TF ?_) | (with_reducible refine Gd_FT ?_) | (with_reducible refine Gd_U ?_) | (with_reducible refine Pick_T ?_) | (with_reducible refine Pick_F ?_) | (with_reducible refine If_T ?_) | (with_reducible refine If_F ?_) | (with_reducible refine Un_T ?_) | (with_reducible refine Un_F ?_) | (with_reducible refine Bn_eqST ?_) | (with_reducible refine Bn_neST ?_) | ((with_reducible refine Bn_eqSF ?_ ?_); focus assumption) | ((with_reducible refine Bn_eqS1 ?_ ?_); focus assumption) | ((with_reducible refine Bn_neSF ?_ ?_); focus assumption) | ((with_reducible refine Bn_eqBT ?_ ?_ ?_); (focus assumption); (focus decide)) | ((with_reducible refine Bn_eqBF ?_ ?_ ?_); (focus assumption); (focus decide)) | ((with_reducible refine Bn_neBT ?_ ?_ ?_); (focus assumption); (focus decide)) | ((with_reducible refine Bn_neBF ?_ ?_ ?_); (focus assumption); (focus decide)) | ((with_reducible refine Bn_eqT ?_ ?_); focus omega) | ((with_reducible refine Bn_eqF ?_ ?_); focus omega) | ((with_reducible refine Bn_neT ?_ ?_); focus omega) | ((with_reducible refine Bn_neF ?_ ?_); focus omega) | ((with_reducible refine Bn_ltT ?_ ?_); focus omega) | ((with_reducible refine Bn_ltF ?_ ?_); focus omega) | ((with_reducible refine Bn_gtT ?_ ?_); focus omega) | ((with_reducible refine Bn_gtF ?_ ?_); focus omega) | ((with_reducible refine Bn_leT ?_ ?_); focus omega) | ((with_reducible refine Bn_leF ?_ ?_); focus omega) | ((with_reducible refine Bn_geT ?_ ?_); focus omega) | ((with_reducible refine Bn_geF ?_ ?_); focus omega) | ((with_reducible refine Bn_ad ?_ ?_ ?_); (focus omega); (focus omega)) | ((with_reducible refine Bn_su ?_ ?_ ?_); (focus omega); (focus omega))))
  refine Bn_cat (by simp; omega) ?_
  refine Cl1 n_integer_Valid (sanV (b := false) (by simp; omega) hb9) fun w14 x14 => ?_
  have x14 := x13.tr x14
  (repeat (first | (with_reducible refine Gd_T ?_) | (with_reducible refine Gd_F ?_) | (with_reducible refine Gd_TF ?_) | (with_reducible refine Gd_FT ?_) | (with_reducible refine Gd_U ?_) | (with_reducible refine Pick_T ?_) | (with_reducible refine Pick_F ?_) | (with_reducible refine If_T ?_) | (with_reducible refine If_F ?_) | (with_reducible refine Un_T ?_) | (with_reducible refine Un_F ?_) | (with_reducible refine Bn_eqST ?_) | (with_reducible refine Bn_neST ?_) | ((with_reducible refine Bn_eqSF ?_ ?_); focus assumption) | ((with_reducible refine Bn_eqS1 ?_ ?_); focus assumption) | ((with_reducible refine Bn_neSF ?_ ?_); focus assumption) | ((with_reducible refine Bn_eqBT ?_ ?_ ?_); (focus assumption); (focus decide)) | ((with_reducible refine Bn_eqBF ?_ ?_ ?_); (focus assumption); (focus decide)) | ((with_reducible refine Bn_neBT ?_ ?_ ?_); (focus assumption); (focus decide)) | ((with_reducible refine Bn_neBF ?_ ?_ ?_); (focus assumption); (focus decide)) | ((with_reducible refine Bn_eqT ?_ ?_); focus omega) | ((with_reducible refine Bn_eqF ?_ ?_); focus omega) | ((with_reducible refine Bn_neT ?_ ?_); focus omega) | ((with_reducible refine Bn_neF ?_ ?_); focus omega) | ((with_reducible refine Bn_ltT ?_ ?_); focus omega) | ((with_reducible refine Bn_ltF ?_ ?_); focus omega) | ((with_reducible refine Bn_gtT ?_ ?_); focus omega) | ((with_reducible refine Bn_gtF ?_ ?_); focus omega) | ((with_reducible refine Bn_leT ?_ ?_); focus omega) | ((with_reducible refine Bn_leF ?_ ?_); focus omega) | ((with_reducible refine Bn_geT ?_ ?_); focus omega) | ((with_reducible refine Bn_geF ?_ ?_); focus omega) | ((with_reducible refine Bn_ad ?_ ?_ ?_); (focus omega); (focus omega)) | ((with_reducible refine Bn_su ?_ ?_ ?_); (focus omega); (focus omega))))
  refine Bn_cons (by omega) ?_
  refine Cl1 n_integer_Valid (sanV (b := true) (by simp; omega) hbm) fun w15 x15 => ?_
  have x15 := x14.tr x15
  (repeat (first | (with_reducible refine Gd_T ?_) | (with_reducible refine Gd_F ?_) | (with_reducible refine Gd_TF ?_) | (with_reducible refine Gd_FT ?_) | (with_reducible refine Gd_U ?_) | (with_reducible refine Pick_T ?_) | (with_reducible refine Pick_F ?_) | (with_reducible refine If_T ?_) | (with_reducible refine If_F ?_) | (with_reducible refine Un_T ?_) | (with_reducible refine Un_F ?_) | (with_reducible refine Bn_eqST ?_) | (with_reducible refine Bn_neST ?_) | ((with_reducible refine Bn_eqSF ?_ ?_); focus assumption) | ((with_reducible refine Bn_eqS1 ?_ ?_); focus assumption) | ((with_reducible refine Bn_neSF ?_ ?_); focus assumption) | ((with_reducible refine Bn_eqBT ?_ ?_ ?_); (focus assumption); (focus decide)) | ((with_reducible refine Bn_eqBF ?_ ?_ ?_); (focus assumption); (focus decide)) | ((with_reducible refine Bn_neBT ?_ ?_ ?_); (focus assumption); (focus decide)) | ((with_reducible refine Bn_neBF ?_ ?_ ?_); (focus assumption); (focus decide)) | ((with_reducible refine Bn_eqT ?_ ?_); focus omega) | ((with_reducible refine Bn_eqF ?_ ?_); focus omega) | ((with_reducible refine Bn_neT ?_ ?_); focus omega) | ((with_reducible refine Bn_neF ?_ ?_); focus omega) | ((with_reducible refine Bn_ltT ?_ ?_); focus omega) | ((with_reducible refine Bn_ltF ?_ ?_); focus omega) | ((with_reducible refine Bn_gtT ?_ ?_); focus omega) | ((with_reducible refine Bn_gtF ?_ ?_); focus omega) | ((with_reducible refine Bn_leT ?_ ?_); focus omega) | ((with_reducible refine Bn_leF ?_ ?_); focus omega) | ((with_reducible refine Bn_geT ?_ ?_); focus omega) | ((with_reducible refine Bn_geF ?_ ?_); focus omega) | ((with_reducible refine Bn_ad ?_ ?_ ?_); (focus omega); (focus omega)) | ((with_reducible refine Bn_su ?_ ?_ ?_); (focus omega); (focus omega))))
  exact Ret.mk ⟨x15, rfl⟩
theorem lim_ftt {a : List UInt8} {mm nn x : Int} {m n : Nat} {w : World} (hm0 : -9223372036854775808 ≤ mm) (hm1 : mm ≤ 9223372036854775807) (hn0 : -9223372036854775808 ≤ nn) (hn1 : nn ≤ 9223372036854775807) (ht : Tab w)
    (hx : madeV a 5 = x) (hm : pickN mm = m) (hn : pickN nn = n) (hg : ¬ 0 < x) (hs : m + n < 200) (hz : m = 0) :
    Calls Tryz.prog 8 #[str a, .int .i64 mm, .int .i64 nn] w (Ret fun r w' => Ext w w' ∧ r = .bool true) := by
  have hMM := MaxI_pos
  have mMx : ((MaxI : Int) - 1).natAbs < MaxI := by omega
  have mNx : (-((MaxI : Int) - 1)).natAbs < MaxI := by omega
  have zx : x.natAbs < 100000 := by rw [← hx]; exact madeV_lt a 5
  have mx := small_MaxI (z := x) (by omega)
  have hml : m < 200 := by rw [← hm]; exact pickN_lt mm
  have hnl : n < 200 := by rw [← hn]; exact pickN_lt nn
  obtain ⟨most, hmost⟩ : ∃ l, l = List.replicate 200 (57 : UInt8) := ⟨_, rfl⟩
  obtain ⟨lm, hlm1⟩ : ∃ l, l = List.replicate m (57 : UInt8) := ⟨_, rfl⟩
  obtain ⟨ln, hln⟩ : ∃ l, l = List.replicate n (57 : UInt8) := ⟨_, rfl⟩
  have hmo : most = Lib.itoa ((MaxI : Int) - 1) := by rw [hmost, nines_itoa (by decide), p10_max]
  have hmn : 45 :: most = Lib.itoa (-((MaxI : Int) - 1)) := by rw [hmost, nines_neg (by decide), p10_max]
  have hl : most.length = 200 := by rw [hmost, List.length_replicate]
  have hb9 : validB (most ++ [57]) = false := by
    rw [hmost, ← List.replicate_succ', nines_itoa (by decide), valid_itoa]
    have := p10_succ 200
    rw [p10_max] at this
    exact decide_eq_false (by omega)
  have hbm : validB (45 :: most) = true := by rw [hmn]; exact valid_ok mNx
  have hlnl : ln.length = n := by rw [hln, List.length_replicate]
  have hlml : lm.length = m := by rw [hlm1, List.length_replicate]
  have h2n : 49 :: ln = Lib.itoa (2 * (p10 n : Int) - 1) := by rw [hln]; exact one_nines n
  have pm := p10_pos m
  have hmM := p10_lt hml
  have mone : (p10 m : Int).natAbs < MaxI := by omega
  have htn := two_lt hnl
  have hpn := p10_pos n
  have mtwo : (2 * (p10 n : Int) - 1).natAbs < MaxI := by omega
  have c1 := cmpI_le (show x ≤ 0 by omega)
  have hlen := (prod_small hs).2
  have hb : (validB lm && validB [49]) = false := by rw [hlm1, hz]; rfl
  have hp1 : (p10 m : Int) = 1 := by rw [hz]; unfold p10; rfl
  have hMade : ∀ w, Calls Tryz.prog 13 #[str a, .int .i64 5] w (Ret fun r w' => Ext w w' ∧ r = str (Lib.itoa x)) := fun w => by
    have := c_MadeV (s := a) (m := 5) (w := w) (by decide)
    rw [hx] at this
    exact this
  have hPm : ∀ w, Calls Tryz.prog 23 #[.int .i64 mm, .int .i64 200] w (Ret fun r w' => Ext w w' ∧ r = .int .i64 m) := fun w => by
    have := c_pick (w := w) hm0 hm1
    rw [hm] at this
    exact this
  have hPn : ∀ w, Calls Tryz.prog 23 #[.int .i64 nn, .int .i64 200] w (Ret fun r w' => Ext w w' ∧ r = .int .i64 n) := fun w => by
    have := c_pick (w := w) hn0 hn1
    rw [hn] at this
    exact this
  have hB := Tryz.underlying4
  apply e_law03_IntegerLimits
  unfold s_law03_IntegerLimits
  refine Cl1 n_law03_sane (c_sane ht) fun w1 x1 => ?_
  refine Cl1 n_ref03_Made (hMade w1) fun w2 x2 => ?_
  have x2 := x1.tr x2
  refine Cl1 n_law03_nines (c_nines (n := 200) (by decide) hmost) fun w3 x3 => ?_
  have x3 := x2.tr x3
  refine Cl2 n_integer_Add (by rw [hmo]; exact (k_Add (s := (MaxI : Int) - 1 + x) mMx mx (by omega) (ht.ext x3) rfl)) fun w4 x4 => ?_
  have x4 := x3.tr x4
  refine Bn_cons (by omega) ?_
  refine Cl2 n_integer_Sub (by rw [hmn]; exact (k_Sub (s := -((MaxI : Int) - 1) - x) mNx mx (by omega) (ht.ext x4) rfl)) fun w5 x5 => ?_
  have x5 := x4.tr x5
  refine Cl1 n_law03_pick (hPm w5) fun w6 x6 => ?_
  have x6 := x5.tr x6
  refine Cl1 n_law03_pick (hPn w6) fun w7 x7 => ?_
  have x7 := x6.tr x7
  refine Cl1 n_law03_nines (c_nines (by omega) hlm1) fun w8 x8 => ?_
  have x8 := x7.tr x8
  refine Cl2 n_integer_Add (c_Add_bad (by omega) (by decide) hb) fun w9 x9 => ?_
  have x9 := x8.tr x9
  refine Jn2.mk fun K hK => ?_
  ((try simp -dsimp [go_sem]); repeat (simp -dsimp (disch := omega) only [w64, wu64, dlt_t, dlt_f, dle_t, dle_f, deq_t, deq_f, beq_t, beq_f, bne_t, bne_f, nlt_t, nlt_f, nle_t, nle_f, neq_t, neq_f, nbeq_t, nbeq_f, nbne_t, nbne_f, it_t, it_f, dit_t, dit_f]; try simp -dsimp [go_sem]))
  refine Cl2 n_integer_Add (itoa0 ▸ l1 ▸ k_Add (x := 0) (y := 1) (s := (p10 m : Int)) m0 m1 mone (ht.ext x9) hp1.symm) fun w10 x10 => ?_
  have x10 := x9.tr x10
  refine hK _ _ _ ?_
  refine Cl1 n_law03_nines (c_nines (by omega) hln) fun w11 x11 => ?_
  have x11 := x10.tr x11
  refine Bn_cons (by omega) ?_
  refine Cl2 n_integer_Mul (by rw [h2n]; exact (k_Mul (s := (p10 m : Int) * (2 * (p10 n : Int) - 1)) mone mtwo (prod_small hs).1 (ht.ext x11) rfl)) fun w12 x12 => ?_
  have x12 := x11.tr x12
  refine Bn_addI (by omega) (by omega) ?_
  refine Bn_lssT (by omega) ?_
  refine Cl1 n_integer_Compare (itoa0 ▸ k_Compare (x := x) (y := 0) mx m0 rfl) fun w13 x13 => ?_
  have x13 := x12.tr x13
  clear mMx mNx zx mx mone mtwo hMM hmM htn hpn pm hp1
  (repeat (first | (with_reducible refine Gd_T ?_) | (with_reducible refine Gd_F ?_) | (with_reducible refine Gd_TF ?_) | (with_reducible refine Gd_FT ?_) | (with_reducible refine Gd_U ?_) | (with_reducible refine Pick_T ?_) | (with_reducible refine Pick_F ?_) | (with_reducible refine If_T ?_) | (with_reducible refine If_F ?_) | (with_reducible refine Un_T ?_) | (with_reducible refine Un_F ?_) | (with_reducible refine Bn_eqST ?_) | (with_reducible refine Bn_neST ?_) | ((with_reducible refine Bn_eqSF ?_ ?_); focus assumption) | ((with_reducible refine Bn_eqS1 ?_ ?_); focus assumption) | ((with_reducible refine Bn_neSF ?_ ?_); focus assumption) | ((with_reducible refine Bn_eqBT ?_ ?_ ?_); (focus assumption); (focus decide)) | ((with_reducible refine Bn_eqBF ?_ ?_ ?_); (focus assumption); (focus decide)) | ((with_reducible refine Bn_neBT ?_ ?_ ?_); (focus assumption); (focus decide)) | ((with_reducible refine Bn_neBF ?_ ?_ ?_); (focus assumption); (focus decide)) | ((with_reducible refine Bn_eqT ?_ ?_); focus omega) | ((with_reducible refine Bn_eqF ?_ ?_); focus omega) | ((with_reducible refine Bn_neT ?_ ?_); focus omega) | ((with_reducible refine Bn_neF ?_ ?_); focus omega) | ((with_reducible refine Bn_ltT ?_ ?_); focus omega) | ((with_reducible refine Bn_ltF ?_ ?_); focus omega) | ((with_reducible refine Bn_gtT ?_ ?_); focus omega) | ((with_reducible refine Bn_gtF ?_ ?_); focus omega) | ((with_reducible refine Bn_leT ?_ ?_); focus omega) | ((with_reducible refine Bn_leF ?_ ?_); focus omega) | ((with_reducible refine Bn_geT ?_ ?_); focus omega) | ((with_reducible refine Bn_geF ?_ ?_); focus omega) | ((with_reducible refine Bn_ad ?_ ?_ ?_); (focus omega); (focus omega)) | ((with_reducible refine Bn_su ?_ ?_ ?_); (focus omega); (focus omega))))
  refine Bt_lenS Tryz.underlying9 ?_
  (repeat (first | (with_reducible refine Gd_T ?_) | (with_reducible refine Gd_F ?_) | (with_reducible refine Gd_TF ?_) | (with_reducible refine Gd_FT ?_) | (with_reducible refine Gd_U ?_) | (with_reducible refine Pick_T ?_) | (with_reducible refine Pick_F ?_) | (with_reducible refine If_T ?_) | (with_reducible refine If_F ?_) | (with_reducible refine Un_T ?_) | (with_reducible refine Un_F ?_) | (with_reducible refine Bn_eqST ?_) | (with_reducible refine Bn_neST ?_) | ((with_reducible refine Bn_eqSF ?_ ?_); focus assumption) | ((with_reducible refine Bn_eqS1 ?_ ?_); focus assumption) | ((with_reducible refine Bn_neSF ?_ ?_); focus assumption) | ((with_reducible refine Bn_eqBT ?_ ?_ ?_); (focus assumption); (focus decide)) | ((with_reducible refine Bn_eqBF ?_ ?_ ?_); (focus assumption); (focus decide)) | ((with_reducible refine Bn_neBT ?_ ?_ ?_); (focus assumption); (focus decide)) | ((with_reducible refine Bn_neBF ?_ ?_ ?_); (focus assumption); (focus decide)) | ((with_reducible refine Bn_eqT ?_ ?_); focus omega) | ((with_reducible refine Bn_eqF ?_ ?_); focus omega) | ((with_reducible refine Bn_neT ?_ ?_); focus omega) | ((with_reducible refine Bn_neF ?_ ?_); focus omega) | ((with_reducible refine Bn_ltT ?_ ?_); focus omega) | ((with_reducible refine Bn_ltF ?_ ?_); focus omega) | ((with_reducible refine Bn_gtT ?_ ?_); focus omega) | ((with_reducible refine Bn_gtF ?_ ?_); focus omega) | ((with_reducible refine Bn_leT ?_ ?_); focus omega) | ((with_reducible refine Bn_leF ?_ ?_); focus omega) | ((with_reducible refine Bn_geT ?_ ?_); focus omega) | ((with_reducible refine Bn_geF ?_ ?_); focus omega) | ((with_reducible refine Bn_ad ?_ ?_ ?_); (focus omega); (focus omega)) | ((with_reducible refine Bn_su ?_ ?_ ?_); (focus omega); (focus omega))))
  refine Bn_cat (by simp; omega) ?_
  refine Cl1 n_integer_Valid (sanV (b := false) (by simp; omega) hb9) fun w14 x14 => ?_
  have x14 := x13.tr x14
  (repeat (first | (with_reducible refine Gd_T ?_) | (with_reducible refine Gd_F ?_) | (with_reducible refine Gd_TF ?_) | (with_reducible refine Gd_FT ?_) | (with_reducible refine Gd_U ?_) | (with_reducible refine Pick_T ?_) | (with_reducible refine Pick_F ?_) | (with_reducible refine If_T ?_) | (with_reducible refine If_F ?_) | (with_reducible refine Un_T ?_) | (with_reducible refine Un_F ?_) | (with_reducible refine Bn_eqST ?_) | (with_reducible refine Bn_neST ?_) | ((with_reducible refine Bn_eqSF ?_ ?_); focus assumption) | ((with_reducible refine Bn_eqS1 ?_ ?_); focus assumption) | ((with_reducible refine Bn_neSF ?_ ?_); focus assumption) | ((with_reducible refine Bn_eqBT ?_ ?_ ?_); (focus assumption); (focus decide)) | ((with_reducible refine Bn_eqBF ?_ ?_ ?_); (focus assumption); (focus decide)) | ((with_reducible refine Bn_neBT ?_ ?_ ?_); (focus assumption); (focus decide)) | ((with_reducible refine Bn_neBF ?_ ?_ ?_); (focus assumption); (focus decide)) | ((with_reducible refine Bn_eqT ?_ ?_); focus omega) | ((with_reducible refine Bn_eqF ?_ ?_); focus omega) | ((with_reducible refine Bn_neT ?_ ?_); focus omega) | ((with_reducible refine Bn_neF ?_ ?_); focus omega) | ((with_reducible refine Bn_ltT ?_ ?_); focus omega) | ((with_reducible refine Bn_ltF ?_ ?_); focus omega) | ((with_reducible refine Bn_gtT ?_ ?_); focus omega) | ((with_reducible refine Bn_gtF ?_ ?_); focus omega) | ((with_reducible refine Bn_leT ?_ ?_); focus omega) | ((with_reducible refine Bn_leF ?_ ?_); focus omega) | ((with_reducible refine Bn_geT ?_ ?_); focus omega) | ((with_reducible refine Bn_geF ?_ ?_); focus omega) | ((with_reducible refine Bn_ad ?_ ?_ ?_); (focus omega); (focus omega)) | ((with_reducible refine Bn_su ?_ ?_ ?_); (focus omega); (focus omega))))
  refine Bn_cons (by omega) ?_
  refine Cl1 n_integer_Valid (sanV (b := true) (by simp; omega) hbm) fun w15 x15 => ?_
  have x15 := x14.tr x15
  (repeat (first | (with_reducible refine Gd_T ?_) | (with_reducible refine Gd_F ?_) | (with_reducible refine Gd_TF ?_) | (with_reducible refine Gd_FT ?_) | (with_reducible refine Gd_U ?_) | (with_reducible refine Pick_T ?_) | (with_reducible refine Pick_F ?_) | (with_reducible refine If_T ?_) | (with_reducible refine If_F ?_) | (with_reducible refine Un_T ?_) | (with_reducible refine Un_F ?_) | (with_reducible refine Bn_eqST ?_) | (with_reducible refine Bn_neST ?_) | ((with_reducible refine Bn_eqSF ?_ ?_); focus assumption) | ((with_reducible refine Bn_eqS1 ?_ ?_); focus assumption) | ((with_reducible refine Bn_neSF ?_ ?_); focus assumption) | ((with_reducible refine Bn_eqBT ?_ ?_ ?_); (focus assumption); (focus decide)) | ((with_reducible refine Bn_eqBF ?_ ?_ ?_); (focus assumption); (focus decide)) | ((with_reducible refine Bn_neBT ?_ ?_ ?_); (focus assumption); (focus decide)) | ((with_reducible refine Bn_neBF ?_ ?_ ?_); (focus assumption); (focus decide)) | ((with_reducible refine Bn_eqT ?_ ?_); focus omega) | ((with_reducible refine Bn_eqF ?_ ?_); focus omega) | ((with_reducible refine Bn_neT ?_ ?_); focus omega) | ((with_reducible refine Bn_neF ?_ ?_); focus omega) | ((with_reducible refine Bn_ltT ?_ ?_); focus omega) | ((with_reducible refine Bn_ltF ?_ ?_); focus omega) | ((with_reducible refine Bn_gtT ?_ ?_); focus omega) | ((with_reducible refine Bn_gtF ?_ ?_); focus omega) | ((with_reducible refine Bn_leT ?_ ?_); focus omega) | ((with_reducible refine Bn_leF ?_ ?_); focus omega) | ((with_reducible refine Bn_geT ?_ ?_); focus omega) | ((with_reducible refine Bn_geF ?_ ?_); focus omega) | ((with_reducible refine Bn_ad ?_ ?_ ?_); (focus omega); (focus omega)) | ((with_reducible refine Bn_su ?_ ?_ ?_); (focus omega); (focus omega))))
  exact Ret.mk ⟨x15, rfl⟩
theorem lim_ftf {a : List UInt8} {mm nn x : Int} {m n : Nat} {w : World} (hm0 : -9223372036854775808 ≤ mm) (hm1 : mm ≤ 9223372036854775807) (hn0 : -9223372036854775808 ≤ nn) (hn1 : nn ≤ 9223372036854775807) (ht : Tab w)
    (hx : madeV a 5 = x) (hm : pickN mm = m) (hn : pickN nn = n) (hg : ¬ 0 < x) (hs : m + n < 200) (hz : ¬ m = 0) :
    Calls Tryz.prog 8 #[str a, .int .i64 mm, .int .i64 nn] w (Ret fun r w' => Ext w w' ∧ r = .bool true) := by
  have hMM := MaxI_pos
  have mMx : ((MaxI : Int) - 1).natAbs < MaxI := by omega
  have mNx : (-((MaxI : Int) - 1)).natAbs < MaxI := by omega
  have zx : x.natAbs < 100000 := by rw [← hx]; exact madeV_lt a 5
  have mx := small_MaxI (z := x) (by omega)
  have hml : m < 200 := by rw [← hm]; exact pickN_lt mm
  have hnl : n < 200 := by rw [← hn]; exact pickN_lt nn
  obtain ⟨most, hmost⟩ : ∃ l, l = List.replicate 200 (57 : UInt8) := ⟨_, rfl⟩
  obtain ⟨lm, hlm1⟩ : ∃ l, l = List.replicate m (57 : UInt8) := ⟨_, rfl⟩
  obtain ⟨ln, hln⟩ : ∃ l, l = List.replicate n (57 : UInt8) := ⟨_, rfl⟩
  have hmo : most = Lib.itoa ((MaxI : Int) - 1) := by rw [hmost, nines_itoa (by decide), p10_max]
  have hmn : 45 :: most = Lib.itoa (-((MaxI : Int) - 1)) := by rw [hmost, nines_neg (by decide), p10_max]
  have hl : most.length = 200 := by rw [hmost, List.length_replicate]
  have hb9 : validB (most ++ [57]) = false := by
    rw [hmost, ← List.replicate_succ', nines_itoa (by decide), valid_itoa]
    have := p10_succ 200
    rw [p10_max] at this
    exact decide_eq_false (by omega)
  have hbm : validB (45 :: most) = true := by rw [hmn]; exact valid_ok mNx
  have hlnl : ln.length = n := by rw [hln, List.length_replicate]
  have hlml : lm.length = m := by rw [hlm1, List.length_replicate]
  have h2n : 49 :: ln = Lib.itoa (2 * (p10 n : Int) - 1) := by rw [hln]; exact one_nines n
  have pm := p10_pos m
  have hmM := p10_lt hml
  have mone : (p10 m : Int).natAbs < MaxI := by omega
  have htn := two_lt hnl
  have hpn := p10_pos n
  have mtwo : (2 * (p10 n : Int) - 1).natAbs < MaxI := by omega
  have c1 := cmpI_le (show x ≤ 0 by omega)
  have hlen := (prod_small hs).2
  have hlm2 : lm = Lib.itoa ((p10 m : Int) - 1) := by rw [hlm1]; exact nines_itoa (by omega)
  have mone1 : ((p10 m : Int) - 1).natAbs < MaxI := by omega
  have hMade : ∀ w, Calls Tryz.prog 13 #[str a, .int .i64 5] w (Ret fun r w' => Ext w w' ∧ r = str (Lib.itoa x)) := fun w => by
    have := c_MadeV (s := a) (m := 5) (w := w) (by decide)
    rw [hx] at this
    exact this
  have hPm : ∀ w, Calls Tryz.prog 23 #[.int .i64 mm, .int .i64 200] w (Ret fun r w' => Ext w w' ∧ r = .int .i64 m) := fun w => by
    have := c_pick (w := w) hm0 hm1
    rw [hm] at this
    exact this
  have hPn : ∀ w, Calls Tryz.prog 23 #[.int .i64 nn, .int .i64 200] w (Ret fun r w' => Ext w w' ∧ r = .int .i64 n) := fun w => by
    have := c_pick (w := w) hn0 hn1
    rw [hn] at this
    exact this
  have hB := Tryz.underlying4
  apply e_law03_IntegerLimits
  unfold s_law03_IntegerLimits
  refine Cl1 n_law03_sane (c_sane ht) fun w1 x1 => ?_
  refine Cl1 n_ref03_Made (hMade w1) fun w2 x2 => ?_
  have x2 := x1.tr x2
  refine Cl1 n_law03_nines (c_nines (n := 200) (by decide) hmost) fun w3 x3 => ?_
  have x3 := x2.tr x3
  refine Cl2 n_integer_Add (by rw [hmo]; exact (k_Add (s := (MaxI : Int) - 1 + x) mMx mx (by omega) (ht.ext x3) rfl)) fun w4 x4 => ?_
  have x4 := x3.tr x4
  refine Bn_cons (by omega) ?_
  refine Cl2 n_integer_Sub (by rw [hmn]; exact (k_Sub (s := -((MaxI : Int) - 1) - x) mNx mx (by omega) (ht.ext x4) rfl)) fun w5 x5 => ?_
  have x5 := x4.tr x5
  refine Cl1 n_law03_pick (hPm w5) fun w6 x6 => ?_
  have x6 := x5.tr x6
  refine Cl1 n_law03_pick (hPn w6) fun w7 x7 => ?_
  have x7 := x6.tr x7
  refine Cl1 n_law03_nines (c_nines (by omega) hlm1) fun w8 x8 => ?_
  have x8 := x7.tr x8
  refine Cl2 n_integer_Add (by rw [hlm2]; exact (l1 ▸ k_Add (x := (p10 m : Int) - 1) (y := 1) (s := (p10 m : Int)) mone1 m1 mone (ht.ext x8) (by omega))) fun w9 x9 => ?_
  have x9 := x8.tr x9
  refine Jn2.mk fun K hK => ?_
  ((try simp -dsimp [go_sem]); repeat (simp -dsimp (disch := omega) only [w64, wu64, dlt_t, dlt_f, dle_t, dle_f, deq_t, deq_f, beq_t, beq_f, bne_t, bne_f, nlt_t, nlt_f, nle_t, nle_f, neq_t, neq_f, nbeq_t, nbeq_f, nbne_t, nbne_f, it_t, it_f, dit_t, dit_f]; try simp -dsimp [go_sem]))
  have x10 := x9
  refine hK _ _ _ ?_
  refine Cl1 n_law03_nines (c_nines (by omega) hln) fun w11 x11 => ?_
  have x11 := x10.tr x11
  refine Bn_cons (by omega) ?_
  refine Cl2 n_integer_Mul (by rw [h2n]; exact (k_Mul (s := (p10 m : Int) * (2 * (p10 n : Int) - 1)) mone mtwo (prod_small hs).1 (ht.ext x11) rfl)) fun w12 x12 => ?_
  have x12 := x11.tr x12
  refine Bn_addI (by omega) (by omega) ?_
  refine Bn_lssT (by omega) ?_
  refine Cl1 n_integer_Compare (itoa0 ▸ k_Compare (x := x) (y := 0) mx m0 rfl) fun w13 x13 => ?_
  have x13 := x12.tr x13
  clear mMx mNx zx mx mone mtwo hMM hmM htn hpn pm mone1
  (repeat (first | (with_reducible refine Gd_T ?_) | (with_reducible refine Gd_F ?_) | (with_reducible refine Gd_TF ?_) | (with_reducible refine Gd_FT ?_) | (with_reducible refine Gd_U ?_) | (with_reducible refine Pick_T ?_) | (with_reducible refine Pick_F ?_) | (with_reducible refine If_T ?_) | (with_reducible refine If_F ?_) | (with_reducible refine Un_T ?_) | (with_reducible refine Un_F ?_) | (with_reducible refine Bn_eqST ?_) | (with_reducible refine Bn_neST ?_) | ((with_reducible refine Bn_eqSF ?_ ?_); focus assumption) | ((with_reducible refine Bn_eqS1 ?_ ?_); focus assumption) | ((with_reducible refine Bn_neSF ?_ ?_); focus assumption) | ((with_reducible refine Bn_eqBT ?_ ?_ ?_); (focus assumption); (focus decide)) | ((with_reducible refine Bn_eqBF ?_ ?_ ?_); (focus assumption); (focus decide)) | ((with_reducible refine Bn_neBT ?_ ?_ ?_); (focus assumption); (focus decide)) | ((with_reducible refine Bn_neBF ?_ ?_ ?_); (focus assumption); (focus decide)) | ((with_reducible refine Bn_eqT ?_ ?_); focus omega) | ((with_reducible refine Bn_eqF ?_ ?_); focus omega) | ((with_reducible refine Bn_neT ?_ ?_); focus omega) | ((with_reducible refine Bn_neF ?_ ?_); focus omega) | ((with_reducible refine Bn_ltT ?_ ?_); focus omega) | ((with_reducible refine Bn_ltF ?_ ?_); focus omega) | ((with_reducible refine Bn_gtT ?_ ?_); focus omega) | ((with_reducible refine Bn_gtF ?_ ?_); focus omega) | ((with_reducible refine Bn_leT ?_ ?_); focus omega) | ((with_reducible refine Bn_leF ?_ ?_); focus omega) | ((with_reducible refine Bn_geT ?_ ?_); focus omega) | ((with_reducible refine Bn_geF ?_ ?_); focus omega) | ((with_reducible refine Bn_ad ?_ ?_ ?_); (focus omega); (focus omega)) | ((with_reducible refine Bn_su ?_ ?_ ?_); (focus omega); (focus omega))))
  refine Bt_lenS Tryz.underlying9 ?_
  (repeat (first | (with_reducible refine Gd_T ?_) | (with_reducible refine Gd_F ?_) | (with_reducible refine Gd_TF ?_) | (with_reducible refine Gd_FT ?_) | (with_reducible refine Gd_U ?_) | (with_reducible refine Pick_T ?_) | (with_reducible refine Pick_F ?_) | (with_reducible refine If_T ?_) | (with_reducible refine If_F ?_) | (with_reducible refine Un_T ?_) | (with_reducible refine Un_F ?_) | (with_reducible refine Bn_eqST ?_) | (with_reducible refine Bn_neST ?_) | ((with_reducible refine Bn_eqSF ?_ ?_); focus assumption) | ((with_reducible refine Bn_eqS1 ?_ ?_); focus assumption) | ((with_reducible refine Bn_neSF ?_ ?_); focus assumption) | ((with_reducible refine Bn_eqBT ?_ ?_ ?_); (focus assumption); (focus decide)) | ((with_reducible refine Bn_eqBF ?_ ?_ ?_); (focus assumption); (focus decide)) | ((with_reducible refine Bn_neBT ?_ ?_ ?_); (focus assumption); (focus decide)) | ((with_reducible refine Bn_neBF ?_ ?_ ?_); (focus assumption); (focus decide)) | ((with_reducible refine Bn_eqT ?_ ?_); focus omega) | ((with_reducible refine Bn_eqF ?_ ?_); focus omega) | ((with_reducible refine Bn_neT ?_ ?_); focus omega) | ((with_reducible refine Bn_neF ?_ ?_); focus omega) | ((with_reducible refine Bn_ltT ?_ ?_); focus omega) | ((with_reducible refine Bn_ltF ?_ ?_); focus omega) | ((with_reducible refine Bn_gtT ?_ ?_); focus omega) | ((with_reducible refine Bn_gtF ?_ ?_); focus omega) | ((with_reducible refine Bn_leT ?_ ?_); focus omega) | ((with_reducible refine Bn_leF ?_ ?_); focus omega) | ((with_reducible refine Bn_geT ?_ ?_); focus omega) | ((with_reducible refine Bn_geF ?_ ?_); focus omega) | ((with_reducible refine Bn_ad ?_ ?_ ?_); (focus omega); (focus omega)) | ((with_reducible refine Bn_su ?_ ?_ ?_); (focus omega); (focus omega))))
  refine Bn_cat (by simp; omega) ?_
  refine Cl1 n_integer_Valid (sanV (b := false) (by simp; omega) hb9) fun w14 x14 => ?_
  have x14 := x13.tr x14
  (repeat (first | (with_reducible refine Gd_T ?_) | (with_reducible refine Gd_F ?_) | (with_reducible refine Gd_TF ?_) | (with_reducible refine Gd_FT ?_) | (with_reducible refine Gd_U ?_) | (with_reducible refine Pick_T ?_) | (with_reducible refine Pick_F ?_) | (with_reducible refine If_T ?_) | (with_reducible refine If_F ?_) | (with_reducible refine Un_T ?_) | (with_reducible refine Un_F ?_) | (with_reducible refine Bn_eqST ?_) | (with_reducible refine Bn_neST ?_) | ((with_reducible refine Bn_eqSF ?_ ?_); focus assumption) | ((with_reducible refine Bn_eqS1 ?_ ?_); focus assumption) | ((with_reducible refine Bn_neSF ?_ ?_); focus assumption) | ((with_reducible refine Bn_eqBT ?_ ?_ ?_); (focus assumption); (focus decide)) | ((with_reducible refine Bn_eqBF ?_ ?_ ?_); (focus assumption); (focus decide)) | ((with_reducible refine Bn_neBT ?_ ?_ ?_); (focus assumption); (focus decide)) | ((with_reducible refine Bn_neBF ?_ ?_ ?_); (focus assumption); (focus decide)) | ((with_reducible refine Bn_eqT ?_ ?_); focus omega) | ((with_reducible refine Bn_eqF ?_ ?_); focus omega) | ((with_reducible refine Bn_neT ?_ ?_); focus omega) | ((with_reducible refine Bn_neF ?_ ?_); focus omega) | ((with_reducible refine Bn_ltT ?_ ?_); focus omega) | ((with_reducible refine Bn_ltF ?_ ?_); focus omega) | ((with_reducible refine Bn_gtT ?_ ?_); focus omega) | ((with_reducible refine Bn_gtF ?_ ?_); focus omega) | ((with_reducible refine Bn_leT ?_ ?_); focus omega) | ((with_reducible refine Bn_leF ?_ ?_); focus omega) | ((with_reducible refine Bn_geT ?_ ?_); focus omega) | ((with_reducible refine Bn_geF ?_ ?_); focus omega) | ((with_reducible refine Bn_ad ?_ ?_ ?_); (focus omega); (focus omega)) | ((with_reducible refine Bn_su ?_ ?_ ?_); (focus omega); (focus omega))))
  refine Bn_cons (by omega) ?_
  refine Cl1 n_integer_Valid (sanV (b := true) (by simp; omega) hbm) fun w15 x15 => ?_
  have x15 := x14.tr x15
  (repeat (first | (with_reducible refine Gd_T ?_) | (with_reducible refine Gd_F ?_) | (with_reducible refine Gd_TF ?_) | (with_reducible refine Gd_FT ?_) | (with_reducible refine Gd_U ?_) | (with_reducible refine Pick_T ?_) | (with_reducible refine Pick_F ?_) | (with_reducible refine If_T ?_) | (with_reducible refine If_F ?_) | (with_reducible refine Un_T ?_) | (with_reducible refine Un_F ?_) | (with_reducible refine Bn_eqST ?_) | (with_reducible refine Bn_neST ?_) | ((with_reducible refine Bn_eqSF ?_ ?_); focus assumption) | ((with_reducible refine Bn_eqS1 ?_ ?_); focus assumption) | ((with_reducible refine Bn_neSF ?_ ?_); focus assumption) | ((with_reducible refine Bn_eqBT ?_ ?_ ?_); (focus assumption); (focus decide)) | ((with_reducible refine Bn_eqBF ?_ ?_ ?_); (focus assumption); (focus decide)) | ((with_reducible refine Bn_neBT ?_ ?_ ?_); (focus assumption); (focus decide)) | ((with_reducible refine Bn_neBF ?_ ?_ ?_); (focus assumption); (focus decide)) | ((with_reducible refine Bn_eqT ?_ ?_); focus omega) | ((with_reducible refine Bn_eqF ?_ ?_); focus omega) | ((with_reducible refine Bn_neT ?_ ?_); focus omega) | ((with_reducible refine Bn_neF ?_ ?_); focus omega) | ((with_reducible refine Bn_ltT ?_ ?_); focus omega) | ((with_reducible refine Bn_ltF ?_ ?_); focus omega) | ((with_reducible refine Bn_gtT ?_ ?_); focus omega) | ((with_reducible refine Bn_gtF ?_ ?_); focus omega) | ((with_reducible refine Bn_leT ?_ ?_); focus omega) | ((with_reducible refine Bn_leF ?_ ?_); focus omega) | ((with_reducible refine Bn_geT ?_ ?_); focus omega) | ((with_reducible refine Bn_geF ?_ ?_); focus omega) | ((with_reducible refine Bn_ad ?_ ?_ ?_); (focus omega); (focus omega)) | ((with_reducible refine Bn_su ?_ ?_ ?_); (focus omega); (focus omega))))
  exact Ret.mk ⟨x15, rfl⟩
theorem lim_fff {a : List UInt8} {mm nn x : Int} {m n : Nat} {w : World} (hm0 : -9223372036854775808 ≤ mm) (hm1 : mm ≤ 9223372036854775807) (hn0 : -9223372036854775808 ≤ nn) (hn1 : nn ≤ 9223372036854775807) (ht : Tab w)
    (hx : madeV a 5 = x) (hm : pickN mm = m) (hn : pickN nn = n) (hg : ¬ 0 < x) (hs : ¬ m + n < 200) (hz : ¬ m = 0) :
    Calls Tryz.prog 8 #[str a, .int .i64 mm, .int .i64 nn] w (Ret fun r w' => Ext w w' ∧ r = .bool true) := by
  have hMM := MaxI_pos
  have mMx : ((MaxI : Int) - 1).natAbs < MaxI := by omega
  have mNx : (-((MaxI : Int) - 1)).natAbs < MaxI := by omega
  have zx : x.natAbs < 100000 := by rw [← hx]; exact madeV_lt a 5
  have mx := small_MaxI (z := x) (by omega)
  have hml : m < 200 := by rw [← hm]; exact pickN_lt mm
  have hnl : n < 200 := by rw [← hn]; exact pickN_lt nn
  obtain ⟨most, hmost⟩ : ∃ l, l = List.replicate 200 (57 : UInt8) := ⟨_, rfl⟩
  obtain ⟨lm, hlm1⟩ : ∃ l, l = List.replicate m (57 : UInt8) := ⟨_, rfl⟩
  obtain ⟨ln, hln⟩ : ∃ l, l = List.replicate n (57 : UInt8) := ⟨_, rfl⟩
  have hmo : most = Lib.itoa ((MaxI : Int) - 1) := by rw [hmost, nines_itoa (by decide), p10_max]
  have hmn : 45 :: most = Lib.itoa (-((MaxI : Int) - 1)) := by rw [hmost, nines_neg (by decide), p10_max]
  have hl : most.length = 200 := by rw [hmost, List.length_replicate]
  have hb9 : validB (most ++ [57]) = false := by
    rw [hmost, ← List.replicate_succ', nines_itoa (by decide), valid_itoa]
    have := p10_succ 200
    rw [p10_max] at this
    exact decide_eq_false (by omega)
  have hbm : validB (45 :: most) = true := by rw [hmn]; exact valid_ok mNx
  have hlnl : ln.length = n := by rw [hln, List.length_replicate]
  have hlml : lm.length = m := by rw [hlm1, List.length_replicate]
  have h2n : 49 :: ln = Lib.itoa (2 * (p10 n : Int) - 1) := by rw [hln]; exact one_nines n
  have pm := p10_pos m
  have hmM := p10_lt hml
  have mone : (p10 m : Int).natAbs < MaxI := by omega
  have htn := two_lt hnl
  have hpn := p10_pos n
  have mtwo : (2 * (p10 n : Int) - 1).natAbs < MaxI := by omega
  have c1 := cmpI_le (show x ≤ 0 by omega)
  have hlm2 : lm = Lib.itoa ((p10 m : Int) - 1) := by rw [hlm1]; exact nines_itoa (by omega)
  have mone1 : ((p10 m : Int) - 1).natAbs < MaxI := by omega
  have hMade : ∀ w, Calls Tryz.prog 13 #[str a, .int .i64 5] w (Ret fun r w' => Ext w w' ∧ r = str (Lib.itoa x)) := fun w => by
    have := c_MadeV (s := a) (m := 5) (w := w) (by decide)
    rw [hx] at this
    exact this
  have hPm : ∀ w, Calls Tryz.prog 23 #[.int .i64 mm, .int .i64 200] w (Ret fun r w' => Ext w w' ∧ r = .int .i64 m) := fun w => by
    have := c_pick (w := w) hm0 hm1
    rw [hm] at this
    exact this
  have hPn : ∀ w, Calls Tryz.prog 23 #[.int .i64 nn, .int .i64 200] w (Ret fun r w' => Ext w w' ∧ r = .int .i64 n) := fun w => by
    have := c_pick (w := w) hn0 hn1
    rw [hn] at this
    exact this
  have hB := Tryz.underlying4
  apply e_law03_IntegerLimits
  unfold s_law03_IntegerLimits
  refine Cl1 n_law03_sane (c_sane ht) fun w1 x1 => ?_
  refine Cl1 n_ref03_Made (hMade w1) fun w2 x2 => ?_
  have x2 := x1.tr x2
  refine Cl1 n_law03_nines (c_nines (n := 200) (by decide) hmost) fun w3 x3 => ?_
  have x3 := x2.tr x3
  refine Cl2 n_integer_Add (by rw [hmo]; exact (k_Add (s := (MaxI : Int) - 1 + x) mMx mx (by omega) (ht.ext x3) rfl)) fun w4 x4 => ?_
  have x4 := x3.tr x4
  refine Bn_cons (by omega) ?_
  refine Cl2 n_integer_Sub (by rw [hmn]; exact (k_Sub (s := -((MaxI : Int) - 1) - x) mNx mx (by omega) (ht.ext x4) rfl)) fun w5 x5 => ?_
  have x5 := x4.tr x5
  refine Cl1 n_law03_pick (hPm w5) fun w6 x6 => ?_
  have x6 := x5.tr x6
  refine Cl1 n_law03_pick (hPn w6) fun w7 x7 => ?_
  have x7 := x6.tr x7
  refine Cl1 n_law03_nines (c_nines (by omega) hlm1) fun w8 x8 => ?_
  have x8 := x7.tr x8
  refine Cl2 n_integer_Add (by rw [hlm2]; exact (l1 ▸ k_Add (x := (p10 m : Int) - 1) (y := 1) (s := (p10 m : Int)) mone1 m1 mone (ht.ext x8) (by omega))) fun w9 x9 => ?_
  have x9 := x8.tr x9
  refine Jn2.mk fun K hK => ?_
  ((try simp -dsimp [go_sem]); repeat (simp -dsimp (disch := omega) only [w64, wu64, dlt_t, dlt_f, dle_t, dle_f, deq_t, deq_f, beq_t, beq_f, bne_t, bne_f, nlt_t, nlt_f, nle_t, nle_f, neq_t, neq_f, nbeq_t, nbeq_f, nbne_t, nbne_f, it_t, it_f, dit_t, dit_f]; try simp -dsimp [go_sem]))
  have x10 := x9
  refine hK _ _ _ ?_
  refine Cl1 n_law03_nines (c_nines (by omega) hln) fun w11 x11 => ?_
  have x11 := x10.tr x11
  refine Bn_cons (by omega) ?_
  refine Cl2 n_integer_Mul (by rw [h2n]; exact (r_bad (c_Mul mone mtwo (ht.ext x11)) (.inl (prod_big (by omega))))) fun w12 x12 => ?_
  have x12 := x11.tr x12
  refine Bn_addI (by omega) (by omega) ?_
  refine Bn_lssF (by omega) ?_
  refine Cl1 n_integer_Compare (itoa0 ▸ k_Compare (x := x) (y := 0) mx m0 rfl) fun w13 x13 => ?_
  have x13 := x12.tr x13
  clear mMx mNx zx mx mone mtwo hMM hmM htn hpn pm mone1
  (repeat (first | (with_reducible refine Gd_T ?_) | (with_reducible refine Gd_F ?_) | (with_reducible refine Gd_TF ?_) | (with_reducible refine Gd_FT ?_) | (with_reducible refine Gd_U ?_) | (with_reducible refine Pick_T ?_) | (with_reducible refine Pick_F ?_) | (with_reducible refine If_T ?_) | (with_reducible refine If_F ?_) | (with_reducible refine Un_T ?_) | (with_reducible refine Un_F ?_) | (with_reducible refine Bn_eqST ?_) | (with_reducible refine Bn_neST ?_) | ((with_reducible refine Bn_eqSF ?_ ?_); focus assumption) | ((with_reducible refine Bn_eqS1 ?_ ?_); focus assumption) | ((with_reducible refine Bn_neSF ?_ ?_); focus assumption) | ((with_reducible refine Bn_eqBT ?_ ?_ ?_); (focus assumption); (focus decide)) | ((with_reducible refine Bn_eqBF ?_ ?_ ?_); (focus assumption); (focus decide)) | ((with_reducible refine Bn_neBT ?_ ?_ ?_); (focus assumption); (focus decide)) | ((with_reducible refine Bn_neBF ?_ ?_ ?_); (focus assumption); (focus decide)) | ((with_reducible refine Bn_eqT ?_ ?_); focus omega) | ((with_reducible refine Bn_eqF ?_ ?_); focus omega) | ((with_reducible refine Bn_neT ?_ ?_); focus omega) | ((with_reducible refine Bn_neF ?_ ?_); focus omega) | ((with_reducible refine Bn_ltT ?_ ?_); focus omega) | ((with_reducible refine Bn_ltF ?_ ?_); focus omega) | ((with_reducible refine Bn_gtT ?_ ?_); focus omega) | ((with_reducible refine Bn_gtF ?_ ?_); focus omega) | ((with_reducible refine Bn_leT ?_ ?_); focus omega) | ((with_reducible refine Bn_leF ?_ ?_); focus omega) | ((with_reducible refine Bn_geT ?_ ?_); focus omega) | ((with_reducible refine Bn_geF ?_ ?_); focus omega) | ((with_reducible refine Bn_ad ?_ ?_ ?_); (focus omega); (focus omega)) | ((with_reducible refine Bn_su ?_ ?_ ?_); (focus omega); (focus omega))))
  refine Bn_cat (by simp; omega) ?_
  refine Cl1 n_integer_Valid (sanV (b := false) (by simp; omega) hb9) fun w14 x14 => ?_
  have x14 := x13.tr x14
  (repeat (first | (with_reducible refine Gd_T ?_) | (with_reducible refine Gd_F ?_) | (with_reducible refine Gd_TF ?_) | (with_reducible refine Gd_FT ?_) | (with_reducible refine Gd_U ?_) | (with_reducible refine Pick_T ?_) | (with_reducible refine Pick_F ?_) | (with_reducible refine If_T ?_) | (with_reducible refine If_F ?_) | (with_reducible refine Un_T ?_) | (with_reducible refine Un_F ?_) | (with_reducible refine Bn_eqST ?_) | (with_reducible refine Bn_neST ?_) | ((with_reducible refine Bn_eqSF ?_ ?_); focus assumption) | ((with_reducible refine Bn_eqS1 ?_ ?_); focus assumption) | ((with_reducible refine Bn_neSF ?_ ?_); focus assumption) | ((with_reducible refine Bn_eqBT ?_ ?_ ?_); (focus assumption); (focus decide)) | ((with_reducible refine Bn_eqBF ?_ ?_ ?_); (focus assumption); (focus decide)) | ((with_reducible refine Bn_neBT ?_ ?_ ?_); (focus assumption); (focus decide)) | ((with_reducible refine Bn_neBF ?_ ?_ ?_); (focus assumption); (focus decide)) | ((with_reducible refine Bn_eqT ?_ ?_); focus omega) | ((with_reducible refine Bn_eqF ?_ ?_); focus omega) | ((with_reducible refine Bn_neT ?_ ?_); focus omega) | ((with_reducible refine Bn_neF ?_ ?_); focus omega) | ((with_reducible refine Bn_ltT ?_ ?_); focus omega) | ((with_reducible refine Bn_ltF ?_ ?_); focus omega) | ((with_reducible refine Bn_gtT ?_ ?_); focus omega) | ((with_reducible refine Bn_gtF ?_ ?_); focus omega) | ((with_reducible refine Bn_leT ?_ ?_); focus omega) | ((with_reducible refine Bn_leF ?_ ?_); focus omega) | ((with_reducible refine Bn_geT ?_ ?_); focus omega) | ((with_reducible refine Bn_geF ?_ ?_); focus omega) | ((with_reducible refine Bn_ad ?_ ?_ ?_); (focus omega); (focus omega)) | ((with_reducible refine Bn_su ?_ ?_ ?_); (focus omega); (focus omega))))
  refine Bn_cons (by omega) ?_
  refine Cl1 n_integer_Valid (sanV (b := true) (by simp; omega) hbm) fun w15 x15 => ?_
  have x15 := x14.tr x15
  (repeat (first | (with_reducible refine Gd_T ?_) | (with_reducible refine Gd_F ?_) | (with_reducible refine Gd_TF ?_) | (with_reducible refine Gd_FT ?_) | (with_reducible refine Gd_U ?_) | (with_reducible refine Pick_T ?_) | (with_reducible refine Pick_F ?_) | (with_reducible refine If_T ?_) | (with_reducible refine If_F ?_) | (with_reducible refine Un_T ?_) | (with_reducible refine Un_F ?_) | (with_reducible refine Bn_eqST ?_) | (with_reducible refine Bn_neST ?_) | ((with_reducible refine Bn_eqSF ?_ ?_); focus assumption) | ((with_reducible refine Bn_eqS1 ?_ ?_); focus assumption) | ((with_reducible refine Bn_neSF ?_ ?_); focus assumption) | ((with_reducible refine Bn_eqBT ?_ ?_ ?_); (focus assumption); (focus decide)) | ((with_reducible refine Bn_eqBF ?_ ?_ ?_); (focus assumption); (focus decide)) | ((with_reducible refine Bn_neBT ?_ ?_ ?_); (focus assumption); (focus decide)) | ((with_reducible refine Bn_neBF ?_ ?_ ?_); (focus assumption); (focus decide)) | ((with_reducible refine Bn_eqT ?_ ?_); focus omega) | ((with_reducible refine Bn_eqF ?_ ?_); focus omega) | ((with_reducible refine Bn_neT ?_ ?_); focus omega) | ((with_reducible refine Bn_neF ?_ ?_); focus omega) | ((with_reducible refine Bn_ltT ?_ ?_); focus omega) | ((with_reducible refine Bn_ltF ?_ ?_); focus omega) | ((with_reducible refine Bn_gtT ?_ ?_); focus omega) | ((with_reducible refine Bn_gtF ?_ ?_); focus omega) | ((with_reducible refine Bn_leT ?_ ?_); focus omega) | ((with_reducible refine Bn_leF ?_ ?_); focus omega) | ((with_reducible refine Bn_geT ?_ ?_); focus omega) | ((with_reducible refine Bn_geF ?_ ?_); focus omega) | ((with_reducible refine Bn_ad ?_ ?_ ?_); (focus omega); (focus omega)) | ((with_reducible refine Bn_su ?_ ?_ ?_); (focus omega); (focus omega))))
  exact Ret.mk ⟨x15, rfl⟩
theorem law_Limits {a : List UInt8} {mm nn : Int} {w : World} (hm : -9223372036854775808 ≤ mm ∧ mm ≤ 9223372036854775807) (hn : -9223372036854775808 ≤ nn ∧ nn ≤ 9223372036854775807) (ht : Tab w) :
    Calls Tryz.prog 8 #[str a, .int .i64 mm, .int .i64 nn] w (Ret fun r w' => Ext w w' ∧ r = .bool true) := by
  obtain ⟨hm0, hm1⟩ := hm
  obtain ⟨hn0, hn1⟩ := hn
  by_cases hg : 0 < madeV a 5
  · by_cases hs : pickN mm + pickN nn < 200
    · by_cases hz : pickN mm = 0
      · exact lim_ttt hm0 hm1 hn0 hn1 ht rfl rfl rfl hg hs hz
      · exact lim_ttf hm0 hm1 hn0 hn1 ht rfl rfl rfl hg hs hz
    · by_cases hz : pickN mm = 0
      · exact absurd (pickN_lt nn) (by omega)
      · exact lim_tff hm0 hm1 hn0 hn1 ht rfl rfl rfl hg hs hz
  · by_cases hs : pickN mm + pickN nn < 200
    · by_cases hz : pickN mm = 0
      · exact lim_ftt hm0 hm1 hn0 hn1 ht rfl rfl rfl hg hs hz
      · exact lim_ftf hm0 hm1 hn0 hn1 ht rfl rfl rfl hg hs hz
    · by_cases hz : pickN mm = 0
      · exact absurd (pickN_lt nn) (by omega)
      · exact lim_fff hm0 hm1 hn0 hn1 ht rfl rfl rfl hg hs hz
end Go.Proofs.YtocilcjojdjfdaaGreatDoor
