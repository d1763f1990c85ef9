/-
  Contracts and plain lemmas. By an AI agent.
-/
import Derived.Test.YthjhkpefammjkaaGreatDoorLShPm
import Derived.Test.YthjhkpefammjkaaGreatDoorShPl
import Derived.Test.YthjhkpefammjkaaGreatDoorPlain
set_option linter.unusedSimpArgs false
set_option linter.unusedVariables false
set_option linter.unusedSectionVars false
namespace Go.Proofs.YthjhkpefammjkaaGreatDoor
open Go Go.Eng Go.Proofs Go.Num Go.RowKit Go.Shr
set_option maxRecDepth 100000
theorem o_cmp {x y : Rat} {w : World} (hx : RB x) (hy : RB y) (hT : Tab w) : Calls Tryz.prog 34 #[ov (some x), ov (some y)] w (Ret fun r w' => Ext w w' ∧ r = .int .i64 (cmpQ x y)) := by
 have := c_qCmp (w := w) (itoa_ok hx.n) (itoa_ok hx.d) (itoa_ok hy.n) (itoa_ok hy.d) hT
 rw [ans2_ok hx hy] at this; exact this
theorem Jn0.cut {A : (World → Prop) → Prop} {B : World → Prop} (I : World → Prop) (hB : ∀ w, I w → B w) (hA : ∀ K : World → Prop, (∀ w, I w → K w) → A K) : Jn0 A B :=
 Jn0.mk fun K lf => hA K fun w hI => lf w (hB w hI)
theorem set_fI {l : List Int} {j : Nat} {y : Int} : (l.flatMap fI).set (0 + j * 1) (.int .i64 y) = (l.set j y).flatMap fI := by
 rw [fI_map, fI_map, List.map_set, Nat.zero_add, Nat.mul_one]
theorem g_set {l : List Int} {j s : Nat} {y : Int} (hj : j < l.length) : g (l.set j y) s = if s = j then y else g l s := by
 unfold g
 rw [List.getD_eq_getElem?_getD, List.getD_eq_getElem?_getD, List.getElem?_set]
 by_cases h : j = s
 ·subst h; simp [hj]
 ·rw [if_neg h, if_neg (fun e => h e.symm)]
theorem shr_le {n i : Nat} {a z : List Int} (h : numS n a i ≤ numS n z i) : shr n a i ≤ shr n z i := by
 unfold shr
 have hf : (0 : Rat) < ((fac n : Int) : Rat) := Rat.intCast_pos.2 (by have := fac_pos n; omega)
 have h2 : ((numS n a i : Int) : Rat) ≤ ((numS n z i : Int) : Rat) := Rat.intCast_le_intCast.2 h
 rw [Rat.div_def, Rat.div_def]
 exact Rat.mul_le_mul_of_nonneg_right h2 (Rat.le_of_lt (Rat.inv_pos.2 hf))
theorem cmpQ_nn {x y : Rat} (h : y ≤ x) : 0 ≤ cmpQ x y := by
 rcases cmpQ_cases x y with ⟨h1, h2⟩ | ⟨h1, h2⟩ | ⟨h1, h2⟩
 ·exact absurd h (Rat.not_le.2 h1)
 ·omega
 ·omega
structure BetOk (p k s : Nat) (l B : List Int) : Prop where
 len : B.length = p
 old : ∀ t, t < p → (s ≤ t ∨ t / 2 ^ k % 2 = 0) → g B t = g l t
 lo : ∀ t, t < p → g l t ≤ g B t ∧ g B t ≤ g l t + 8
structure TrnOk (p m b s : Nat) (l T : List Int) : Prop where
 len : T.length = p
 at_ : ∀ t, t < s → g T (tau m b t) = g l t
 ok : ∀ x ∈ T, mdOk x
section
variable {w0 : World} {n al ca tu : Int} {v v' : Value} {xs ys : List Int} (hn : I64 n) (ha : I64 al) (hca : I64 ca) (htu : I64 tu) (hv : SlC w0 1 v xs.length (xs.flatMap fI)) (hl : xs.length ≤ 9223372036854775807) (hx : ∀ x ∈ xs, I64 x)
 (hv' : SlC w0 1 v' ys.length (ys.flatMap fI)) (hl' : ys.length ≤ 9223372036854775807) (hy : ∀ x ∈ ys, I64 x) (hT : Tab w0) (hF : FacV w0)
include hn ha hca htu hv hl hx hv' hl' hy hT hF
set_option maxHeartbeats 8000000 in
theorem c_Monotone : Calls Tryz.prog 10 #[.int .i64 n, v, .int .i64 al, .int .i64 ca, v', .int .i64 tu] w0 (Ret fun r w' => Ext w0 w' ∧ r = .bool true) := by
 refine Exists.elim (pk_nat (c := n) (n := 6) (by decide)) fun m hm => ?_
 have hm6 := hm.2
 have cc1 := fun {W : World} (e : Ext w0 W) => c_sane (w0 := W) (hT.ext e) (hF.ext e)
 apply e_law25_ShareMonotone
 unfold s_law25_ShareMonotone
 have h := Hp.init [] w0
 refine cl1 h n_law25_sane (cc1 h.ext) fun w h => ?_
 refine Un_T (If_F (Cl_i n_ref25_Made (c_Made hn ha (hv.ext h.ext) hl hx hm.1) ?_))
 rintro u w1 ⟨_, rfl, l, hll, hlo, h'⟩
 have h := h.cat1 h' ro_sm
 have p2 : 2 ^ m ≤ 32 := Nat.pow_le_pow_right (n := 2) (by decide) (show m ≤ 5 by omega)
 have wl := mdOk_w hlo
 have n6 : m ≤ 6 := by omega
 refine Cl_i n_share_Shapley (c_Shapley (l := l) (by rw [hll]; exact h.sl (i := 0) rfl) n6 hll wl (hT.ext h.ext) (hF.ext h.ext)) ?_
 rintro _ w1 ⟨vl, rfl, h'⟩
 have h := h.cat1 h' ro_sm
 have x1 := h.ext
 have hs : SlC w1 2 vl m (qC (shrs m l)) := h.sl (i := 0) rfl
 have hu : SlC w1 1 u (2 ^ m) (l.flatMap fI) := h.sl (i := 1) rfl
 have hT := hT.ext x1
 have hF := hF.ext x1
 have hv' := hv'.ext x1
 refine Exists.elim (p := fun p => 2 ^ m = p) ⟨_, rfl⟩ fun p hp => ?_
 have hp0 : 0 < p := by rw [← hp]; exact Nat.two_pow_pos m
 rw [hp] at hu p2 hll
 clear cc1 h h' hv
 have h := Hp.init [] w1
 by_cases hm0 : m = 0
 ·refine Ex2 (Bn_neF (by omega) (If_F (leS (hs.hp h) ?_)))
  refine Bn_eqT (by omega) (If_T ?_)
  exact Ret.mk ⟨x1.tr h.ext, rfl⟩
 refine Exists.elim (pk_nat (c := ca) (n := (m : Int)) (by omega)) fun kk hkk => ?_
 refine Exists.elim (pk_nat (c := tu) (n := (m : Int)) (by omega)) fun b hb => ?_
 have hkk2 := hkk.2
 have hb2 := hb.2
 have cc1 : ∀ {W : World}, Ext w1 W → Calls Tryz.prog 23 #[.int .i64 ca, .int .i64 (m : Int)] W (Ret fun r w' => Ext W w' ∧ r = .int .i64 (kk : Int)) := fun {W} _ => by
  have := c_lpick (w := W) (c := ca) (n := (m : Int)) hca (by omega) (by omega)
  rw [hkk.1] at this; exact this
 have cc2 : ∀ {W : World}, Ext w1 W → Calls Tryz.prog 23 #[.int .i64 tu, .int .i64 (m : Int)] W (Ret fun r w' => Ext W w' ∧ r = .int .i64 (b : Int)) := fun {W} _ => by
  have := c_lpick (w := W) (c := tu) (n := (m : Int)) htu (by omega) (by omega)
  rw [hb.1] at this; exact this
 refine Ex2 (Bn_neF (by omega) (If_F (leS (hs.hp h) ?_)))
 refine Bn_eqF (by omega) (If_F (leS (hs.hp h) ?_))
 refine cl1 h n_law25_pick (cc1 h.ext) fun w h => ?_
 refine bs0 h fun v1 w h => ?_
 refine apR (by rfl) (by decide) h 0 rfl (hu.ext h.ext) (fI_all _) (by omega) fun bv w h => ?_
 refine leS (hu.hp h) ?_
 dsimp only [List.set] at h
 refine msS fI (0 : Int) rfl (by decide) h (n := p) (by omega) (by show p * 1 ≤ _; omega) fun tv w hg h => ?_
 refine leS (hs.hp h) ?_
 refine cl1 h n_law25_pick (cc2 h.ext) fun w h => ?_
 clear cc1 cc2
 rw [Nat.zero_add] at h
 refine Lp1.mk (fun i W => ∃ (s : Nat) (B T : List Int), s ≤ p ∧ BetOk p kk s l B ∧ TrnOk p m b s l T ∧ i = .int .i64 s ∧ Hp [] w1 W [ro tI 1 tv p (T.flatMap fI), ro tI 1 bv p (B.flatMap fI)]) (fun i _ => match i with | .int _ i' => p - i'.toNat | _ => 0) ⟨0, l, List.replicate p 0, by omega, ⟨hll, fun _ _ _ => rfl, fun _ _ => ⟨Int.le_refl _, by omega⟩⟩, ⟨by simp, fun t ht => absurd ht (Nat.not_lt_zero t), fun x hx => by rw [List.eq_of_mem_replicate hx]; exact ⟨by decide, by decide⟩⟩, rfl, h⟩ ?_
 clear h
 rintro _ W ⟨s, B, T, hs1, hB, hTr, rfl, h⟩
 by_cases hsp : s < p
 ·refine leS (hu.hp h) ?_
  refine Bn_ltT (by omega) (If_T ?_)
  refine Jn0.cut (fun W => ∃ B', BetOk p kk (s + 1) l B' ∧ Hp [] w1 W [ro tI 1 tv p (T.flatMap fI), ro tI 1 bv p (B'.flatMap fI)]) ?_ ?_
  ·clear h
   rintro W ⟨B', hB', h⟩
   have d1 : ∀ i, s / 2 ^ i ≤ s := fun i => Nat.div_le_self _ _
   refine Lp2.mk (fun t x W => ∃ i : Nat, i ≤ m ∧ x = .int .i64 i ∧ t = .int .i64 (tauP m b s i : Nat) ∧ Hp [] w1 W [ro tI 1 tv p (T.flatMap fI), ro tI 1 bv p (B'.flatMap fI)]) (fun _ x _ => match x with | .int _ i' => m - i'.toNat | _ => 0) ⟨0, by omega, rfl, rfl, h⟩ ?_
   clear h
   rintro _ _ W ⟨i, hi, rfl, rfl, h⟩
   by_cases him : i < m
   ·have hd := d1 i
    by_cases h1 : s / 2 ^ i % 2 = 1
    ·refine Exists.elim (p := fun r => (i + b) % m = r) ⟨_, rfl⟩ fun r hr => ?_
     have hrm : r < m := by rw [← hr]; exact Nat.mod_lt _ (by omega)
     have ht := tauP_lt (n := m) (b := b) (s := s) (i := i) (by omega) (by omega) (by omega) hi
     have es := tauP_succ m b s i
     rw [if_pos h1, hr] at es
     have p63 : (64 : Nat) < 2 ^ 63 := by decide
     have hr64 : 2 ^ r ≤ 32 := Nat.pow_le_pow_right (n := 2) (by decide) (show r ≤ 5 by omega)
     refine leS (hs.hp h) ?_
     refine Bn_ltT (by omega) (If_T (Bn_sr (by omega) (rm2 (z := 1) h1 ?_)))
     refine Bn_eqT (by omega) (If_T (Bn_ad (by omega) (by omega) (leS (hs.hp h) ?_)))
     refine Bn_rm (by omega) (by omega) (Bn_shc (j := r) (s := 2 ^ r) (by rw [← hr]; rfl) (by omega) rfl ?_)
     refine Bn_or (a := tauP m b s i) (b := 2 ^ r) (by omega) (by omega) ?_
     rw [← es]
     refine Bn_ad (by omega) (by omega) ?_
     exact ⟨⟨i + 1, by omega, rfl, rfl, h⟩, by show m - ((i : Int) + 1).toNat < m - (i : Int).toNat; omega⟩
    ·have es := tauP_succ m b s i
     rw [if_neg h1] at es
     refine leS (hs.hp h) ?_
     refine Bn_ltT (by omega) (If_T (Bn_sr (by omega) (rm2 (z := 0) (by omega) ?_)))
     refine Bn_eqF (by omega) (If_F (Bn_ad (by omega) (by omega) ?_))
     exact ⟨⟨i + 1, by omega, rfl, by rw [es], h⟩, by show m - ((i : Int) + 1).toNat < m - (i : Int).toNat; omega⟩
   ·have e : tauP m b s i = tau m b s := by rw [show i = m by omega, tauP_tau]
    have ht := tau_lt (n := m) (b := b) (s := s) (by omega) (by omega) (by omega)
    rw [hp, ← e] at ht
    have sl : Seg (l.flatMap fI) (s * 1) (fI (g l s)) := flat_seg (f := fI) (fun _ => rfl) (g_get (by omega))
    refine leS (hs.hp h) ?_
    refine Bn_ltF (by omega) (If_F (iaH h ‹_› (by omega) fun zb zo zk zv zc => ?_))
    refine lh0 h ‹_› ‹_› (by rfl) ?_
    refine iaR h 0 rfl (by omega) fun zg zk zv => ?_
    refine stR1 h 0 rfl ‹_› (by rfl) (by rfl) (by omega) fun w h => ?_
    refine Bn_ad (by omega) (by omega) ?_
    dsimp only [List.set] at h
    rw [set_fI] at h
    have hTl := hTr.len
    have hTrn : TrnOk p m b (s + 1) l (T.set (tauP m b s i) (g l s)) := by
     refine ⟨by rw [List.length_set]; exact hTr.len, fun t ht2 => ?_, fun x hx => ?_⟩
     ·rw [g_set (by omega)]
      by_cases ets : t = s
      ·rw [if_pos (by rw [ets, e]), ets]
      ·rw [if_neg]
       ·exact hTr.at_ t (by omega)
       ·intro e2
        rw [e] at e2
        exact ets (tau_inj (n := m) (b := b) (by omega) (by omega) (by omega) (by omega) e2)
     ·rcases List.mem_or_eq_of_mem_set hx with h1 | h1
      ·exact hTr.ok x h1
      ·rw [h1]; exact md_g hlo (by omega)
    exact ⟨⟨s + 1, B', _, by omega, hB', hTrn, rfl, h⟩, by show p - ((s : Int) + 1).toNat < p - (s : Int).toNat; omega⟩
  ·intro K lf
   have hb0 := hB.len
   have d1 : s / 2 ^ kk ≤ s := Nat.div_le_self _ _
   have same : (s / 2 ^ kk % 2 = 0 ∨ ys.length = 0) → BetOk p kk (s + 1) l B := fun _ => ⟨hB.len, fun t ht hc => hB.old t ht (hc.imp (fun h => by omega) id), hB.lo⟩
   by_cases h1 : s / 2 ^ kk % 2 = 1
   ·by_cases h0 : ys.length = 0
    ·refine Bn_sr (by omega) (rm2 (z := 1) h1 ?_)
     refine Bn_eqT (by omega) (Gd_T (Gd_T (leS (hv'.hp h) ?_)))
     refine Gd_T (Bn_gtF (by omega) (Pick_T (If_F ?_)))
     exact lf _ ⟨B, same (.inr h0), h⟩
    ·refine Exists.elim (p := fun r => s % ys.length = r) ⟨_, rfl⟩ fun r hr => ?_
     have hil : r < ys.length := by rw [← hr]; exact Nat.mod_lt _ (by omega)
     have sx : Seg (ys.flatMap fI) (r * 1) (fI (g ys r)) := flat_seg (f := fI) (fun _ => rfl) (g_get hil)
     have sB : Seg (B.flatMap fI) (s * 1) (fI (g B s)) := flat_seg (f := fI) (fun _ => rfl) (g_get (by omega))
     refine Exists.elim (pk_nat (c := g ys r) (n := 9) (by decide)) fun q9 hq9 => ?_
     have hq92 := hq9.2
     have gy := hy _ (List.mem_of_getElem? (g_get hil))
     have cc1 : ∀ {W : World}, Ext w1 W → Calls Tryz.prog 23 #[.int .i64 (g ys r), .int .i64 9] W (Ret fun r w' => Ext W w' ∧ r = .int .i64 (q9 : Int)) := fun {W} _ => by
      have := c_lpick (w := W) (c := g ys r) (n := 9) gy (by omega) (by omega)
      rw [hq9.1] at this; exact this
     have lo1 := hB.lo s hsp
     have gl1 := md_g hlo (show s < l.length by omega)
     have gl2 := gl1.1
     have gl3 := gl1.2
     have old := hB.old s hsp (.inl (Nat.le_refl _))
     refine Bn_sr (by omega) (rm2 (z := 1) h1 ?_)
     refine Bn_eqT (by omega) (Gd_T (Gd_T (leS (hv'.hp h) ?_)))
     refine Gd_T (Bn_gtT (by omega) (Pick_T (If_T ?_)))
     replace h := h.dr
     refine diR h 1 rfl (by omega) fun zg zk zv => ?_
     refine dr0 h 1 rfl ‹_› sB (by rfl) ?_
     refine dlS (hv'.hp h) ?_
     refine dvBx (v := .int .i64 (r : Int)) (fun w K hk => Bn_rm (x := (s : Int)) (y := (ys.length : Int)) (by omega) (by omega) (by rw [show (s : Int) % (ys.length : Int) = (r : Int) by rw [← hr]; rfl]; exact hk)) ?_
     refine diH h hv' (j := r) hil fun zb zo zk zv zc => ?_
     refine dh0 h zc sx rfl ?_
     refine cl1 h n_law25_pick (cc1 h.ext) fun w h => ?_
     refine kr0 h 1 rfl ‹_› sB (by rfl) ?_
     refine Dv_ad (by omega) (by omega) (diR h 1 rfl (by omega) fun zg zk zv => ?_)
     refine stR1 h 1 rfl ‹_› (by rfl) (by rfl) (by omega) fun w h => ?_
     dsimp only [List.set] at h
     rw [set_fI] at h
     refine lf _ ⟨B.set s (g B s + (q9 : Int)), ⟨by rw [List.length_set]; exact hb0, fun t ht hc => ?_, fun t ht => ?_⟩, h⟩
     ·rw [g_set (by omega)]
      by_cases ets : t = s
      ·subst ets
       rcases hc with hc | hc
       ·omega
       ·omega
      ·rw [if_neg ets]
       exact hB.old t ht (hc.imp (fun h => by omega) id)
     ·rw [g_set (by omega)]
      by_cases ets : t = s
      ·subst ets
       rw [if_pos rfl]
       omega
      ·rw [if_neg ets]
       exact hB.lo t ht
   ·refine Bn_sr (by omega) (rm2 (z := 0) (by omega) ?_)
    refine Bn_eqF (by omega) (Gd_FT (Gd_FT (Gd_FT (Pick_F (If_F ?_)))))
    exact lf _ ⟨B, same (.inl (by omega)), h⟩
 ·have hBw : ∀ x ∈ B, wOk x := fun x hx => by
   obtain ⟨t, ht, rfl⟩ := List.getElem_of_mem hx
   have hb0 := hB.len
   have h1 := hB.lo t (by omega)
   have h2 := md_g hlo (show t < l.length by omega)
   rw [← g_of (List.getElem?_eq_getElem ht)]
   have h21 := h2.1
   have h22 := h2.2
   exact ⟨by omega, by omega⟩
  have hTw := mdOk_w hTr.ok
  have hBl := hB.len
  have hTl := hTr.len
  have es : s = p := by omega
  have cr1 : ∀ {W : World}, Ext w1 W → ∀ {z : Value}, SlC W 1 z p (B.flatMap fI) → Calls Tryz.prog 13 #[z] W (Ret fun r w' => ∃ v, r = .tuple #[v, .int .i64 0] ∧ Hp [] W w' [ro tR 2 v m (qC (shrs m B))]) := fun {W} e {z} hs => c_Shapley (l := B) (by rw [hBl]; exact hs) n6 (by omega) hBw (hT.ext e) (hF.ext e)
  have cr2 : ∀ {W : World}, Ext w1 W → ∀ {z : Value}, SlC W 1 z p (T.flatMap fI) → Calls Tryz.prog 13 #[z] W (Ret fun r w' => ∃ v, r = .tuple #[v, .int .i64 0] ∧ Hp [] W w' [ro tR 2 v m (qC (shrs m T))]) := fun {W} e {z} hs => c_Shapley (l := T) (by rw [hTl]; exact hs) n6 (by omega) hTw (hT.ext e) (hF.ext e)
  have hle : shr m l kk ≤ shr m B kk := shr_le (numS_mono n6 (by omega) (fun t ht h => (hB.lo t (by omega)).1) (fun t ht h => (hB.old t (by omega) (.inr h)).symm))
  have hcm := cmpQ_nn hle
  have hkm : kk < m := by omega
  have s1 := shr_SR n6 hkm (by omega) hBw
  have s2 := shr_SR n6 hkm (by omega) wl
  have cc1 := fun {W : World} (e : Ext w1 W) => o_cmp (w := W) (s1.rb (by decide) (by decide)) (s2.rb (by decide) (by decide)) (hT.ext e)
  have t1 : Seg (qC (shrs m B)) (kk * 2) (fO (some (shr m B kk))) := flat_seg (f := fun x : Rat => fO (some x)) (fun _ => rfl) (shrs_get hkm)
  have t2 : Seg (qC (shrs m l)) (kk * 2) (fO (some (shr m l kk))) := flat_seg (f := fun x : Rat => fO (some x)) (fun _ => rfl) (shrs_get hkm)
  refine leS (hu.hp h) ?_
  refine Bn_ltF (by omega) (If_F (clR h n_share_Shapley (cr1 h.ext (by first | exact (qZ 1 h rfl) | assumption)) fun v2 w h => ?_))
  refine Ex2 (clR h n_share_Shapley (cr2 h.ext (by first | exact (qZ 1 h rfl) | assumption)) fun v3 w h => ?_)
  refine Ex2 ?_
  replace h := h.dr
  refine Dv_neF (by omega) (GdP_F (GdP_F (Dv_neF (by omega) (PickP_F (GdP_F (GdP_F (dlS (qZ 1 h rfl) ?_)))))))
  refine GdP_F (GdP_F (dlS (hs.hp h) ?_))
  refine GdP_F (Dv_neF (by omega) (PickP_F (GdP_F (GdP_F (dlS (qZ 0 h rfl) ?_)))))
  refine GdP_F (GdP_F (dlS (hs.hp h) ?_))
  refine GdP_F (Dv_neF (by omega) (PickP_F (GdP_F (GdP_F (GdP_F (diR h 1 rfl (by omega) fun zg zk zv => ?_))))))
  refine GdP_F (drA h 1 rfl ‹_› ‹_› (by rfl) ?_)
  refine GdP_F (GdP_F (GdP_F (diH h ‹_› (by omega) fun zb zo zk zv zc => ?_)))
  refine GdP_F (dhA h ‹_› ‹_› (by rfl) ?_)
  refine Gd_F (cl1 h n_rational_Compare (cc1 h.ext) fun w h => ?_)
  refine GdP_F (Dv_ltF (by omega) (PickP_F (If_F (Lp1.mk (fun i W => ∃ j : Nat, j ≤ m ∧ i = .int .i64 j ∧ Hp [] w1 W [ro tR 2 v3 m (qC (shrs m T))]) (fun i _ => match i with | .int _ i' => m - i'.toNat | _ => 0) ⟨0, by omega, rfl, h.pick [0] (by decide) rfl⟩ ?_))))
  clear h cr1 cr2 cc1 t1 t2
  rintro _ W ⟨j, hj, rfl, h⟩
  by_cases hjm : j < m
  ·refine Exists.elim (p := fun r => (j + b) % m = r) ⟨_, rfl⟩ fun r hr => ?_
   have hrm : r < m := by rw [← hr]; exact Nat.mod_lt _ (by omega)
   have eq : shr m T r = shr m l j := by
    unfold shr
    rw [← hr, numS_turn (by omega) hjm (by omega) fun t ht => hTr.at_ t (by omega)]
   have t1 : Seg (qC (shrs m T)) (r * 2) (fO (some (shr m l j))) := by
    rw [← eq]
    exact flat_seg (f := fun x : Rat => fO (some x)) (fun _ => rfl) (shrs_get hrm)
   have t2 : Seg (qC (shrs m l)) (j * 2) (fO (some (shr m l j))) := flat_seg (f := fun x : Rat => fO (some x)) (fun _ => rfl) (shrs_get hjm)
   have qe := qe_t (shr m l j)
   refine leS (hs.hp h) ?_
   refine Bn_ltT (by omega) (If_T ?_)
   replace h := h.dr
   refine Dv_ad (by omega) (by omega) (dlS (hs.hp h) ?_)
   refine dvBx (v := .int .i64 (r : Int)) (fun w K hk => Bn_rm (x := (j : Int) + (b : Int)) (y := (m : Int)) (by omega) (by omega) (by rw [show ((j : Int) + (b : Int)) % (m : Int) = (r : Int) by rw [← hr]; rfl]; exact hk)) ?_
   refine diR h 0 rfl (by omega) fun zg zk zv => ?_
   refine drA h 0 rfl ‹_› t1 (by rfl) ?_
   refine diH h ‹_› (by omega) fun zb zo zk zv zc => ?_
   refine dhA h ‹_› ‹_› (by rfl) ?_
   refine dqNeF ‹_› ?_
   refine If_F (Bn_ad (by omega) (by omega) ?_)
   exact ⟨⟨j + 1, by omega, rfl, h⟩, by show m - ((j : Int) + 1).toNat < m - (j : Int).toNat; omega⟩
  ·refine leS (hs.hp h) ?_
   refine Bn_ltF (by omega) (If_F ?_)
   exact Ret.mk ⟨x1.tr h.ext, rfl⟩
end
end Go.Proofs.YthjhkpefammjkaaGreatDoor
