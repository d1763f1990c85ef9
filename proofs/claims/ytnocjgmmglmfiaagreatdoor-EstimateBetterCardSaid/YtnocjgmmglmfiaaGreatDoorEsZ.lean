/-
  Contracts and plain lemmas. By an AI agent.
-/
import Derived.Test.YtnocjgmmglmfiaaGreatDoorLEsZ
import Derived.Test.YtnocjgmmglmfiaaGreatDoorEsY
set_option linter.unusedSimpArgs false
set_option linter.unusedVariables false
set_option linter.unusedSectionVars false
namespace Go.Proofs.YtnocjgmmglmfiaaGreatDoor
open Go Go.Eng Go.Proofs Go.Num Go.RowKit
set_option maxRecDepth 100000
set_option linter.unusedVariables false
set_option linter.unusedSectionVars false
def bet (p : Rat) (t : Int) : Rat := p + (1 - p) * ((t : Rat) / ((4 : Int) : Rat))
theorem dvdR {z : Int} (h0 : 1 ≤ z) (h1 : z ≤ 40) : z.natAbs ∣ 5342931457063200 := by
  have : ∀ n : Nat, n < 41 → 0 < n → n ∣ 5342931457063200 := by decide +kernel
  exact this _ (by omega) (by omega)
theorem dvd4 {d : Int} (h0 : 1 ≤ d) (h1 : d ≤ 10) : (4 * d).natAbs ∣ 10080 := by
  have : ∀ n : Nat, n < 11 → 0 < n → 4 * n ∣ 10080 := by decide +kernel
  have h := this d.natAbs (by omega) (by omega)
  rw [show (4 * d).natAbs = 4 * d.natAbs by omega]; exact h
theorem bet_ME (a : I3) {t : Int} (h0 : 0 ≤ t) (h1 : t ≤ 4) : ME (mkX a, bet (mkP a) t) := by
  have hm := mkE_ME a
  have b3 := pickZ_bd (c := a.2.1) (n := 10) (by decide)
  have b4 := pickZ_bd (c := a.2.2) (n := 1 + pickZ a.2.1 10) (by omega)
  obtain ⟨c, hc⟩ : ∃ c, c = 1 + pickZ a.2.2 (1 + pickZ a.2.1 10) := ⟨_, rfl⟩
  obtain ⟨d, hd⟩ : ∃ d, d = 1 + pickZ a.2.1 10 := ⟨_, rfl⟩
  have hp : mkP a = (c : Rat) / (d : Rat) := by unfold mkP; rw [hc, hd]
  rw [← hd] at b4 hc
  have h1c : 1 ≤ c := by omega
  have hcd : c ≤ d := by omega
  have hd10 : d ≤ 10 := by omega
  have hd0 : (0 : Rat) < d := by exact_mod_cast (show 0 < d by omega)
  obtain ⟨s, hs⟩ : ∃ s, s = (d - c) * t := ⟨_, rfl⟩
  have hs0 : 0 ≤ s := by rw [hs]; exact Int.mul_nonneg (by omega) h0
  have hs1 : s ≤ (d - c) * 4 := by rw [hs]; exact Int.mul_le_mul_of_nonneg_left h1 (by omega)
  have hN0 : 1 ≤ 4 * c + s := by omega
  have hN1 : 4 * c + s ≤ 4 * d := by omega
  have hN : (0 : Rat) < ((4 * c + s : Int) : Rat) := by exact_mod_cast (show 0 < 4 * c + s by omega)
  have hD : (0 : Rat) < ((4 * d : Int) : Rat) := by exact_mod_cast (show 0 < 4 * d by omega)
  have e1 : ((4 * c + s : Int) : Rat) = 4 * (c : Rat) + ((d : Rat) - c) * t := by rw [hs]; simp [Rat.intCast_add, Rat.intCast_mul, Rat.intCast_sub]
  have e2 : ((4 * d : Int) : Rat) = 4 * (d : Rat) := by simp [Rat.intCast_mul]
  have hb : bet (mkP a) t = ((4 * c + s : Int) : Rat) / ((4 * d : Int) : Rat) := by
    unfold bet; rw [hp, e1, e2]
    have : ((4 : Int) : Rat) = 4 := rfl
    rw [this]; grind
  have hq : 1 - bet (mkP a) t = ((4 * d - (4 * c + s) : Int) : Rat) / ((4 * d : Int) : Rat) := by
    rw [hb, Rat.intCast_sub]; grind
  have hr : 1 / bet (mkP a) t = ((4 * d : Int) : Rat) / ((4 * c + s : Int) : Rat) := by rw [hb]; grind
  have dv := dvd4 (d := d) (by omega) hd10
  refine ⟨hm.x, ?_, ?_, ?_, ?_, ?_⟩
  · show DR 10080 1 (bet (mkP a) t)
    rw [hb]
    have : DR (4 * d).natAbs 1 (((4 * c + s : Int) : Rat) / ((4 * d : Int) : Rat)) := ⟨4 * c + s, by rw [Int.natAbs_of_nonneg (by omega)], by omega⟩
    exact this.mono (by omega) (by decide) dv (by decide)
  · show DR 10080 1 (1 - bet (mkP a) t)
    rw [hq]
    have : DR (4 * d).natAbs 1 (((4 * d - (4 * c + s) : Int) : Rat) / ((4 * d : Int) : Rat)) := ⟨4 * d - (4 * c + s), by rw [Int.natAbs_of_nonneg (by omega)], by omega⟩
    exact this.mono (by omega) (by decide) dv (by decide)
  · show DR 5342931457063200 40 (1 / bet (mkP a) t)
    rw [hr]
    exact .of (by omega) (dvdR (by omega) (by omega)) (by decide) (by omega)
  · show 0 < bet (mkP a) t
    rw [hb]; exact (Rat.lt_div_iff hD).2 (by rw [Rat.zero_mul]; exact hN)
  · show bet (mkP a) t ≤ 1
    have : 0 ≤ 1 - bet (mkP a) t := by
      rw [hq]
      refine Rat.not_lt.1 fun h => ?_
      have h2 := (Rat.div_lt_iff hD).1 h
      rw [Rat.zero_mul] at h2
      have : 4 * d - (4 * c + s) < 0 := by exact_mod_cast h2
      omega
    grind
theorem bet_ge {p : Rat} (h0 : 0 < p) (h1 : p ≤ 1) {t : Int} (ht : 0 ≤ t) : p ≤ bet p t := by
  have h2 : (0 : Rat) ≤ t := by exact_mod_cast ht
  have h4 : ((4 : Int) : Rat) = 4 := rfl
  have h3 : 0 ≤ (1 - p) * (t : Rat) := Rat.mul_nonneg (by grind) h2
  unfold bet; rw [h4]; grind
theorem tV_le {x p b : Rat} (h0 : 0 < p) (h1 : p ≤ b) (hb : b ≤ 1) : tV (x, b) ≤ tV (x, p) := by
  have hb0 : 0 < b := by grind
  have hx : 0 ≤ x * x := by
    rcases Rat.le_total (a := 0) (b := x) with h | h
    · exact Rat.mul_nonneg h h
    · have : 0 ≤ (-x) * (-x) := Rat.mul_nonneg (by grind) (by grind)
      grind
  unfold tV
  show x * x * (1 - b) / b ≤ x * x * (1 - p) / p
  have e1 : x * x * (1 - b) / b = x * x * (1 / b) - x * x := by grind
  have e2 : x * x * (1 - p) / p = x * x * (1 / p) - x * x := by grind
  have e3 : 1 / b ≤ 1 / p := by
    refine Rat.not_lt.1 fun h => ?_
    have h2 := (Rat.div_lt_iff h0).1 h
    have h3 : 1 / b * p = p / b := by grind
    rw [h3] at h2
    have h4 := (Rat.lt_div_iff hb0).1 h2
    grind
  have e4 : x * x * (1 / b) ≤ x * x * (1 / p) := Rat.mul_le_mul_of_nonneg_left e3 hx
  rw [e1, e2]; grind
theorem sumR_set {t : El → Rat} : ∀ {m : List El} {k : Nat} {e a : El}, m[k]? = some e → t a ≤ t e → sumR t (m.set k a) ≤ sumR t m
  | [], k, e, a, h, _ => by simp at h
  | x :: m, 0, e, a, h, hl => by
    simp at h; subst h
    show t a + sumR t m ≤ t x + sumR t m
    grind
  | x :: m, k + 1, e, a, h, hl => by
    have := sumR_set (t := t) (m := m) (k := k) (by simpa using h) hl
    show t x + sumR t (m.set k a) ≤ t x + sumR t m
    grind
set_option maxHeartbeats 4000000 in
theorem law_Better {w0 : World} {v : Value} {l : List I3} {at_ part : Int} (he : En w0) (hv : SlC w0 3 v l.length (l.flatMap fT)) (hok : I3ok l) (hl : l.length ≤ 9223372036854775807) (hat : I64 at_) (hpt : I64 part) :
    Calls Tryz.prog 10 #[v, .int .i64 at_, .int .i64 part] w0 (Ret fun r w' => Ext w0 w' ∧ r = .bool true) := by
  have hm := made_ME l 10
  have hml := made_len l 10
  obtain ⟨m, hmm⟩ : ∃ m, made l 10 = m := ⟨_, rfl⟩
  rw [hmm] at hm hml
  have cc1 := fun {W : World} (x : Ext w0 W) => c_sane (he.ext x)
  by_cases hm0 : m.length = 0
  · apply e_law16_EstimateBetter
    unfold s_law16_EstimateBetter
    have h := Hp.init [] w0
    refine cl1 h n_law16_sane (cc1 h.ext) fun w h => ?_
    refine Un_T ?_
    refine If_F ?_
    refine Cl_i n_ref16_Made (c_Made (most := 10) (hv.hp h) hok hl (by decide)) ?_
    rintro _ w' ⟨x, p, rfl, h'⟩
    rw [hmm] at h'
    have h := h.cat2 h' ro_sm ro_sm
    refine Ex2 ?_
    refine leS (h.sl (i := 1) rfl) ?_
    refine Bn_eqT (by omega) ?_
    refine If_T ?_
    exact Ret.mk ⟨h.ext, rfl⟩
  obtain ⟨k, hk, hkl⟩ := pick_nat (c := at_) (n := m.length) (by omega)
  obtain ⟨e, hke⟩ : ∃ e, m[k]? = some e := ⟨_, List.getElem?_eq_getElem hkl⟩
  obtain ⟨a, hea⟩ : ∃ a, e = mkE a := by
    have := List.mem_of_getElem? hke
    rw [← hmm] at this
    obtain ⟨a, _, ha⟩ := List.mem_map.1 this
    exact ⟨a, ha.symm⟩
  have b5 := pickZ_bd (c := part) (n := 5) (by decide)
  obtain ⟨t, ht⟩ : ∃ t, pickZ part 5 = t := ⟨_, rfl⟩
  rw [ht] at b5
  have hME := hm e (List.mem_of_getElem? hke)
  have hbM : ME (e.1, bet e.2 t) := by rw [hea]; exact bet_ME a (by omega) (by omega)
  have sT : Sml ((t : Rat) / ((4 : Int) : Rat)) := by
    have : DR 4 4 ((t : Rat) / ((4 : Int) : Rat)) := ⟨t, rfl, by omega⟩
    exact Sml.of this (by decide) (by decide +kernel) (by decide +kernel)
  have s1 : Sml (1 : Rat) := Sml.one
  have sL : Sml (1 - e.2) := hME.sq
  have sM : Sml ((1 - e.2) * ((t : Rat) / ((4 : Int) : Rat))) := by
    have h1 : DR 4 4 ((t : Rat) / ((4 : Int) : Rat)) := ⟨t, rfl, by omega⟩
    exact Sml.of (hME.q.mul h1 (by decide) (by decide)) (by decide) (by decide +kernel) (by decide +kernel)
  have o1 := osub_ok s1 hME.sp
  have o2 := omul_ok sL sT
  have o3 := oadd_ok hME.sp sM
  have sx : Seg (m.flatMap fP) (k * 2) (fP e) := flat_seg (f := fP) (fun _ => rfl) hke
  have hml2 : (m.set k (e.1, bet e.2 t)).length = m.length := by simp
  have hsx : (m.set k (e.1, bet e.2 t)).flatMap fX = m.flatMap fX := by
    have hs := flat_set (f := fX) (c := 2) (fun _ => rfl) m k (e.1, bet e.2 t) hkl
    have hs0 := flat_set (f := fX) (c := 2) (fun _ => rfl) m k e hkl
    rw [← hs]
    have : m.set k e = m := by
      obtain ⟨h1, h2⟩ := List.getElem?_eq_some_iff.1 hke
      rw [← h2]; exact List.set_getElem_self h1
    rw [this] at hs0
    exact hs0
  have hsp := flat_set (f := fP) (c := 2) (fun _ => rfl) m k (e.1, bet e.2 t) hkl
  have hmS : MEs (m.set k (e.1, bet e.2 t)) := fun y hy => by
    rcases List.mem_or_eq_of_mem_set hy with h | rfl
    · exact hm y h
    · exact hbM
  have hle : sumR tV (m.set k (e.1, bet e.2 t)) ≤ sumR tV m := sumR_set hke (tV_le hME.h0 (bet_ge hME.h0 hME.h1 (by omega)) hbM.h1)
  have rbA : RB (sumR tV m) := by
    have := ob_var m
    rw [var_ok hm (by omega)] at this
    exact this.get
  have rbB : RB (sumR tV (m.set k (e.1, bet e.2 t))) := by
    have := ob_var (m.set k (e.1, bet e.2 t))
    rw [var_ok hmS (by omega)] at this
    exact this.get
  have hcm := (cmp_le _ _).2 hle
  have n1 := oneP m
  have cc2 := fun {W : World} (x : Ext w0 W) => c_of1 (w := W) (n := 1) (he.hT.ext x) (by decide)
  have cc3 := fun {W : World} (x : Ext w0 W) => c_of (w := W) (n := t) (d := 4) (he.hT.ext x) (by omega) (by decide) (by decide)
  have cc4 : ∀ {W : World}, Ext w0 W → Calls Tryz.prog 23 #[.int .i64 at_, .int .i64 (m.length : Int)] W (Ret fun r w' => Ext W w' ∧ r = .int .i64 (k : Int)) := fun {W} x => by
    have := c_pickL (w := W) (c := at_) (n := (m.length : Int)) hat (by omega)
    rw [hk] at this
    exact this
  have cc5 : ∀ {W : World}, Ext w0 W → Calls Tryz.prog 23 #[.int .i64 part, .int .i64 5] W (Ret fun r w' => Ext W w' ∧ r = .int .i64 t) := fun {W} x => by
    have := c_pickL (w := W) (c := part) (n := 5) hpt (by decide)
    rw [ht] at this
    exact this
  have cc6 : ∀ {W : World}, Ext w0 W → Calls Tryz.prog 27 #[ov (some (qI 1)), ov (some e.2)] W (Ret fun r w' => Ext W w' ∧ r = .tuple #[ov (some (1 - e.2)), .int .i64 0]) := fun {W} x => by
    have := o_sub (w := W) (o := some (1 : Rat)) (p := some e.2) ob1 (.some hME.sp.rb) (he.hT.ext x)
    rw [o1] at this
    exact this
  have cc7 : ∀ {W : World}, Ext w0 W → Calls Tryz.prog 24 #[ov (some (1 - e.2)), ov (some ((t : Rat) / ((4 : Int) : Rat)))] W (Ret fun r w' => Ext W w' ∧ r = .tuple #[ov (some ((1 - e.2) * ((t : Rat) / ((4 : Int) : Rat)))), .int .i64 0]) := fun {W} x => by
    have := o_mul (w := W) (o := some (1 - e.2)) (p := some ((t : Rat) / ((4 : Int) : Rat))) (.some sL.rb) (.some sT.rb) (he.hT.ext x)
    rw [o2] at this
    exact this
  have cc8 : ∀ {W : World}, Ext w0 W → Calls Tryz.prog 25 #[ov (some e.2), ov (some ((1 - e.2) * ((t : Rat) / ((4 : Int) : Rat))))] W (Ret fun r w' => Ext W w' ∧ r = .tuple #[ov (some (bet e.2 t)), .int .i64 0]) := fun {W} x => by
    have := o_add (w := W) (o := some e.2) (p := some ((1 - e.2) * ((t : Rat) / ((4 : Int) : Rat)))) (.some hME.sp.rb) (.some sM.rb) (he.hT.ext x)
    rw [o3] at this
    exact this
  have cc9 : ∀ {W : World}, Ext w0 W → ∀ {v v' : Value}, SlC W 2 v m.length (m.flatMap fX) → SlC W 2 v' m.length (m.flatMap fP) → Calls Tryz.prog 16 #[v, v'] W (Ret fun r w' => Ext W w' ∧ r = .tuple #[ov (some (sumR tV m)), .int .i64 0]) := fun {W} x {v v'} h1 h2 => m_Variance (he.ext x) h1 h2 hm (by omega) rfl
  have cc10 : ∀ {W : World}, Ext w0 W → ∀ {v v' : Value}, SlC W 2 v m.length (m.flatMap fX) → SlC W 2 v' (0 + m.length) (([] ++ m.flatMap fP).take (0 + k * 2) ++ fP (e.1, bet e.2 t) ++ ([] ++ m.flatMap fP).drop (0 + k * 2 + 2)) → Calls Tryz.prog 16 #[v, v'] W (Ret fun r w' => Ext W w' ∧ r = .tuple #[ov (some (sumR tV (m.set k (e.1, bet e.2 t)))), .int .i64 0]) := fun {W} x {v v'} h1 h2 => by
    simp only [List.nil_append, Nat.zero_add] at h2
    rw [hsp] at h2
    exact m_Variance (he.ext x) (by rw [hml2, hsx]; exact h1) (by rw [hml2]; exact h2) hmS (by omega) rfl
  have cc11 : ∀ {W : World}, Ext w0 W → Calls Tryz.prog 21 #[ov (some (sumR tV (m.set k (e.1, bet e.2 t)))), ov (some (sumR tV m))] W (Ret fun r w' => Ext W w' ∧ r = .int .i64 (cmpQ (sumR tV (m.set k (e.1, bet e.2 t))) (sumR tV m))) := fun x => o_cmp rbB rbA (he.hT.ext x)
  apply e_law16_EstimateBetter
  unfold s_law16_EstimateBetter
  have h := Hp.init [] w0
  refine cl1 h n_law16_sane (cc1 h.ext) fun w h => ?_
  refine Un_T ?_
  refine If_F ?_
  refine Cl_i n_ref16_Made (c_Made (most := 10) (hv.hp h) hok hl (by decide)) ?_
  rintro _ w' ⟨x, p, rfl, h'⟩
  rw [hmm] at h'
  have h := h.cat2 h' ro_sm ro_sm
  refine Ex2 ?_
  refine leS (h.sl (i := 1) rfl) ?_
  refine Bn_eqF (by omega) ?_
  refine If_F ?_
  refine leS (h.sl (i := 1) rfl) ?_
  refine cl1 h n_law16_pick (cc4 h.ext) fun w h => ?_
  refine Jn2.lfb tR (fO (some (1 - e.2))) (.int .i64 0) h (fun K lf1 => ?_) (fun ga w h => ?_)
  · replace h := h.dr
    refine diR h 0 rfl (by omega) fun zg zk zv => ?_
    refine drA h 0 rfl (by assumption) (by assumption) (by rfl) ?_
    refine ⟨?_, ?_⟩
    refine cl1 h n_law16_of (cc2 h.ext) fun w h => ?_
    refine krA h 0 rfl (by assumption) (by assumption) (by rfl) ?_
    refine ⟨?_, ?_⟩
    refine cl1 h n_rational_Sub (cc6 h.ext) fun w h => ?_
    refine ExP2 ?_
    refine alS h fun g1 w h => ?_
    refine krA h 1 rfl (by assumption) (by assumption) (by rfl) ?_
    refine stA h 0 rfl rfl rfl rfl fun w h => ?_
    exact lf1 _ _ h
    refine alS h fun g1 w h => ?_
    refine krA h 1 rfl (by assumption) (by assumption) (by rfl) ?_
    refine cl1 h n_rational_Sub (cc6 h.ext) fun w h => ?_
    refine ExP2 ?_
    refine stA h 0 rfl rfl rfl rfl fun w h => ?_
    exact lf1 _ _ h
    refine alS h fun g1 w h => ?_
    refine krA h 1 rfl (by assumption) (by assumption) (by rfl) ?_
    refine cl1 h n_law16_of (cc2 h.ext) fun w h => ?_
    refine krA h 1 rfl (by assumption) (by assumption) (by rfl) ?_
    refine cl1 h n_rational_Sub (cc6 h.ext) fun w h => ?_
    refine ExP2 ?_
    refine stA h 0 rfl rfl rfl rfl fun w h => ?_
    exact lf1 _ _ h
  skip
  refine Jn2.lfb tR (fO (some ((1 - e.2) * ((t : Rat) / ((4 : Int) : Rat))))) (.int .i64 0) h (fun K lf1 => ?_) (fun gb w h => ?_)
  · replace h := h.dr
    refine dlA h 0 rfl rfl ?_
    refine ⟨?_, ?_⟩
    refine cl1 h n_law16_pick (cc5 h.ext) fun w h => ?_
    refine klA h 0 rfl rfl ?_
    refine ⟨?_, ?_⟩
    refine cl1 h n_law16_of (cc3 h.ext) fun w h => ?_
    refine klA h 0 rfl rfl ?_
    refine ⟨?_, ?_⟩
    refine cl1 h n_rational_Mul (cc7 h.ext) fun w h => ?_
    refine ExP2 ?_
    refine alS h fun g1 w h => ?_
    refine klA h 1 rfl rfl ?_
    refine stA h 0 rfl rfl rfl rfl fun w h => ?_
    exact lf1 _ _ h
    refine alS h fun g1 w h => ?_
    refine klA h 1 rfl rfl ?_
    refine cl1 h n_rational_Mul (cc7 h.ext) fun w h => ?_
    refine ExP2 ?_
    refine stA h 0 rfl rfl rfl rfl fun w h => ?_
    exact lf1 _ _ h
    refine alS h fun g1 w h => ?_
    refine klA h 1 rfl rfl ?_
    refine cl1 h n_law16_of (cc3 h.ext) fun w h => ?_
    refine klA h 1 rfl rfl ?_
    refine cl1 h n_rational_Mul (cc7 h.ext) fun w h => ?_
    refine ExP2 ?_
    refine stA h 0 rfl rfl rfl rfl fun w h => ?_
    exact lf1 _ _ h
    refine alS h fun g1 w h => ?_
    refine klA h 1 rfl rfl ?_
    refine cl1 h n_law16_pick (cc5 h.ext) fun w h => ?_
    refine klA h 1 rfl rfl ?_
    refine cl1 h n_law16_of (cc3 h.ext) fun w h => ?_
    refine klA h 1 rfl rfl ?_
    refine cl1 h n_rational_Mul (cc7 h.ext) fun w h => ?_
    refine ExP2 ?_
    refine stA h 0 rfl rfl rfl rfl fun w h => ?_
    exact lf1 _ _ h
  skip
  refine Jn2.lfb tR (fO (some (bet e.2 t))) (.int .i64 0) h (fun K lf1 => ?_) (fun gc w h => ?_)
  · replace h := h.dr
    refine diR h 2 rfl (by omega) fun zg zk zv => ?_
    refine drA h 2 rfl (by assumption) (by assumption) (by rfl) ?_
    refine dlA h 0 rfl rfl ?_
    refine ⟨?_, ?_⟩
    refine cl1 h n_rational_Add (cc8 h.ext) fun w h => ?_
    refine ExP2 ?_
    refine alS h fun g1 w h => ?_
    refine krA h 3 rfl (by assumption) (by assumption) (by rfl) ?_
    refine klA h 1 rfl rfl ?_
    refine stA h 0 rfl rfl rfl rfl fun w h => ?_
    exact lf1 _ _ h
    refine alS h fun g1 w h => ?_
    refine krA h 3 rfl (by assumption) (by assumption) (by rfl) ?_
    refine klA h 1 rfl rfl ?_
    refine cl1 h n_rational_Add (cc8 h.ext) fun w h => ?_
    refine ExP2 ?_
    refine stA h 0 rfl rfl rfl rfl fun w h => ?_
    exact lf1 _ _ h
  refine Bn_neF (by omega) ?_
  iterate 2 refine Gd_F ?_
  refine Bn_neF (by omega) ?_
  refine Pick_F ?_
  iterate 2 refine Gd_F ?_
  refine Bn_neF (by omega) ?_
  refine Pick_F ?_
  refine If_F ?_
  refine bs0 h fun v1 w h => ?_
  refine apR (by rfl) (by decide) h 0 rfl (h.sl (i := 4) rfl) (by first | rfl | assumption) (by omega) fun v2 w h => ?_
  refine ldA h 1 rfl rfl ?_
  refine iaR h 0 rfl (by omega) fun zg zk zv => ?_
  refine stRA h 0 rfl (by assumption) (by rfl) (by rfl) (by simp only [List.length_cons, List.length_nil]; omega) fun w h => ?_
  refine cl1 h n_estimate_Variance (cc9 h.ext (by first | exact (h.sl (i := 5) rfl) | assumption) (by first | exact (h.sl (i := 4) rfl) | assumption)) fun w h => ?_
  refine Ex2 ?_
  refine alS h fun g1 w h => ?_
  refine stA h 0 rfl rfl rfl rfl fun w h => ?_
  refine cl1 h n_estimate_Variance (cc10 h.ext (by first | exact (h.sl (i := 6) rfl) | assumption) (by first | exact (h.sl (i := 1) rfl) | assumption)) fun w h => ?_
  refine Ex2 ?_
  refine alS h fun g2 w h => ?_
  refine stA h 0 rfl rfl rfl rfl fun w h => ?_
  refine Bn_eqT (by omega) ?_
  iterate 2 refine Gd_T ?_
  refine Bn_eqT (by omega) ?_
  refine Pick_T ?_
  refine Gd_T ?_
  refine ldA h 0 rfl rfl ?_
  refine Gd_T ?_
  refine ldA h 1 rfl rfl ?_
  refine Gd_T ?_
  refine cl1 h n_rational_Compare (cc11 h.ext) fun w h => ?_
  refine Gd_T ?_
  refine Bn_leT (by omega) ?_
  refine Pick_T ?_
  dsimp only [List.set] at h
  exact Ret.mk ⟨h.ext, rfl⟩
end Go.Proofs.YtnocjgmmglmfiaaGreatDoor
