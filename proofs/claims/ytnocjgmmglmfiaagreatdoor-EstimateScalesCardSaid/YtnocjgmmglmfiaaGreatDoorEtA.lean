/-
  Contracts and plain lemmas. By an AI agent.
-/
import Derived.Test.YtnocjgmmglmfiaaGreatDoorLEtA
import Derived.Test.YtnocjgmmglmfiaaGreatDoorEsX
set_option linter.unusedSimpArgs false
set_option linter.unusedVariables false
set_option linter.unusedSectionVars false
namespace Go.Proofs.YtnocjgmmglmfiaaGreatDoor
open Go Go.Eng Go.Proofs Go.Num Go.RowKit
set_option maxRecDepth 100000
set_option linter.unusedVariables false
set_option linter.unusedSectionVars false
section
variable {l : List El} (h : MEs l) (hl : l.length ≤ 20)
include h hl
theorem sml_E : Sml (sumR tE l) :=
  Sml.of (DR.sumR (by decide) fun e he => (h e he).tE) (by decide) (by decide +kernel) (Nat.lt_of_le_of_lt (Nat.mul_le_mul_right _ (by omega : l.length * 18000 ≤ 360000)) (by decide +kernel))
theorem sml_D : Sml (sumR tD l) :=
  Sml.of (DR.sumR (by decide) fun e he => (h e he).tD) (by decide) (by decide +kernel) (Nat.lt_of_le_of_lt (Nat.mul_le_mul_right _ (by omega : l.length * 324000000 ≤ 6480000000)) (by decide +kernel))
theorem sml_V : Sml (sumR tV l) :=
  Sml.of (DR.sumR (by decide) fun e he => (h e he).tV) (by decide) (by decide +kernel) (Nat.lt_of_le_of_lt (Nat.mul_le_mul_right _ (by omega : l.length * 8100000 ≤ 162000000)) (by decide +kernel))
end
def scE (c : Rat) (e : El) : El := (e.1 * c, e.2)
theorem sc_sums (c : Rat) : ∀ l : List El, sumR tE (l.map (scE c)) = sumR tE l * c ∧ sumR tD (l.map (scE c)) = sumR tD l * (c * c) ∧ sumR tV (l.map (scE c)) = sumR tV l * (c * c)
  | [] => ⟨by show (0 : Rat) = 0 * c; rw [Rat.zero_mul], by show (0 : Rat) = 0 * (c * c); rw [Rat.zero_mul], by show (0 : Rat) = 0 * (c * c); rw [Rat.zero_mul]⟩
  | e :: l => by
    obtain ⟨h1, h2, h3⟩ := sc_sums c l
    refine ⟨?_, ?_, ?_⟩
    · show tE (scE c e) + sumR tE (l.map (scE c)) = (tE e + sumR tE l) * c
      rw [h1]; unfold tE scE; grind
    · show tD (scE c e) + sumR tD (l.map (scE c)) = (tD e + sumR tD l) * (c * c)
      rw [h2]; unfold tD scE; grind
    · show tV (scE c e) + sumR tV (l.map (scE c)) = (tV e + sumR tV l) * (c * c)
      rw [h3]; unfold tV scE; grind
theorem made_x {l : List I3} {most : Nat} {e : El} (h : e ∈ made l most) : DR 6 30 e.1 := by
  obtain ⟨a, _, rfl⟩ := List.mem_map.1 h
  exact mkE_x a
theorem dvd60 {d : Int} (h0 : 1 ≤ d) (h1 : d ≤ 6) : d.natAbs ∣ 60 := by
  have : ∀ n : Nat, n < 7 → 0 < n → n ∣ 60 := by decide +kernel
  exact this _ (by omega) (by omega)
set_option maxHeartbeats 4000000 in
theorem law_Scales {w0 : World} {v : Value} {l : List I3} {n d : Int} (he : En w0) (hv : SlC w0 3 v l.length (l.flatMap fT)) (hok : I3ok l) (hl : l.length ≤ 9223372036854775807) (hn : I64 n) (hd : I64 d) :
    Calls Tryz.prog 9 #[v, .int .i64 n, .int .i64 d] w0 (Ret fun r w' => Ext w0 w' ∧ r = .bool true) := by
  have hm := made_ME l 10
  have hml := made_len l 10
  have hmx := fun (e : El) (he : e ∈ made l 10) => made_x he
  obtain ⟨m, hmm⟩ : ∃ m, made l 10 = m := ⟨_, rfl⟩
  rw [hmm] at hm hml hmx
  have b1 := pickZ_bd (c := n) (n := 31) (by decide)
  have b2 := pickZ_bd (c := d) (n := 6) (by decide)
  obtain ⟨N, hN⟩ : ∃ N, pickZ n 31 = N := ⟨_, rfl⟩
  obtain ⟨D, hD⟩ : ∃ D, pickZ d 6 = D := ⟨_, rfl⟩
  rw [hN] at b1
  rw [hD] at b2
  have hc60 : DR 60 15 (((N - 15 : Int) : Rat) / ((1 + D : Int) : Rat)) := .of (by omega) (dvd60 (by omega) (by omega)) (by decide) (by omega)
  have cc3 := fun {W : World} (x : Ext w0 W) => c_of (w := W) (n := N - 15) (d := 1 + D) (he.hT.ext x) (by omega) (by omega) (by omega)
  obtain ⟨c, hc⟩ : ∃ c, ((N - 15 : Int) : Rat) / ((1 + D : Int) : Rat) = c := ⟨_, rfl⟩
  rw [hc] at hc60
  simp only [hc] at cc3
  have hcs : Sml c := Sml.of hc60 (by decide) (by decide +kernel) (by decide +kernel)
  have hcq : Sml (c * c) := Sml.of (hc60.mul hc60 (by decide) (by decide)) (by decide) (by decide +kernel) (by decide +kernel)
  have hy : MEs (m.map (scE c)) := fun e he => by
    obtain ⟨a, ha, rfl⟩ := List.mem_map.1 he
    have h := hm a ha
    exact ⟨(hmx a ha).mul hc60 (by decide) (by decide), h.p, h.q, h.r, h.h0, h.h1⟩
  have hyl : (m.map (scE c)).length = m.length := by simp
  have hyp : (m.map (scE c)).flatMap fP = m.flatMap fP := by rw [List.flatMap_map]; rfl
  obtain ⟨hs1, hs2, hs3⟩ := sc_sums c m
  have hr : MEs m.reverse := fun e he => hm e (List.mem_reverse.1 he)
  have hrl : m.reverse.length = m.length := by simp
  have hr1 : sumR tE m.reverse = sumR tE m := sumR_perm (List.reverse_perm m)
  have hr2 : sumR tD m.reverse = sumR tD m := sumR_perm (List.reverse_perm m)
  have sE' := sml_E hm (by omega)
  have sD' := sml_D hm (by omega)
  have sV' := sml_V hm (by omega)
  have cc1 := fun {W : World} (x : Ext w0 W) => c_sane (he.ext x)
  have cc2 : ∀ {W : World}, Ext w0 W → Calls Tryz.prog 23 #[.int .i64 n, .int .i64 31] W (Ret fun r w' => Ext W w' ∧ r = .int .i64 N) := fun {W} x => by
    have := c_pickL (w := W) (c := n) (n := 31) hn (by decide)
    rw [hN] at this
    exact this
  have cc4 : ∀ {W : World}, Ext w0 W → Calls Tryz.prog 23 #[.int .i64 d, .int .i64 6] W (Ret fun r w' => Ext W w' ∧ r = .int .i64 D) := fun {W} x => by
    have := c_pickL (w := W) (c := d) (n := 6) hd (by decide)
    rw [hD] at this
    exact this
  have mul : ∀ {x y : Rat}, Sml x → Sml y → ∀ {W : World}, Ext w0 W → Calls Tryz.prog 24 #[ov (some x), ov (some y)] W (Ret fun r w' => Ext W w' ∧ r = .tuple #[ov (some (x * y)), .int .i64 0]) := fun {x y} hx hy {W} e => by
    have := o_mul (w := W) (o := some x) (p := some y) (.some hx.rb) (.some hy.rb) (he.hT.ext e)
    rw [omul_ok hx hy] at this
    exact this
  have cc5 : ∀ {W : World}, Ext w0 W → Calls Tryz.prog 24 #[ov (some c), ov (some c)] W (Ret fun r w' => Ext W w' ∧ r = .tuple #[ov (some (c * c)), .int .i64 0]) := fun x => mul hcs hcs x
  have cc6 : ∀ {W : World}, Ext w0 W → Calls Tryz.prog 24 #[ov (some (sumR tE m)), ov (some c)] W (Ret fun r w' => Ext W w' ∧ r = .tuple #[ov (some (sumR tE m * c)), .int .i64 0]) := fun x => mul sE' hcs x
  have cc7 : ∀ {W : World}, Ext w0 W → Calls Tryz.prog 24 #[ov (some (sumR tD m)), ov (some (c * c))] W (Ret fun r w' => Ext W w' ∧ r = .tuple #[ov (some (sumR tD m * (c * c))), .int .i64 0]) := fun x => mul sD' hcq x
  have cc8 : ∀ {W : World}, Ext w0 W → Calls Tryz.prog 24 #[ov (some (sumR tV m)), ov (some (c * c))] W (Ret fun r w' => Ext W w' ∧ r = .tuple #[ov (some (sumR tV m * (c * c))), .int .i64 0]) := fun x => mul sV' hcq x
  have cc9 : ∀ {W : World}, Ext w0 W → ∀ {v v' : Value}, SlC W 2 v m.length (m.flatMap fX) → SlC W 2 v' m.length (m.flatMap fP) → Calls Tryz.prog 14 #[v, v'] W (Ret fun r w' => Ext W w' ∧ r = .tuple #[ov (some (sumR tE m)), ov (some (sumR tD m)), .int .i64 0]) := fun {W} x {v v'} h1 h2 => m_Total (he.ext x) h1 h2 hm (by omega) rfl rfl
  have cc10 : ∀ {W : World}, Ext w0 W → ∀ {v v' : Value}, SlC W 2 v m.length ((m.map (scE c)).flatMap fX) → SlC W 2 v' m.length (m.flatMap fP) → Calls Tryz.prog 14 #[v, v'] W (Ret fun r w' => Ext W w' ∧ r = .tuple #[ov (some (sumR tE m * c)), ov (some (sumR tD m * (c * c))), .int .i64 0]) := fun {W} x {v v'} h1 h2 => m_Total (l := m.map (scE c)) (he.ext x) (by rw [hyl]; exact h1) (by rw [hyl, hyp]; exact h2) hy (by omega) hs1 hs2
  have cc11 : ∀ {W : World}, Ext w0 W → ∀ {v v' : Value}, SlC W 2 v m.length (m.reverse.flatMap fX) → SlC W 2 v' m.length (m.reverse.flatMap fP) → Calls Tryz.prog 14 #[v, v'] W (Ret fun r w' => Ext W w' ∧ r = .tuple #[ov (some (sumR tE m)), ov (some (sumR tD m)), .int .i64 0]) := fun {W} x {v v'} h1 h2 => m_Total (l := m.reverse) (he.ext x) (by rw [hrl]; exact h1) (by rw [hrl]; exact h2) hr (by omega) hr1 hr2
  have cc12 : ∀ {W : World}, Ext w0 W → ∀ {v v' : Value}, SlC W 2 v m.length (m.flatMap fX) → SlC W 2 v' m.length (m.flatMap fP) → Calls Tryz.prog 16 #[v, v'] W (Ret fun r w' => Ext W w' ∧ r = .tuple #[ov (some (sumR tV m)), .int .i64 0]) := fun {W} x {v v'} h1 h2 => m_Variance (he.ext x) h1 h2 hm (by omega) rfl
  have cc13 : ∀ {W : World}, Ext w0 W → ∀ {v v' : Value}, SlC W 2 v m.length ((m.map (scE c)).flatMap fX) → SlC W 2 v' m.length (m.flatMap fP) → Calls Tryz.prog 16 #[v, v'] W (Ret fun r w' => Ext W w' ∧ r = .tuple #[ov (some (sumR tV m * (c * c))), .int .i64 0]) := fun {W} x {v v'} h1 h2 => m_Variance (l := m.map (scE c)) (he.ext x) (by rw [hyl]; exact h1) (by rw [hyl, hyp]; exact h2) hy (by omega) hs3
  apply e_law16_EstimateScales
  unfold s_law16_EstimateScales
  have h := Hp.init [] w0
  refine cl1 h n_law16_sane (cc1 h.ext) fun w h => ?_
  refine Un_T ?_
  refine If_F ?_
  refine Cl_i n_ref16_Made (c_Made (most := 10) (hv.hp h) hok hl (by decide)) ?_
  rintro _ w' ⟨x, p, rfl, h'⟩
  rw [hmm] at h'
  have h := h.cat2 h' ro_sm ro_sm
  refine Ex2 ?_
  refine cl1 h n_law16_pick (cc2 h.ext) fun w h => ?_
  refine Bn_su (by omega) (by omega) ?_
  refine cl1 h n_law16_pick (cc4 h.ext) fun w h => ?_
  refine Bn_ad (by omega) (by omega) ?_
  refine cl1 h n_law16_of (cc3 h.ext) fun w h => ?_
  refine alS h fun g1 w h => ?_
  refine stA h 0 rfl rfl rfl rfl fun w h => ?_
  iterate 2 refine ldA h 0 rfl rfl ?_
  refine cl1 h n_rational_Mul (cc5 h.ext) fun w h => ?_
  refine Ex2 ?_
  refine alS h fun g2 w h => ?_
  refine stA h 0 rfl rfl rfl rfl fun w h => ?_
  refine Bn_neF (by omega) ?_
  refine If_F ?_
  dsimp only [List.set] at h
  have h := ((h.nil tR 2).nil tR 2).nil tR 2
  refine Lp4.mk (fun u b q i W => ∃ j : Nat, j ≤ m.length ∧ i = .int .i64 j ∧ Hp [] w0 W [ro tR 2 q j ((m.reverse.take j).flatMap fP), ro tR 2 b j ((m.reverse.take j).flatMap fX), ro tR 2 u j (((m.map (scE c)).take j).flatMap fX), bx g2 tR (fO (some (c * c))), bx g1 tR (fO (some c)), ro tR 2 p m.length (m.flatMap fP), ro tR 2 x m.length (m.flatMap fX)])
    (fun _ _ _ i _ => match i with | .int _ i' => m.length - i'.toNat | _ => 0) ⟨0, by omega, rfl, h⟩ ?_
  clear h
  rintro u b q _ W ⟨j, hj, rfl, h⟩
  by_cases hjl : j < m.length
  · refine Exists.elim (p := fun e => m[j]? = some e) ⟨_, List.getElem?_eq_getElem hjl⟩ fun e hje => ?_
    refine Exists.elim (p := fun e => m[m.length - 1 - j]? = some e) ⟨_, List.getElem?_eq_getElem (by omega)⟩ fun f hjf => ?_
    have sx : Seg (m.flatMap fX) (j * 2) (fX e) := flat_seg (f := fX) (fun _ => rfl) hje
    have hz : ((m.length : Int) - 1 - (j : Int)).toNat = m.length - 1 - j := by omega
    have sy : Seg (m.flatMap fX) (((m.length : Int) - 1 - (j : Int)).toNat * 2) (fX f) := by rw [hz]; exact flat_seg (f := fX) (fun _ => rfl) hjf
    have sp : Seg (m.flatMap fP) (((m.length : Int) - 1 - (j : Int)).toNat * 2) (fP f) := by rw [hz]; exact flat_seg (f := fP) (fun _ => rfl) hjf
    have hrj : m.reverse[j]? = some f := by rw [List.getElem?_reverse hjl]; exact hjf
    have hsj : (m.map (scE c))[j]? = some (scE c e) := by rw [List.getElem?_map, hje]; rfl
    have cc14 : ∀ {W : World}, Ext w0 W → Calls Tryz.prog 24 #[ov (some e.1), ov (some c)] W (Ret fun r w' => Ext W w' ∧ r = .tuple #[ov (some (e.1 * c)), .int .i64 0]) := fun x => mul (hm e (List.mem_of_getElem? hje)).sx hcs x
    refine leS (h.sl (i := 6) rfl) ?_
    refine Bn_ltT (by omega) ?_
    refine If_T ?_
    refine Jn2.lfb tR (fO (some (e.1 * c))) (.int .i64 0) h (fun K lf1 => ?_) (fun gx w h => ?_)
    · replace h := h.dr
      refine diR h 6 rfl (by omega) fun zg zk zv => ?_
      refine drA h 6 rfl (by assumption) (by assumption) (by rfl) ?_
      refine dlA h 4 rfl rfl ?_
      refine ⟨?_, ?_⟩
      refine cl1 h n_rational_Mul (cc14 h.ext) fun w h => ?_
      refine ExP2 ?_
      refine alS h fun g3 w h => ?_
      refine krA h 7 rfl (by assumption) (by assumption) (by rfl) ?_
      refine klA h 5 rfl rfl ?_
      refine stA h 0 rfl rfl rfl rfl fun w h => ?_
      exact lf1 _ _ h
      refine alS h fun g3 w h => ?_
      refine krA h 7 rfl (by assumption) (by assumption) (by rfl) ?_
      refine klA h 5 rfl rfl ?_
      refine cl1 h n_rational_Mul (cc14 h.ext) fun w h => ?_
      refine ExP2 ?_
      refine stA h 0 rfl rfl rfl rfl fun w h => ?_
      exact lf1 _ _ h
    refine Bn_neF (by omega) ?_
    refine If_F ?_
    refine ldA h 0 rfl rfl ?_
    refine bs1A h (by rfl) (by decide) (by rfl) (by decide) fun v1 w h => ?_
    refine apR (by rfl) (by decide) h 4 rfl (h.sl (i := 0) rfl) (by first | rfl | assumption) (by omega) fun v2 w h => ?_
    refine leS (h.sl (i := 8) rfl) ?_
    iterate 2 refine Bn_su (by omega) (by omega) ?_
    refine iaRz h 8 rfl (by omega) (by omega) fun zg zk zv => ?_
    refine lrA h 8 rfl (by assumption) (by assumption) (by rfl) ?_
    refine bs1A h (by rfl) (by decide) (by rfl) (by decide) fun v3 w h => ?_
    refine apR (by rfl) (by decide) h 4 rfl (h.sl (i := 0) rfl) (by first | rfl | assumption) (by omega) fun v4 w h => ?_
    refine leS (h.sl (i := 9) rfl) ?_
    iterate 2 refine Bn_su (by omega) (by omega) ?_
    refine iaRz h 8 rfl (by omega) (by omega) fun zg zk zv => ?_
    refine lrA h 8 rfl (by assumption) (by assumption) (by rfl) ?_
    refine bs1A h (by rfl) (by decide) (by rfl) (by decide) fun v5 w h => ?_
    refine apR (by rfl) (by decide) h 4 rfl (h.sl (i := 0) rfl) (by first | rfl | assumption) (by omega) fun v6 w h => ?_
    refine Bn_ad (by omega) (by omega) ?_
    dsimp only [List.set] at h
    refine ⟨⟨j + 1, by omega, rfl, ?_⟩, by show m.length - ((j : Int) + 1).toNat < m.length - (j : Int).toNat; omega⟩
    rw [take_snoc hrj, take_snoc hsj, List.flatMap_append, List.flatMap_append, List.flatMap_append]
    exact h.pick [4, 5, 6, 7, 8, 9, 10] (by decide) rfl
  have hjm : j = m.length := by omega
  subst hjm
  rw [← hyl, List.take_length, hyl] at h
  rw [← hrl, List.take_length, hrl] at h
  refine leS (h.sl (i := 6) rfl) ?_
  refine Bn_ltF (by omega) ?_
  refine If_F ?_
  refine cl1 h n_estimate_Total (cc9 h.ext (by first | exact (h.sl (i := 6) rfl) | assumption) (by first | exact (h.sl (i := 5) rfl) | assumption)) fun w h => ?_
  refine Ex3 ?_
  refine alS h fun g3 w h => ?_
  refine alS h fun g4 w h => ?_
  refine stA h 1 rfl rfl rfl rfl fun w h => ?_
  refine stA h 0 rfl rfl rfl rfl fun w h => ?_
  refine cl1 h n_estimate_Total (cc10 h.ext (by first | exact (h.sl (i := 4) rfl) | assumption) (by first | exact (h.sl (i := 7) rfl) | assumption)) fun w h => ?_
  refine Ex3 ?_
  refine alS h fun g5 w h => ?_
  refine alS h fun g6 w h => ?_
  refine stA h 1 rfl rfl rfl rfl fun w h => ?_
  refine stA h 0 rfl rfl rfl rfl fun w h => ?_
  refine cl1 h n_estimate_Total (cc11 h.ext (by first | exact (h.sl (i := 5) rfl) | assumption) (by first | exact (h.sl (i := 4) rfl) | assumption)) fun w h => ?_
  refine Ex3 ?_
  refine alS h fun g7 w h => ?_
  refine alS h fun g8 w h => ?_
  refine stA h 1 rfl rfl rfl rfl fun w h => ?_
  refine stA h 0 rfl rfl rfl rfl fun w h => ?_
  refine cl1 h n_estimate_Variance (cc12 h.ext (by first | exact (h.sl (i := 12) rfl) | assumption) (by first | exact (h.sl (i := 11) rfl) | assumption)) fun w h => ?_
  refine Ex2 ?_
  refine alS h fun g9 w h => ?_
  refine stA h 0 rfl rfl rfl rfl fun w h => ?_
  refine cl1 h n_estimate_Variance (cc13 h.ext (by first | exact (h.sl (i := 9) rfl) | assumption) (by first | exact (h.sl (i := 12) rfl) | assumption)) fun w h => ?_
  refine Ex2 ?_
  refine alS h fun g10 w h => ?_
  refine stA h 0 rfl rfl rfl rfl fun w h => ?_
  refine Bn_neF (by omega) ?_
  iterate 2 refine Gd_F ?_
  refine Bn_neF (by omega) ?_
  refine Pick_F ?_
  iterate 2 refine Gd_F ?_
  refine Bn_neF (by omega) ?_
  refine Pick_F ?_
  iterate 2 refine Gd_F ?_
  refine Bn_neF (by omega) ?_
  refine Pick_F ?_
  iterate 2 refine Gd_F ?_
  refine Bn_neF (by omega) ?_
  refine Pick_F ?_
  refine Gd_F ?_
  refine ldA h 3 rfl rfl ?_
  refine Gd_F ?_
  refine ldA h 7 rfl rfl ?_
  refine Gd_F ?_
  refine qNeS ?_
  refine Pick_F ?_
  refine Gd_F ?_
  refine ldA h 2 rfl rfl ?_
  refine Gd_F ?_
  refine ldA h 6 rfl rfl ?_
  refine Gd_F ?_
  refine qNeS ?_
  refine Pick_F ?_
  refine If_F ?_
  refine ldA h 7 rfl rfl ?_
  refine ldA h 12 rfl rfl ?_
  refine cl1 h n_rational_Mul (cc6 h.ext) fun w h => ?_
  refine Ex2 ?_
  refine alS h fun g11 w h => ?_
  refine stA h 0 rfl rfl rfl rfl fun w h => ?_
  refine ldA h 7 rfl rfl ?_
  refine ldA h 12 rfl rfl ?_
  refine cl1 h n_rational_Mul (cc7 h.ext) fun w h => ?_
  refine Ex2 ?_
  refine alS h fun g12 w h => ?_
  refine stA h 0 rfl rfl rfl rfl fun w h => ?_
  refine ldA h 3 rfl rfl ?_
  refine ldA h 13 rfl rfl ?_
  refine cl1 h n_rational_Mul (cc8 h.ext) fun w h => ?_
  refine Ex2 ?_
  refine alS h fun g13 w h => ?_
  refine stA h 0 rfl rfl rfl rfl fun w h => ?_
  refine Bn_eqT (by omega) ?_
  iterate 2 refine Gd_T ?_
  refine Bn_eqT (by omega) ?_
  refine Pick_T ?_
  iterate 2 refine Gd_T ?_
  refine Bn_eqT (by omega) ?_
  refine Pick_T ?_
  refine Gd_T ?_
  refine ldA h 2 rfl rfl ?_
  refine Gd_T ?_
  refine ldA h 8 rfl rfl ?_
  refine Gd_T ?_
  refine qEqS ?_
  refine Pick_T ?_
  refine Gd_T ?_
  refine ldA h 1 rfl rfl ?_
  refine Gd_T ?_
  refine ldA h 7 rfl rfl ?_
  refine Gd_T ?_
  refine qEqS ?_
  refine Pick_T ?_
  refine Gd_T ?_
  refine ldA h 0 rfl rfl ?_
  refine Gd_T ?_
  refine ldA h 3 rfl rfl ?_
  refine Gd_T ?_
  refine qEqS ?_
  refine Pick_T ?_
  dsimp only [List.set] at h
  exact Ret.mk ⟨h.ext, rfl⟩
end Go.Proofs.YtnocjgmmglmfiaaGreatDoor
