/-
  Contracts and plain lemmas. By an AI agent.
-/
import Derived.Test.YtnocjgmmglmfiaaGreatDoorLEsY
import Derived.Test.YtnocjgmmglmfiaaGreatDoorEsX
set_option linter.unusedSimpArgs false
set_option linter.unusedVariables false
set_option linter.unusedSectionVars false
namespace Go.Proofs.YtnocjgmmglmfiaaGreatDoor
open Go Go.Eng Go.Proofs Go.Num Go.RowKit
set_option maxRecDepth 100000
set_option linter.unusedVariables false
set_option linter.unusedSectionVars false
theorem one_flat {f : El → List Value} (hf : ∀ e, (f e).all (fun x => x.oneCell') = true) : ∀ l : List El, (l.flatMap f).all (fun x => x.oneCell') = true
  | [] => rfl
  | e :: l => by rw [List.flatMap_cons, List.all_append, hf, one_flat hf l]; rfl
theorem one_take {xs : List Value} (h : xs.all (fun x => x.oneCell') = true) (n : Nat) : (xs.take n).all (fun x => x.oneCell') = true :=
  List.all_eq_true.2 fun x hx => List.all_eq_true.1 h x (List.mem_of_mem_take hx)
theorem one_drop {xs : List Value} (h : xs.all (fun x => x.oneCell') = true) (n : Nat) : (xs.drop n).all (fun x => x.oneCell') = true :=
  List.all_eq_true.2 fun x hx => List.all_eq_true.1 h x (List.mem_of_mem_drop hx)
theorem oneX (l : List El) : (l.flatMap fX).all (fun x => x.oneCell') = true := one_flat (fun _ => rfl) l
theorem oneP (l : List El) : (l.flatMap fP).all (fun x => x.oneCell') = true := one_flat (fun _ => rfl) l
theorem pick_nat {c : Int} {n : Nat} (h : 0 < n) : ∃ k : Nat, pickZ c (n : Int) = (k : Int) ∧ k < n := by
  have := pickZ_bd (c := c) (n := (n : Int)) (by omega)
  exact ⟨(pickZ c n).toNat, by omega, by omega⟩
theorem q_div1 (n : Int) : (n : Rat) / ((1 : Int) : Rat) = (n : Rat) := by grind
def unE (e : El) : El := (e.1, qI 1)
theorem unE_ME {e : El} (h : ME e) : ME (unE e) := by
  have := ME.of (a := 0) (b := 1) (c := 1) (d := 1) (by decide) (by decide) (by decide) (by decide)
  rw [q_div1, q_div1] at this
  exact ⟨h.x, this.p, this.q, this.r, this.h0, this.h1⟩
theorem un_sums : ∀ l : List El, sumR tE (l.map unE) = sumR tX l ∧ sumR tD (l.map unE) = qI 0 ∧ sumR tV (l.map unE) = qI 0
  | [] => ⟨rfl, rfl, rfl⟩
  | e :: l => by
    obtain ⟨h1, h2, h3⟩ := un_sums l
    have e1 : qI 1 = 1 := rfl
    have e0 : qI 0 = 0 := rfl
    refine ⟨?_, ?_, ?_⟩
    · show tE (unE e) + sumR tE (l.map unE) = tX e + sumR tX l
      rw [h1]; unfold tE unE tX; simp only [e1]; grind
    · show tD (unE e) + sumR tD (l.map unE) = qI 0
      rw [h2]; unfold tD unE; simp only [e1, e0]; grind
    · show tV (unE e) + sumR tV (l.map unE) = qI 0
      rw [h3]; unfold tV unE; simp only [e1, e0]; grind
abbrev zE : El := (qI 0, qI 1 / qI 3)
theorem zE_ME : ME zE := by
  have := ME.of (a := 0) (b := 1) (c := 1) (d := 3) (by decide) (by decide) (by decide) (by decide)
  rw [q_div1] at this; exact this
def insZ (m : List El) (k : Nat) : List El := m.take k ++ [zE] ++ m.drop k
theorem ins_sum {t : El → Rat} (ht : t zE = 0) (m : List El) (k : Nat) : sumR t (insZ m k) = sumR t m := by
  have e : m = m.take k ++ m.drop k := (List.take_append_drop k m).symm
  unfold insZ
  rw [sumR_append, sumR_append]
  conv => rhs; rw [e, sumR_append]
  show sumR t (m.take k) + (t zE + 0) + sumR t (m.drop k) = _
  rw [ht]; grind
theorem ins_ME {m : List El} (h : MEs m) (k : Nat) : MEs (insZ m k) := fun e he => by
  unfold insZ at he
  rcases List.mem_append.1 he with he | he
  · rcases List.mem_append.1 he with he | he
    · exact h e (List.mem_of_mem_take he)
    · simp at he; subst he; exact zE_ME
  · exact h e (List.mem_of_mem_drop he)
theorem ins_len {m : List El} {k : Nat} (h : k ≤ m.length) : 0 + k + 1 + (m.length - k) = (insZ m k).length := by
  unfold insZ; simp only [List.length_append, List.length_take, List.length_drop, List.length_cons, List.length_nil]; omega
theorem ins_flat {f : El → List Value} {c : Nat} (hf : ∀ e, (f e).length = c) (m : List El) (k : Nat) : [] ++ (m.flatMap f).take (k * c) ++ f zE ++ (m.flatMap f).drop (k * c) = (insZ m k).flatMap f := by
  unfold insZ
  rw [flat_take hf, flat_drop hf, List.flatMap_append, List.flatMap_append]; simp
set_option maxHeartbeats 4000000 in
theorem law_Exact {w0 : World} {v : Value} {l : List I3} {at_ : Int} (he : En w0) (hv : SlC w0 3 v l.length (l.flatMap fT)) (hok : I3ok l) (hl : l.length ≤ 9223372036854775807) (hat : I64 at_) :
    Calls Tryz.prog 8 #[v, .int .i64 at_] w0 (Ret fun r w' => Ext w0 w' ∧ r = .bool true) := by
  have hm := made_ME l 12
  have hml := made_len l 12
  obtain ⟨m, hmm⟩ : ∃ m, made l 12 = m := ⟨_, rfl⟩
  rw [hmm] at hm hml
  have hu : MEs (m.map unE) := fun e he => by
    obtain ⟨a, ha, rfl⟩ := List.mem_map.1 he
    exact unE_ME (hm a ha)
  have hul : (m.map unE).length = m.length := by simp
  have hux : (m.map unE).flatMap fX = m.flatMap fX := by rw [List.flatMap_map]; rfl
  have us := un_sums m
  obtain ⟨k, hk, hkl⟩ := pick_nat (c := at_) (n := m.length + 1) (by omega)
  have hkl' : k ≤ m.length := by omega
  have hz := ins_ME hm k
  have hzl := ins_len hkl'
  have hzx := ins_flat (f := fX) (c := 2) (fun _ => rfl) m k
  have hzp := ins_flat (f := fP) (c := 2) (fun _ => rfl) m k
  have hz1 : sumR tE (insZ m k) = sumR tE m := ins_sum (by unfold tE; simp only [qI]; grind) m k
  have hz2 : sumR tD (insZ m k) = sumR tD m := ins_sum (by unfold tD; simp only [qI]; grind) m k
  have n1 := one_take (oneX m) (k * 2)
  have n2 := one_drop (oneX m) (k * 2)
  have n3 := one_take (oneP m) (k * 2)
  have n4 := one_drop (oneP m) (k * 2)
  have cc1 := fun {W : World} (x : Ext w0 W) => c_sane (he.ext x)
  have cc2 := fun {W : World} (x : Ext w0 W) => c_of1 (w := W) (n := 1) (he.hT.ext x) (by decide)
  have cc3 := fun {W : World} (x : Ext w0 W) => c_of1 (w := W) (n := 0) (he.hT.ext x) (by decide)
  have cc4 := fun {W : World} (x : Ext w0 W) => c_of (w := W) (n := 1) (d := 3) (he.hT.ext x) (by decide) (by decide) (by decide)
  have cc5 : ∀ {W : World}, Ext w0 W → ∀ {v v' : Value}, SlC W 2 v m.length (m.flatMap fX) → SlC W 2 v' m.length ((m.map unE).flatMap fP) → Calls Tryz.prog 14 #[v, v'] W (Ret fun r w' => Ext W w' ∧ r = .tuple #[ov (some (sumR tX m)), ov (some (qI 0)), .int .i64 0]) := fun {W} x {v v'} h1 h2 => m_Total (l := m.map unE) (he.ext x) (by rw [hul, hux]; exact h1) (by rw [hul]; exact h2) hu (by omega) us.1 us.2.1
  have cc6 : ∀ {W : World}, Ext w0 W → ∀ {v v' : Value}, SlC W 2 v m.length (m.flatMap fX) → SlC W 2 v' m.length ((m.map unE).flatMap fP) → Calls Tryz.prog 16 #[v, v'] W (Ret fun r w' => Ext W w' ∧ r = .tuple #[ov (some (qI 0)), .int .i64 0]) := fun {W} x {v v'} h1 h2 => m_Variance (l := m.map unE) (he.ext x) (by rw [hul, hux]; exact h1) (by rw [hul]; exact h2) hu (by omega) us.2.2
  have cc7 : ∀ {W : World}, Ext w0 W → ∀ {v : Value}, SlC W 2 v m.length (m.flatMap fX) → Calls Tryz.prog 20 #[v] W (Ret fun r w' => Ext W w' ∧ r = .tuple #[ov (some (sumR tX m)), .int .i64 0]) := fun {W} x {v} h1 => m_sum (he.ext x) h1 hm (by omega) rfl
  have cc8 : ∀ {W : World}, Ext w0 W → Calls Tryz.prog 23 #[.int .i64 at_, .int .i64 ((m.length : Int) + 1)] W (Ret fun r w' => Ext W w' ∧ r = .int .i64 (k : Int)) := fun {W} x => by
    have := c_pickL (w := W) (c := at_) (n := ((m.length + 1 : Nat) : Int)) hat (by omega)
    rw [hk] at this
    exact this
  have cc9 : ∀ {W : World}, Ext w0 W → ∀ {v v' : Value}, SlC W 2 v m.length (m.flatMap fX) → SlC W 2 v' m.length (m.flatMap fP) → Calls Tryz.prog 14 #[v, v'] W (Ret fun r w' => Ext W w' ∧ r = .tuple #[ov (some (sumR tE m)), ov (some (sumR tD m)), .int .i64 0]) := fun {W} x {v v'} h1 h2 => m_Total (he.ext x) h1 h2 hm (by omega) rfl rfl
  have cc10 : ∀ {W : World}, Ext w0 W → ∀ {v v' : Value}, SlC W 2 v (0 + k + 1 + (m.length - k)) ([] ++ (m.flatMap fX).take (k * 2) ++ fX zE ++ (m.flatMap fX).drop (k * 2)) → SlC W 2 v' (0 + k + 1 + (m.length - k)) ([] ++ (m.flatMap fP).take (k * 2) ++ fP zE ++ (m.flatMap fP).drop (k * 2)) → Calls Tryz.prog 14 #[v, v'] W (Ret fun r w' => Ext W w' ∧ r = .tuple #[ov (some (sumR tE m)), ov (some (sumR tD m)), .int .i64 0]) := fun {W} x {v v'} h1 h2 => by
    rw [hzl, hzx] at h1
    rw [hzl, hzp] at h2
    exact m_Total (he.ext x) h1 h2 hz (by omega) hz1 hz2
  apply e_law16_EstimateExact
  unfold s_law16_EstimateExact
  have h := Hp.init [] w0
  refine cl1 h n_law16_sane (cc1 h.ext) fun w h => ?_
  refine Un_T ?_
  refine If_F ?_
  refine Cl_i n_ref16_Made (c_Made (most := 12) (hv.hp h) hok hl (by decide)) ?_
  rintro _ w' ⟨x, p, rfl, h'⟩
  rw [hmm] at h'
  have h := h.cat2 h' ro_sm ro_sm
  refine Ex2 ?_
  have h := h.nil tR 2
  refine Lp2.mk (fun u i W => ∃ j : Nat, j ≤ m.length ∧ i = .int .i64 j ∧ Hp [] w0 W [ro tR 2 u j (((m.map unE).take j).flatMap fP), ro tR 2 p m.length (m.flatMap fP), ro tR 2 x m.length (m.flatMap fX)])
    (fun _ i _ => match i with | .int _ i' => m.length - i'.toNat | _ => 0) ⟨0, by omega, rfl, h⟩ ?_
  clear h
  rintro u _ W ⟨j, hj, rfl, h⟩
  by_cases hjl : j < m.length
  · refine leS (h.sl (i := 2) rfl) ?_
    refine Bn_ltT (by omega) ?_
    refine If_T ?_
    refine cl1 h n_law16_of (cc2 h.ext) fun w h => ?_
    refine bs1A h (by rfl) (by decide) (by rfl) (by decide) fun v1 w h => ?_
    refine apR (by rfl) (by decide) h 1 rfl (h.sl (i := 0) rfl) (by first | rfl | assumption) (by omega) fun v2 w h => ?_
    refine Bn_ad (by omega) (by omega) ?_
    dsimp only [List.set] at h
    have hje : (m.map unE)[j]? = some (unE m[j]) := by rw [List.getElem?_map, List.getElem?_eq_getElem hjl]; rfl
    refine ⟨⟨j + 1, by omega, rfl, ?_⟩, by show m.length - ((j : Int) + 1).toNat < m.length - (j : Int).toNat; omega⟩
    rw [take_snoc hje, List.flatMap_append]
    exact h.drop 1
  have hjm : j = m.length := by omega
  subst hjm
  rw [← hul, List.take_length, hul] at h
  refine leS (h.sl (i := 2) rfl) ?_
  refine Bn_ltF (by omega) ?_
  refine If_F ?_
  refine cl1 h n_estimate_Total (cc5 h.ext (by first | exact (h.sl (i := 2) rfl) | assumption) (by first | exact (h.sl (i := 0) rfl) | assumption)) fun w h => ?_
  refine Ex3 ?_
  refine alS h fun g1 w h => ?_
  refine alS h fun g2 w h => ?_
  refine stA h 1 rfl rfl rfl rfl fun w h => ?_
  refine stA h 0 rfl rfl rfl rfl fun w h => ?_
  refine cl1 h n_estimate_Variance (cc6 h.ext (by first | exact (h.sl (i := 4) rfl) | assumption) (by first | exact (h.sl (i := 2) rfl) | assumption)) fun w h => ?_
  refine Ex2 ?_
  refine alS h fun g3 w h => ?_
  refine stA h 0 rfl rfl rfl rfl fun w h => ?_
  refine cl1 h n_law16_sum (cc7 h.ext (by first | exact (h.sl (i := 5) rfl) | assumption)) fun w h => ?_
  refine Ex2 ?_
  refine alS h fun g4 w h => ?_
  refine stA h 0 rfl rfl rfl rfl fun w h => ?_
  replace h := h.dr
  refine Dv_neF (by omega) ?_
  iterate 2 refine GdP_F ?_
  refine Dv_neF (by omega) ?_
  refine PickP_F ?_
  iterate 2 refine GdP_F ?_
  refine Dv_neF (by omega) ?_
  refine PickP_F ?_
  refine GdP_F ?_
  refine dlA h 3 rfl rfl ?_
  refine GdP_F ?_
  refine dlA h 0 rfl rfl ?_
  refine GdP_F ?_
  refine dqNeS ?_
  refine PickP_F ?_
  refine GdP_F ?_
  refine dlA h 2 rfl rfl ?_
  refine Gd_F ?_
  refine cl1 h n_law16_of (cc3 h.ext) fun w h => ?_
  refine Kg_F ?_
  refine klA h 2 rfl rfl ?_
  refine GdP_F ?_
  refine dqNeS ?_
  refine PickP_F ?_
  refine GdP_F ?_
  refine dlA h 1 rfl rfl ?_
  refine Gd_F ?_
  refine cl1 h n_law16_of (cc3 h.ext) fun w h => ?_
  refine Kg_F ?_
  refine klA h 1 rfl rfl ?_
  refine GdP_F ?_
  refine dqNeS ?_
  refine PickP_F ?_
  refine If_F ?_
  refine leS (h.sl (i := 6) rfl) ?_
  refine Bn_ad (by omega) (by omega) ?_
  refine cl1 h n_law16_pick (cc8 h.ext) fun w h => ?_
  replace h := h.dr
  refine dscH (h.sl (i := 6) rfl) (by omega) fun v1 p1 => ?_
  refine dscL (h.sl (i := 6) rfl) (by omega) fun v2 p2 => ?_
  refine bs0 h fun v3 w h => ?_
  refine apR (by rfl) (by decide) h 0 rfl (p1.2 _ (h.sl (i := 7) rfl)) (by first | rfl | assumption) (by omega) fun v4 w h => ?_
  refine cl1 h n_law16_of (cc3 h.ext) fun w h => ?_
  refine bs1A h (by rfl) (by decide) (by rfl) (by decide) fun v5 w h => ?_
  refine apR (by rfl) (by decide) h 1 rfl (h.sl (i := 0) rfl) (by first | rfl | assumption) (by omega) fun v6 w h => ?_
  refine apR (by rfl) (by decide) h 1 rfl (p2.2 _ (h.sl (i := 8) rfl)) (by first | rfl | assumption) (by omega) fun v7 w h => ?_
  replace h := h.dr
  refine dscH (h.sl (i := 7) rfl) (by omega) fun v8 p3 => ?_
  refine dscL (h.sl (i := 7) rfl) (by omega) fun v9 p4 => ?_
  refine bs0 h fun v10 w h => ?_
  refine apR (by rfl) (by decide) h 0 rfl (p3.2 _ (h.sl (i := 8) rfl)) (by first | rfl | assumption) (by omega) fun v11 w h => ?_
  refine cl1 h n_law16_of (cc4 h.ext) fun w h => ?_
  refine bs1A h (by rfl) (by decide) (by rfl) (by decide) fun v12 w h => ?_
  refine apR (by rfl) (by decide) h 1 rfl (h.sl (i := 0) rfl) (by first | rfl | assumption) (by omega) fun v13 w h => ?_
  refine apR (by rfl) (by decide) h 1 rfl (p4.2 _ (h.sl (i := 9) rfl)) (by first | rfl | assumption) (by omega) fun v14 w h => ?_
  refine cl1 h n_estimate_Total (cc9 h.ext (by first | exact (h.sl (i := 10) rfl) | assumption) (by first | exact (h.sl (i := 9) rfl) | assumption)) fun w h => ?_
  refine Ex3 ?_
  refine alS h fun g5 w h => ?_
  refine alS h fun g6 w h => ?_
  refine stA h 1 rfl rfl rfl rfl fun w h => ?_
  refine stA h 0 rfl rfl rfl rfl fun w h => ?_
  refine cl1 h n_estimate_Total (cc10 h.ext (by first | exact (h.sl (i := 5) rfl) | assumption) (by first | exact (h.sl (i := 3) rfl) | assumption)) fun w h => ?_
  refine Ex3 ?_
  refine alS h fun g7 w h => ?_
  refine alS h fun g8 w h => ?_
  refine stA h 1 rfl rfl rfl rfl fun w h => ?_
  refine stA h 0 rfl rfl rfl rfl fun w h => ?_
  refine Bn_eqT (by omega) ?_
  iterate 2 refine Gd_T ?_
  refine Bn_eqT (by omega) ?_
  refine Pick_T ?_
  refine Gd_T ?_
  refine ldA h 3 rfl rfl ?_
  refine Gd_T ?_
  refine ldA h 1 rfl rfl ?_
  refine Gd_T ?_
  refine qEqS ?_
  refine Pick_T ?_
  refine Gd_T ?_
  refine ldA h 2 rfl rfl ?_
  refine Gd_T ?_
  refine ldA h 0 rfl rfl ?_
  refine Gd_T ?_
  refine qEqS ?_
  refine Pick_T ?_
  dsimp only [List.set] at h
  exact Ret.mk ⟨h.ext, rfl⟩
end Go.Proofs.YtnocjgmmglmfiaaGreatDoor
