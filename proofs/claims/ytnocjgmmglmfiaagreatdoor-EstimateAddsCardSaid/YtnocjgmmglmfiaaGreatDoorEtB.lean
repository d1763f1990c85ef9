/-
  Contracts and plain lemmas. By an AI agent.
-/
import Derived.Test.YtnocjgmmglmfiaaGreatDoorLEtB
import Derived.Test.YtnocjgmmglmfiaaGreatDoorEtA
import Derived.Test.YtnocjgmmglmfiaaGreatDoorEsY
set_option linter.unusedSimpArgs false
set_option linter.unusedVariables false
set_option linter.unusedSectionVars false
namespace Go.Proofs.YtnocjgmmglmfiaaGreatDoor
open Go Go.Eng Go.Proofs Go.Num Go.RowKit
set_option maxRecDepth 100000
set_option linter.unusedVariables false
set_option linter.unusedSectionVars false
def zipE (g : Rat → Rat → Rat) (a b : List El) : List El := List.zipWith (fun e f => (g e.1 f.1, e.2)) a b
abbrev gS (x y : Rat) : Rat := x + y
abbrev gB (_ y : Rat) : Rat := y
theorem zip_len {g : Rat → Rat → Rat} (a b : List El) : (zipE g a b).length = min a.length b.length := by unfold zipE; simp
theorem zip_all {g : Rat → Rat → Rat} {P : El → Prop} : ∀ {a b : List El}, (∀ e ∈ a, ∀ f ∈ b, P (g e.1 f.1, e.2)) → ∀ x ∈ zipE g a b, P x
  | [], b, _, x, hx => by unfold zipE at hx; simp at hx
  | e :: a, [], _, x, hx => by unfold zipE at hx; simp at hx
  | e :: a, f :: b, h, x, hx => by
    unfold zipE at hx
    rw [List.zipWith_cons_cons] at hx
    rcases List.mem_cons.1 hx with rfl | hx
    · exact h e (by simp) f (by simp)
    · exact zip_all (g := g) (a := a) (b := b) (fun e he f hf => h e (by simp [he]) f (by simp [hf])) x hx
theorem zip_p {g : Rat → Rat → Rat} : ∀ a b : List El, (zipE g a b).flatMap fP = (a.take (min a.length b.length)).flatMap fP
  | [], b => by unfold zipE; simp
  | e :: a, [] => by unfold zipE; simp
  | e :: a, f :: b => by
    have := zip_p (g := g) a b
    unfold zipE at this ⊢
    rw [List.zipWith_cons_cons, List.length_cons, List.length_cons, Nat.succ_min_succ, List.take_succ_cons, List.flatMap_cons, List.flatMap_cons, this]
theorem zip_x : ∀ a b : List El, (zipE gB a b).flatMap fX = (b.take (min a.length b.length)).flatMap fX
  | [], b => by unfold zipE; simp
  | e :: a, [] => by unfold zipE; simp
  | e :: a, f :: b => by
    have := zip_x a b
    unfold zipE at this ⊢
    rw [List.zipWith_cons_cons, List.length_cons, List.length_cons, Nat.succ_min_succ, List.take_succ_cons, List.flatMap_cons, List.flatMap_cons, this]
theorem zip_sum : ∀ a b : List El, sumR tE (zipE gS a b) = sumR tE (a.take (min a.length b.length)) + sumR tE (zipE gB a b)
  | [], b => by unfold zipE; simp; show (0 : Rat) = 0 + 0; grind
  | e :: a, [] => by unfold zipE; simp; show (0 : Rat) = 0 + 0; grind
  | e :: a, f :: b => by
    have := zip_sum a b
    unfold zipE at this ⊢
    rw [List.zipWith_cons_cons, List.zipWith_cons_cons, List.length_cons, List.length_cons, Nat.succ_min_succ, List.take_succ_cons]
    show tE (e.1 + f.1, e.2) + sumR tE _ = tE e + sumR tE _ + (tE (f.1, e.2) + sumR tE _)
    rw [this]; unfold tE; grind
theorem zip_get {g : Rat → Rat → Rat} {a b : List El} {j : Nat} {e f : El} (h1 : a[j]? = some e) (h2 : b[j]? = some f) : (zipE g a b)[j]? = some (g e.1 f.1, e.2) := by
  unfold zipE; rw [List.getElem?_zipWith, h1, h2]
theorem MEs.app {a b : List El} (ha : MEs a) (hb : MEs b) : MEs (a ++ b) := fun e he => (List.mem_append.1 he).elim (ha e) (hb e)
theorem MEs.tk {a : List El} (ha : MEs a) (k : Nat) : MEs (a.take k) := fun e he => ha e (List.mem_of_mem_take he)
set_option maxHeartbeats 8000000 in
theorem law_Adds {w0 : World} {v v2 : Value} {l l2 : List I3} (he : En w0) (hv : SlC w0 3 v l.length (l.flatMap fT)) (hok : I3ok l) (hl : l.length ≤ 9223372036854775807) (hv2 : SlC w0 3 v2 l2.length (l2.flatMap fT)) (hok2 : I3ok l2) (hl2 : l2.length ≤ 9223372036854775807) :
    Calls Tryz.prog 7 #[v, v2] w0 (Ret fun r w' => Ext w0 w' ∧ r = .bool true) := by
  have ha := made_ME l 8
  have hal := made_len l 8
  have hax := fun (e : El) (he : e ∈ made l 8) => made_x he
  obtain ⟨a, haa⟩ : ∃ a, made l 8 = a := ⟨_, rfl⟩
  rw [haa] at ha hal hax
  have hb := made_ME l2 8
  have hbl := made_len l2 8
  have hbx := fun (e : El) (he : e ∈ made l2 8) => made_x he
  obtain ⟨b, hbb⟩ : ∃ b, made l2 8 = b := ⟨_, rfl⟩
  rw [hbb] at hb hbl hbx
  have hab := ha.app hb
  have habl : (a ++ b).length = 0 + a.length + b.length := by simp
  have habx : (a ++ b).flatMap fX = [] ++ a.flatMap fX ++ b.flatMap fX := by simp
  have habp : (a ++ b).flatMap fP = [] ++ a.flatMap fP ++ b.flatMap fP := by simp
  have hs1 : sumR tE (a ++ b) = sumR tE a + sumR tE b := sumR_append _ _ _
  have hs2 : sumR tD (a ++ b) = sumR tD a + sumR tD b := sumR_append _ _ _
  have hs3 : sumR tV (a ++ b) = sumR tV a + sumR tV b := sumR_append _ _ _
  have xa := oneX a
  have xb := oneX b
  have pa := oneP a
  have pb := oneP b
  obtain ⟨k, hk⟩ : ∃ k, min a.length b.length = k := ⟨_, rfl⟩
  have hkz : (min (a.length : Int) b.length).toNat = k := by omega
  have hz : MEs (zipE gS a b) := zip_all fun e he f hf => by
    have h := ha e he
    exact ⟨((hax e he).add (hbx f hf) (by decide)).mono (by decide) (by decide) (by decide) (by decide), h.p, h.q, h.r, h.h0, h.h1⟩
  have hy : MEs (zipE gB a b) := zip_all fun e he f hf => by
    have h := ha e he
    exact ⟨(hb f hf).x, h.p, h.q, h.r, h.h0, h.h1⟩
  have htk := ha.tk k
  have hzl := zip_len (g := gS) a b
  have hyl := zip_len (g := gB) a b
  have htl : (a.take k).length = k := by rw [List.length_take]; omega
  have hzp := zip_p (g := gS) a b
  have hyp := zip_p (g := gB) a b
  have hyx := zip_x a b
  have hsz := zip_sum a b
  rw [hk] at hzl hyl hzp hyp hyx hsz
  have hmz : min (a.length : Int) b.length = (k : Int) := by omega
  have add : ∀ {x y : Rat}, Sml x → Sml y → ∀ {W : World}, Ext w0 W → Calls Tryz.prog 25 #[ov (some x), ov (some y)] W (Ret fun r w' => Ext W w' ∧ r = .tuple #[ov (some (x + y)), .int .i64 0]) := fun {x y} hx hy {W} e => by
    have := o_add (w := W) (o := some x) (p := some y) (.some hx.rb) (.some hy.rb) (he.hT.ext e)
    rw [oadd_ok hx hy] at this
    exact this
  have cc1 := fun {W : World} (x : Ext w0 W) => c_sane (he.ext x)
  have cc2 : ∀ {W : World}, Ext w0 W → Calls Tryz.prog 25 #[ov (some (sumR tE a)), ov (some (sumR tE b))] W (Ret fun r w' => Ext W w' ∧ r = .tuple #[ov (some (sumR tE a + sumR tE b)), .int .i64 0]) := fun x => add (sml_E ha (by omega)) (sml_E hb (by omega)) x
  have cc3 : ∀ {W : World}, Ext w0 W → Calls Tryz.prog 25 #[ov (some (sumR tD a)), ov (some (sumR tD b))] W (Ret fun r w' => Ext W w' ∧ r = .tuple #[ov (some (sumR tD a + sumR tD b)), .int .i64 0]) := fun x => add (sml_D ha (by omega)) (sml_D hb (by omega)) x
  have cc4 : ∀ {W : World}, Ext w0 W → Calls Tryz.prog 25 #[ov (some (sumR tV a)), ov (some (sumR tV b))] W (Ret fun r w' => Ext W w' ∧ r = .tuple #[ov (some (sumR tV a + sumR tV b)), .int .i64 0]) := fun x => add (sml_V ha (by omega)) (sml_V hb (by omega)) x
  have cc5 : ∀ {W : World}, Ext w0 W → Calls Tryz.prog 25 #[ov (some (sumR tE (a.take k))), ov (some (sumR tE (zipE gB a b)))] W (Ret fun r w' => Ext W w' ∧ r = .tuple #[ov (some (sumR tE (a.take k) + sumR tE (zipE gB a b))), .int .i64 0]) := fun x => add (sml_E htk (by omega)) (sml_E hy (by omega)) x
  have cc6 : ∀ {W : World}, Ext w0 W → ∀ {v v' : Value}, SlC W 2 v a.length (a.flatMap fX) → SlC W 2 v' a.length (a.flatMap fP) → Calls Tryz.prog 14 #[v, v'] W (Ret fun r w' => Ext W w' ∧ r = .tuple #[ov (some (sumR tE a)), ov (some (sumR tD a)), .int .i64 0]) := fun {W} x {v v'} h1 h2 => m_Total (he.ext x) h1 h2 ha (by omega) rfl rfl
  have cc7 : ∀ {W : World}, Ext w0 W → ∀ {v v' : Value}, SlC W 2 v b.length (b.flatMap fX) → SlC W 2 v' b.length (b.flatMap fP) → Calls Tryz.prog 14 #[v, v'] W (Ret fun r w' => Ext W w' ∧ r = .tuple #[ov (some (sumR tE b)), ov (some (sumR tD b)), .int .i64 0]) := fun {W} x {v v'} h1 h2 => m_Total (he.ext x) h1 h2 hb (by omega) rfl rfl
  have cc8 : ∀ {W : World}, Ext w0 W → ∀ {v v' : Value}, SlC W 2 v (0 + a.length + b.length) ([] ++ a.flatMap fX ++ b.flatMap fX) → SlC W 2 v' (0 + a.length + b.length) ([] ++ a.flatMap fP ++ b.flatMap fP) → Calls Tryz.prog 14 #[v, v'] W (Ret fun r w' => Ext W w' ∧ r = .tuple #[ov (some (sumR tE a + sumR tE b)), ov (some (sumR tD a + sumR tD b)), .int .i64 0]) := fun {W} x {v v'} h1 h2 => m_Total (l := a ++ b) (he.ext x) (by rw [habl, habx]; exact h1) (by rw [habl, habp]; exact h2) hab (by omega) hs1 hs2
  have cc9 : ∀ {W : World}, Ext w0 W → ∀ {v v' : Value}, SlC W 2 v a.length (a.flatMap fX) → SlC W 2 v' a.length (a.flatMap fP) → Calls Tryz.prog 16 #[v, v'] W (Ret fun r w' => Ext W w' ∧ r = .tuple #[ov (some (sumR tV a)), .int .i64 0]) := fun {W} x {v v'} h1 h2 => m_Variance (he.ext x) h1 h2 ha (by omega) rfl
  have cc10 : ∀ {W : World}, Ext w0 W → ∀ {v v' : Value}, SlC W 2 v b.length (b.flatMap fX) → SlC W 2 v' b.length (b.flatMap fP) → Calls Tryz.prog 16 #[v, v'] W (Ret fun r w' => Ext W w' ∧ r = .tuple #[ov (some (sumR tV b)), .int .i64 0]) := fun {W} x {v v'} h1 h2 => m_Variance (he.ext x) h1 h2 hb (by omega) rfl
  have cc11 : ∀ {W : World}, Ext w0 W → ∀ {v v' : Value}, SlC W 2 v (0 + a.length + b.length) ([] ++ a.flatMap fX ++ b.flatMap fX) → SlC W 2 v' (0 + a.length + b.length) ([] ++ a.flatMap fP ++ b.flatMap fP) → Calls Tryz.prog 16 #[v, v'] W (Ret fun r w' => Ext W w' ∧ r = .tuple #[ov (some (sumR tV a + sumR tV b)), .int .i64 0]) := fun {W} x {v v'} h1 h2 => m_Variance (l := a ++ b) (he.ext x) (by rw [habl, habx]; exact h1) (by rw [habl, habp]; exact h2) hab (by omega) hs3
  have cc12 : ∀ {W : World}, Ext w0 W → ∀ {v v' : Value}, SlC W 2 v (min (a.length : Int) b.length).toNat ((a.flatMap fX).take ((min (a.length : Int) b.length).toNat * 2)) → SlC W 2 v' (min (a.length : Int) b.length).toNat ((a.flatMap fP).take ((min (a.length : Int) b.length).toNat * 2)) → Calls Tryz.prog 14 #[v, v'] W (Ret fun r w' => Ext W w' ∧ r = .tuple #[ov (some (sumR tE (a.take k))), ov (some (sumR tD (a.take k))), .int .i64 0]) := fun {W} x {v v'} h1 h2 => by
    rw [hkz] at h1 h2
    rw [flat_take (f := fX) (c := 2) (fun _ => rfl)] at h1
    rw [flat_take (f := fP) (c := 2) (fun _ => rfl)] at h2
    exact m_Total (he.ext x) (by rw [htl]; exact h1) (by rw [htl]; exact h2) htk (by omega) rfl rfl
  have cc13 : ∀ {W : World}, Ext w0 W → ∀ {v v' : Value}, SlC W 2 v (min (a.length : Int) b.length).toNat ((b.flatMap fX).take ((min (a.length : Int) b.length).toNat * 2)) → SlC W 2 v' (min (a.length : Int) b.length).toNat ((a.flatMap fP).take ((min (a.length : Int) b.length).toNat * 2)) → Calls Tryz.prog 14 #[v, v'] W (Ret fun r w' => Ext W w' ∧ r = .tuple #[ov (some (sumR tE (zipE gB a b))), ov (some (sumR tD (zipE gB a b))), .int .i64 0]) := fun {W} x {v v'} h1 h2 => by
    rw [hkz] at h1 h2
    rw [flat_take (f := fX) (c := 2) (fun _ => rfl)] at h1
    rw [flat_take (f := fP) (c := 2) (fun _ => rfl)] at h2
    exact m_Total (l := zipE gB a b) (he.ext x) (by rw [hyl, hyx]; exact h1) (by rw [hyl, hyp]; exact h2) hy (by omega) rfl rfl
  have cc14 : ∀ {W : World}, Ext w0 W → ∀ {v v' : Value}, SlC W 2 v k ((zipE gS a b).flatMap fX) → SlC W 2 v' (min (a.length : Int) b.length).toNat ((a.flatMap fP).take ((min (a.length : Int) b.length).toNat * 2)) → Calls Tryz.prog 14 #[v, v'] W (Ret fun r w' => Ext W w' ∧ r = .tuple #[ov (some (sumR tE (a.take k) + sumR tE (zipE gB a b))), ov (some (sumR tD (zipE gS a b))), .int .i64 0]) := fun {W} x {v v'} h1 h2 => by
    rw [hkz, flat_take (f := fP) (c := 2) (fun _ => rfl)] at h2
    exact m_Total (l := zipE gS a b) (he.ext x) (by rw [hzl]; exact h1) (by rw [hzl, hzp]; exact h2) hz (by omega) hsz rfl
  apply e_law16_EstimateAdds
  unfold s_law16_EstimateAdds
  have h := Hp.init [] w0
  refine cl1 h n_law16_sane (cc1 h.ext) fun w h => ?_
  refine Un_T ?_
  refine If_F ?_
  refine Cl_i n_ref16_Made (c_Made (most := 8) (hv.hp h) hok hl (by decide)) ?_
  rintro _ w' ⟨x, p, rfl, h'⟩
  rw [haa] at h'
  have h := h.cat2 h' ro_sm ro_sm
  refine Ex2 ?_
  refine Cl_i n_ref16_Made (c_Made (most := 8) (hv2.hp h) hok2 hl2 (by decide)) ?_
  rintro _ w' ⟨y, q, rfl, h'⟩
  rw [hbb] at h'
  have h := h.cat2 h' ro_sm ro_sm
  refine Ex2 ?_
  refine cl1 h n_estimate_Total (cc6 h.ext (by first | exact (h.sl (i := 3) rfl) | assumption) (by first | exact (h.sl (i := 2) rfl) | assumption)) fun w h => ?_
  refine Ex3 ?_
  refine alS h fun g1 w h => ?_
  refine alS h fun g2 w h => ?_
  refine stA h 1 rfl rfl rfl rfl fun w h => ?_
  refine stA h 0 rfl rfl rfl rfl fun w h => ?_
  refine cl1 h n_estimate_Total (cc7 h.ext (by first | exact (h.sl (i := 3) rfl) | assumption) (by first | exact (h.sl (i := 2) rfl) | assumption)) fun w h => ?_
  refine Ex3 ?_
  refine alS h fun g3 w h => ?_
  refine alS h fun g4 w h => ?_
  refine stA h 1 rfl rfl rfl rfl fun w h => ?_
  refine stA h 0 rfl rfl rfl rfl fun w h => ?_
  refine bs0 h fun v1 w h => ?_
  refine apR (by rfl) (by decide) h 0 rfl (h.sl (i := 8) rfl) (by first | rfl | assumption) (by omega) fun v3 w h => ?_
  refine apR (by rfl) (by decide) h 0 rfl (h.sl (i := 6) rfl) (by first | rfl | assumption) (by omega) fun v4 w h => ?_
  refine bs0 h fun v5 w h => ?_
  refine apR (by rfl) (by decide) h 0 rfl (h.sl (i := 8) rfl) (by first | rfl | assumption) (by omega) fun v6 w h => ?_
  refine apR (by rfl) (by decide) h 0 rfl (h.sl (i := 6) rfl) (by first | rfl | assumption) (by omega) fun v7 w h => ?_
  refine cl1 h n_estimate_Total (cc8 h.ext (by first | exact (h.sl (i := 1) rfl) | assumption) (by first | exact (h.sl (i := 0) rfl) | assumption)) fun w h => ?_
  refine Ex3 ?_
  refine alS h fun g5 w h => ?_
  refine alS h fun g6 w h => ?_
  refine stA h 1 rfl rfl rfl rfl fun w h => ?_
  refine stA h 0 rfl rfl rfl rfl fun w h => ?_
  refine cl1 h n_estimate_Variance (cc9 h.ext (by first | exact (h.sl (i := 11) rfl) | assumption) (by first | exact (h.sl (i := 10) rfl) | assumption)) fun w h => ?_
  refine Ex2 ?_
  refine alS h fun g7 w h => ?_
  refine stA h 0 rfl rfl rfl rfl fun w h => ?_
  refine cl1 h n_estimate_Variance (cc10 h.ext (by first | exact (h.sl (i := 10) rfl) | assumption) (by first | exact (h.sl (i := 9) rfl) | assumption)) fun w h => ?_
  refine Ex2 ?_
  refine alS h fun g8 w h => ?_
  refine stA h 0 rfl rfl rfl rfl fun w h => ?_
  refine bs0 h fun v8 w h => ?_
  refine apR (by rfl) (by decide) h 0 rfl (h.sl (i := 14) rfl) (by first | rfl | assumption) (by omega) fun v9 w h => ?_
  refine apR (by rfl) (by decide) h 0 rfl (h.sl (i := 12) rfl) (by first | rfl | assumption) (by omega) fun v10 w h => ?_
  refine bs0 h fun v11 w h => ?_
  refine apR (by rfl) (by decide) h 0 rfl (h.sl (i := 14) rfl) (by first | rfl | assumption) (by omega) fun v12 w h => ?_
  refine apR (by rfl) (by decide) h 0 rfl (h.sl (i := 12) rfl) (by first | rfl | assumption) (by omega) fun v13 w h => ?_
  refine cl1 h n_estimate_Variance (cc11 h.ext (by first | exact (h.sl (i := 1) rfl) | assumption) (by first | exact (h.sl (i := 0) rfl) | assumption)) fun w h => ?_
  refine Ex2 ?_
  refine alS h fun g9 w h => ?_
  refine stA h 0 rfl rfl rfl rfl fun w h => ?_
  refine Bn_neF (by omega) ?_
  iterate 2 refine Gd_F ?_
  refine Bn_neF (by omega) ?_
  refine Pick_F ?_
  iterate 2 refine Gd_F ?_
  refine Bn_neF (by omega) ?_
  refine Pick_F ?_
  iterate 2 refine Gd_F ?_
  refine Bn_neF (by omega) ?_
  refine Pick_F ?_
  iterate 2 refine Gd_F ?_
  refine Bn_neF (by omega) ?_
  refine Pick_F ?_
  iterate 2 refine Gd_F ?_
  refine Bn_neF (by omega) ?_
  refine Pick_F ?_
  refine If_F ?_
  refine ldA h 12 rfl rfl ?_
  refine ldA h 10 rfl rfl ?_
  refine cl1 h n_rational_Add (cc2 h.ext) fun w h => ?_
  refine Ex2 ?_
  refine alS h fun g10 w h => ?_
  refine stA h 0 rfl rfl rfl rfl fun w h => ?_
  refine ldA h 12 rfl rfl ?_
  refine ldA h 10 rfl rfl ?_
  refine cl1 h n_rational_Add (cc3 h.ext) fun w h => ?_
  refine Ex2 ?_
  refine alS h fun g11 w h => ?_
  refine stA h 0 rfl rfl rfl rfl fun w h => ?_
  refine ldA h 6 rfl rfl ?_
  refine ldA h 5 rfl rfl ?_
  refine cl1 h n_rational_Add (cc4 h.ext) fun w h => ?_
  refine Ex2 ?_
  refine alS h fun g12 w h => ?_
  refine stA h 0 rfl rfl rfl rfl fun w h => ?_
  refine Bn_neF (by omega) ?_
  iterate 2 refine Gd_F ?_
  refine Bn_neF (by omega) ?_
  refine Pick_F ?_
  iterate 2 refine Gd_F ?_
  refine Bn_neF (by omega) ?_
  refine Pick_F ?_
  refine Gd_F ?_
  refine ldA h 2 rfl rfl ?_
  refine Gd_F ?_
  refine ldA h 9 rfl rfl ?_
  refine Gd_F ?_
  refine qNeS ?_
  refine Pick_F ?_
  refine Gd_F ?_
  refine ldA h 1 rfl rfl ?_
  refine Gd_F ?_
  refine ldA h 8 rfl rfl ?_
  refine Gd_F ?_
  refine qNeS ?_
  refine Pick_F ?_
  refine Gd_F ?_
  refine ldA h 0 rfl rfl ?_
  refine Gd_F ?_
  refine ldA h 3 rfl rfl ?_
  refine Gd_F ?_
  refine qNeS ?_
  refine Pick_F ?_
  refine If_F ?_
  refine leS (h.sl (i := 19) rfl) ?_
  refine leS (h.sl (i := 17) rfl) ?_
  refine Bt_mi ?_
  dsimp only [List.set] at h
  have h := (h.pick [18, 17, 19, 16] (by decide) rfl).nil tR 2
  refine Lp2.mk (fun u i W => ∃ j : Nat, j ≤ k ∧ i = .int .i64 j ∧ Hp [] w0 W [ro tR 2 u j (((zipE gS a b).take j).flatMap fX), ro tR 2 p a.length (a.flatMap fP), ro tR 2 y b.length (b.flatMap fX), ro tR 2 x a.length (a.flatMap fX), ro tR 2 q b.length (b.flatMap fP)])
    (fun _ i _ => match i with | .int _ i' => k - i'.toNat | _ => 0) ⟨0, by omega, rfl, h⟩ ?_
  clear h
  rintro u _ W ⟨j, hj, rfl, h⟩
  by_cases hjl : j < k
  · refine Exists.elim (p := fun e => a[j]? = some e) ⟨_, List.getElem?_eq_getElem (by omega)⟩ fun e hje => ?_
    refine Exists.elim (p := fun e => b[j]? = some e) ⟨_, List.getElem?_eq_getElem (by omega)⟩ fun f hjf => ?_
    have sx : Seg (a.flatMap fX) (j * 2) (fX e) := flat_seg (f := fX) (fun _ => rfl) hje
    have sy : Seg (b.flatMap fX) (j * 2) (fX f) := flat_seg (f := fX) (fun _ => rfl) hjf
    have hzj := zip_get (g := gS) hje hjf
    have cc15 : ∀ {W : World}, Ext w0 W → Calls Tryz.prog 25 #[ov (some e.1), ov (some f.1)] W (Ret fun r w' => Ext W w' ∧ r = .tuple #[ov (some (e.1 + f.1)), .int .i64 0]) := fun x => add (ha e (List.mem_of_getElem? hje)).sx (hb f (List.mem_of_getElem? hjf)).sx x
    refine Bn_ltT (by omega) ?_
    refine If_T ?_
    refine Jn2.lfb tR (fO (some (e.1 + f.1))) (.int .i64 0) h (fun K lf1 => ?_) (fun gx w h => ?_)
    · replace h := h.dr
      refine diR h 3 rfl (by omega) fun zg zk zv => ?_
      refine drA h 3 rfl (by assumption) (by assumption) (by rfl) ?_
      refine diR h 2 rfl (by omega) fun zg zk zv => ?_
      refine drA h 2 rfl (by assumption) (by assumption) (by rfl) ?_
      refine ⟨?_, ?_⟩
      refine cl1 h n_rational_Add (cc15 h.ext) fun w h => ?_
      refine ExP2 ?_
      refine alS h fun g13 w h => ?_
      refine krA h 4 rfl (by assumption) (by assumption) (by rfl) ?_
      refine krA h 3 rfl (by assumption) (by assumption) (by rfl) ?_
      refine stA h 0 rfl rfl rfl rfl fun w h => ?_
      exact lf1 _ _ h
      refine alS h fun g13 w h => ?_
      refine krA h 4 rfl (by assumption) (by assumption) (by rfl) ?_
      refine krA h 3 rfl (by assumption) (by assumption) (by rfl) ?_
      refine cl1 h n_rational_Add (cc15 h.ext) fun w h => ?_
      refine ExP2 ?_
      refine stA h 0 rfl rfl rfl rfl fun w h => ?_
      exact lf1 _ _ h
    refine Bn_neF (by omega) ?_
    refine If_F ?_
    refine ldA h 0 rfl rfl ?_
    refine bs1A h (by rfl) (by decide) (by rfl) (by decide) fun v14 w h => ?_
    refine apR (by rfl) (by decide) h 2 rfl (h.sl (i := 0) rfl) (by first | rfl | assumption) (by omega) fun v15 w h => ?_
    refine Bn_ad (by omega) (by omega) ?_
    dsimp only [List.set] at h
    refine ⟨⟨j + 1, by omega, rfl, ?_⟩, by show k - ((j : Int) + 1).toNat < k - (j : Int).toNat; omega⟩
    rw [take_snoc hzj, List.flatMap_append]
    exact h.pick [2, 3, 4, 5, 6] (by decide) rfl
  have hjk : j = k := by omega
  subst hjk
  rw [List.take_of_length_le (by omega)] at h
  refine Bn_ltF (by omega) ?_
  refine If_F ?_
  refine Jn2.lfd tR (fO (some (sumR tE (a.take j)))) (.int .i64 0) h (fun K lf1 => ?_) (fun ga w h => ?_)
  · replace h := h.dr
    refine dscHz (h.sl (i := 3) rfl) (by first | omega | decide) (by first | omega | decide) fun v14 p1 => ?_
    refine dscHz (h.sl (i := 1) rfl) (by first | omega | decide) (by first | omega | decide) fun v15 p2 => ?_
    refine ⟨?_, ?_⟩
    refine cl1 h n_estimate_Total (cc12 h.ext (by first | exact (p1.2 _ (h.sl (i := 3) rfl)) | assumption) (by first | exact (p2.2 _ (h.sl (i := 1) rfl)) | assumption)) fun w h => ?_
    refine ExP3x ?_
    refine ⟨?_, ?_⟩
    refine alS h fun g13 w h => ?_
    refine alS h fun g14 w h => ?_
    refine stA h 1 rfl rfl rfl rfl fun w h => ?_
    refine stA h 0 rfl rfl rfl rfl fun w h => ?_
    exact lf1 _ _ (h.pick [1, 2, 3, 4, 5, 6] (by decide) rfl)
    refine alS h fun g13 w h => ?_
    refine alS h fun g14 w h => ?_
    refine stA h 0 rfl rfl rfl rfl fun w h => ?_
    refine stA h 1 rfl rfl rfl rfl fun w h => ?_
    exact lf1 _ _ (h.pick [0, 2, 3, 4, 5, 6] (by decide) rfl)
    refine ⟨?_, ?_⟩
    refine alS h fun g13 w h => ?_
    refine ⟨?_, ?_⟩
    refine cl1 h n_estimate_Total (cc12 h.ext (by first | exact (p1.2 _ (h.sl (i := 4) rfl)) | assumption) (by first | exact (p2.2 _ (h.sl (i := 2) rfl)) | assumption)) fun w h => ?_
    refine ExP3x ?_
    refine alS h fun g14 w h => ?_
    refine stA h 1 rfl rfl rfl rfl fun w h => ?_
    refine stA h 0 rfl rfl rfl rfl fun w h => ?_
    exact lf1 _ _ (h.pick [1, 2, 3, 4, 5, 6] (by decide) rfl)
    refine alS h fun g14 w h => ?_
    refine cl1 h n_estimate_Total (cc12 h.ext (by first | exact (p1.2 _ (h.sl (i := 5) rfl)) | assumption) (by first | exact (p2.2 _ (h.sl (i := 3) rfl)) | assumption)) fun w h => ?_
    refine ExP3x ?_
    refine stA h 1 rfl rfl rfl rfl fun w h => ?_
    refine stA h 0 rfl rfl rfl rfl fun w h => ?_
    exact lf1 _ _ (h.pick [1, 2, 3, 4, 5, 6] (by decide) rfl)
    refine alS h fun g13 w h => ?_
    refine ⟨?_, ?_⟩
    refine cl1 h n_estimate_Total (cc12 h.ext (by first | exact (p1.2 _ (h.sl (i := 4) rfl)) | assumption) (by first | exact (p2.2 _ (h.sl (i := 2) rfl)) | assumption)) fun w h => ?_
    refine ExP3x ?_
    refine alS h fun g14 w h => ?_
    refine stA h 0 rfl rfl rfl rfl fun w h => ?_
    refine stA h 1 rfl rfl rfl rfl fun w h => ?_
    exact lf1 _ _ (h.pick [0, 2, 3, 4, 5, 6] (by decide) rfl)
    refine alS h fun g14 w h => ?_
    refine cl1 h n_estimate_Total (cc12 h.ext (by first | exact (p1.2 _ (h.sl (i := 5) rfl)) | assumption) (by first | exact (p2.2 _ (h.sl (i := 3) rfl)) | assumption)) fun w h => ?_
    refine ExP3x ?_
    refine stA h 0 rfl rfl rfl rfl fun w h => ?_
    refine stA h 1 rfl rfl rfl rfl fun w h => ?_
    exact lf1 _ _ (h.pick [0, 2, 3, 4, 5, 6] (by decide) rfl)
  skip
  refine Jn2.lfd tR (fO (some (sumR tE (zipE gB a b)))) (.int .i64 0) h (fun K lf1 => ?_) (fun gb w h => ?_)
  · replace h := h.dr
    refine dscHz (h.sl (i := 3) rfl) (by first | omega | decide) (by first | omega | decide) fun v14 p1 => ?_
    refine dscHz (h.sl (i := 2) rfl) (by first | omega | decide) (by first | omega | decide) fun v15 p2 => ?_
    refine ⟨?_, ?_⟩
    refine cl1 h n_estimate_Total (cc13 h.ext (by first | exact (p1.2 _ (h.sl (i := 3) rfl)) | assumption) (by first | exact (p2.2 _ (h.sl (i := 2) rfl)) | assumption)) fun w h => ?_
    refine ExP3x ?_
    refine ⟨?_, ?_⟩
    refine alS h fun g13 w h => ?_
    refine alS h fun g14 w h => ?_
    refine stA h 1 rfl rfl rfl rfl fun w h => ?_
    refine stA h 0 rfl rfl rfl rfl fun w h => ?_
    exact lf1 _ _ (h.pick [1, 2, 3, 4, 5, 6, 7] (by decide) rfl)
    refine alS h fun g13 w h => ?_
    refine alS h fun g14 w h => ?_
    refine stA h 0 rfl rfl rfl rfl fun w h => ?_
    refine stA h 1 rfl rfl rfl rfl fun w h => ?_
    exact lf1 _ _ (h.pick [0, 2, 3, 4, 5, 6, 7] (by decide) rfl)
    refine ⟨?_, ?_⟩
    refine alS h fun g13 w h => ?_
    refine ⟨?_, ?_⟩
    refine cl1 h n_estimate_Total (cc13 h.ext (by first | exact (p1.2 _ (h.sl (i := 4) rfl)) | assumption) (by first | exact (p2.2 _ (h.sl (i := 3) rfl)) | assumption)) fun w h => ?_
    refine ExP3x ?_
    refine alS h fun g14 w h => ?_
    refine stA h 1 rfl rfl rfl rfl fun w h => ?_
    refine stA h 0 rfl rfl rfl rfl fun w h => ?_
    exact lf1 _ _ (h.pick [1, 2, 3, 4, 5, 6, 7] (by decide) rfl)
    refine alS h fun g14 w h => ?_
    refine cl1 h n_estimate_Total (cc13 h.ext (by first | exact (p1.2 _ (h.sl (i := 5) rfl)) | assumption) (by first | exact (p2.2 _ (h.sl (i := 4) rfl)) | assumption)) fun w h => ?_
    refine ExP3x ?_
    refine stA h 1 rfl rfl rfl rfl fun w h => ?_
    refine stA h 0 rfl rfl rfl rfl fun w h => ?_
    exact lf1 _ _ (h.pick [1, 2, 3, 4, 5, 6, 7] (by decide) rfl)
    refine alS h fun g13 w h => ?_
    refine ⟨?_, ?_⟩
    refine cl1 h n_estimate_Total (cc13 h.ext (by first | exact (p1.2 _ (h.sl (i := 4) rfl)) | assumption) (by first | exact (p2.2 _ (h.sl (i := 3) rfl)) | assumption)) fun w h => ?_
    refine ExP3x ?_
    refine alS h fun g14 w h => ?_
    refine stA h 0 rfl rfl rfl rfl fun w h => ?_
    refine stA h 1 rfl rfl rfl rfl fun w h => ?_
    exact lf1 _ _ (h.pick [0, 2, 3, 4, 5, 6, 7] (by decide) rfl)
    refine alS h fun g14 w h => ?_
    refine cl1 h n_estimate_Total (cc13 h.ext (by first | exact (p1.2 _ (h.sl (i := 5) rfl)) | assumption) (by first | exact (p2.2 _ (h.sl (i := 4) rfl)) | assumption)) fun w h => ?_
    refine ExP3x ?_
    refine stA h 0 rfl rfl rfl rfl fun w h => ?_
    refine stA h 1 rfl rfl rfl rfl fun w h => ?_
    exact lf1 _ _ (h.pick [0, 2, 3, 4, 5, 6, 7] (by decide) rfl)
  refine scHz (h.sl (i := 3) rfl) (by first | omega | decide) (by first | omega | decide) fun v14 p1 => ?_
  refine cl1 h n_estimate_Total (cc14 h.ext (by first | exact (h.sl (i := 2) rfl) | assumption) (by first | exact (p1.2 _ (h.sl (i := 3) rfl)) | assumption)) fun w h => ?_
  refine Ex3 ?_
  refine alS h fun g13 w h => ?_
  refine alS h fun g14 w h => ?_
  refine stA h 1 rfl rfl rfl rfl fun w h => ?_
  refine stA h 0 rfl rfl rfl rfl fun w h => ?_
  refine ldA h 3 rfl rfl ?_
  refine ldA h 2 rfl rfl ?_
  refine cl1 h n_rational_Add (cc5 h.ext) fun w h => ?_
  refine Ex2 ?_
  refine alS h fun g15 w h => ?_
  refine stA h 0 rfl rfl rfl rfl fun w h => ?_
  refine Bn_eqT (by omega) ?_
  iterate 2 refine Gd_T ?_
  refine Bn_eqT (by omega) ?_
  refine Pick_T ?_
  iterate 2 refine Gd_T ?_
  refine Bn_eqT (by omega) ?_
  refine Pick_T ?_
  iterate 2 refine Gd_T ?_
  refine Bn_eqT (by omega) ?_
  refine Pick_T ?_
  refine Gd_T ?_
  refine ldA h 0 rfl rfl ?_
  refine Gd_T ?_
  refine ldA h 2 rfl rfl ?_
  refine Gd_T ?_
  refine qEqS ?_
  refine Pick_T ?_
  dsimp only [List.set] at h
  exact Ret.mk ⟨h.ext, rfl⟩
end Go.Proofs.YtnocjgmmglmfiaaGreatDoor
