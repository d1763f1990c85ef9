/-
  Contracts and plain lemmas. By an AI agent.
-/
import Derived.Test.YtnocjgmmglmfiaaGreatDoorEsU
set_option linter.unusedSimpArgs false
set_option linter.unusedVariables false
set_option linter.unusedSectionVars false
namespace Go.Proofs.YtnocjgmmglmfiaaGreatDoor
open Go Go.Eng Go.Proofs Go.Num Go.RowKit
set_option maxRecDepth 100000
set_option linter.unusedVariables false
set_option linter.unusedSectionVars false
abbrev qI (n : Int) : Rat := (n : Rat)
abbrev sEl : List El := [(qI 3, qI 1 / qI 2), (qI 5, qI 1 / qI 4)]
theorem sEl_ME : MEs sEl := by
  have e : ∀ z : Int, (z : Rat) / ((1 : Int) : Rat) = (z : Rat) := fun z => by grind
  intro x hx
  simp only [List.mem_cons, List.not_mem_nil, or_false] at hx
  rcases hx with rfl | rfl
  · have := ME.of (a := 3) (b := 1) (c := 1) (d := 2) (by decide) (by decide) (by decide) (by decide)
    rw [e] at this; exact this
  · have := ME.of (a := 5) (b := 1) (c := 1) (d := 4) (by decide) (by decide) (by decide) (by decide)
    rw [e] at this; exact this
theorem tot_ok {l : List El} (h : MEs l) (hl : l.length ≤ 400) : totO (l.map fun e => tx e.1) (l.map fun e => tx e.2) = some (sumR tE l, sumR tD l) := by
  rw [tot_s (elsOf_map h.good hl), est_ok h (by omega), esd_ok h (by omega)]; rfl
theorem vari_ok {l : List El} (h : MEs l) (hl : l.length ≤ 400) : varO (l.map fun e => tx e.1) (l.map fun e => tx e.2) = some (sumR tV l) := by
  rw [var_s (elsOf_map h.good hl), var_ok h (by omega)]
theorem expe_ok {l : List El} (h : MEs l) (hl : l.length ≤ 7) : expO (l.map fun e => tx e.1) (l.map fun e => tx e.2) = some (sumR tX l, sumR tV l, sumR tV l) := by
  rw [exp_s (elsOf_map h.good (by omega))]
  unfold expL
  rw [if_pos (by omega), expE_ok h hl]
  show (oExpV l (some (sumR tX l)) (2 ^ l.length)).bind _ = _
  rw [expV_ok h hl, expD_ok h hl]; rfl
theorem tx_len {x : Rat} (h : RB x) : (tx x).1.length ≤ 1000000 ∧ (tx x).2.length ≤ 1000000 := OB.len (o := some x) (.some h)
theorem rsok {l : List El} {f : El → Rat} (h : ∀ e ∈ l, RB (f e)) : RSok (l.map fun e => tx (f e)) := fun p hp => by
  obtain ⟨e, he, rfl⟩ := List.mem_map.1 hp
  exact tx_len (h e he)
theorem MEs.rx {l : List El} (h : MEs l) : RSok (l.map fun e => tx e.1) := rsok fun e he => (h e he).sx.rb
theorem MEs.rp {l : List El} (h : MEs l) : RSok (l.map fun e => tx e.2) := rsok fun e he => (h e he).sp.rb
section
variable {W : World} {v v' : Value} {l : List El} (he : En W) (hx : SlC W 2 v l.length (l.flatMap fX)) (hp : SlC W 2 v' l.length (l.flatMap fP)) (h : MEs l)
include he hx hp h
theorem m_Total (hl : l.length ≤ 400) {a b : Rat} (ha : sumR tE l = a) (hb : sumR tD l = b) : Calls Tryz.prog 14 #[v, v'] W (Ret fun r w' => Ext W w' ∧ r = .tuple #[ov (some a), ov (some b), .int .i64 0]) := by
  have := c_Total (.ofx hx) (.ofp hp) h.rx h.rp he
  rw [tot_ok h hl, ha, hb] at this
  exact this
theorem m_Variance (hl : l.length ≤ 400) {a : Rat} (ha : sumR tV l = a) : Calls Tryz.prog 16 #[v, v'] W (Ret fun r w' => Ext W w' ∧ r = .tuple #[ov (some a), .int .i64 0]) := by
  have := c_Variance (.ofx hx) (.ofp hp) h.rx h.rp he
  rw [vari_ok h hl, ha] at this
  exact this
theorem m_Expect (hl : l.length ≤ 7) {a b : Rat} (ha : sumR tX l = a) (hb : sumR tV l = b) : Calls Tryz.prog 18 #[v, v'] W (Ret fun r w' => Ext W w' ∧ r = .tuple #[ov (some a), ov (some b), ov (some b), .int .i64 0]) := by
  have := c_Expect (.ofx hx) (.ofp hp) h.rx h.rp he
  rw [expe_ok h hl, ha, hb] at this
  exact this
end
theorem sE : sumR tE sEl = qI 26 := by decide +kernel
theorem sD : sumR tD sEl = qI 318 := by decide +kernel
theorem sV : sumR tV sEl = qI 84 := by decide +kernel
theorem sX : sumR tX sEl = qI 8 := by decide +kernel
theorem mes_nil : MEs [] := fun e he => by simp at he
theorem slc_nil {W : World} {c : Nat} : SlC W c (.slice none 0 0) 0 [] := ⟨by simp, .inl ⟨rfl, rfl⟩⟩
theorem rb_i {n : Int} (h : n.natAbs < 1000) : RB (n : Rat) := by
  have hm : 1000 ≤ MaxI := by decide +kernel
  exact ⟨by rw [Rat.num_intCast]; omega, by rw [Rat.den_intCast]; decide +kernel⟩
theorem s_bad1 {W : World} {v v' : Value} (he : En W) (hx : SlC W 2 v 1 [str (eN (some (qI 3))), str (eD (some (qI 3)))]) (hp : SlC W 2 v' 1 [str (eN (some (qI 0))), str (eD (some (qI 0)))]) :
    Calls Tryz.prog 14 #[v, v'] W (Ret fun r w' => Ext W w' ∧ r = .tuple #[ov none, ov none, .int .i64 160]) := by
  have h3 : RB (qI 3) := rb_i (by decide)
  have h0 : RB (qI 0) := rb_i (by decide)
  have := c_Total (lx := [tx (qI 3)]) (lp := [tx (qI 0)]) (w0 := W) hx hp (fun p hp => by simp at hp; subst hp; exact tx_len h3) (fun p hp => by simp at hp; subst hp; exact tx_len h0) he
  rw [tot_n (by
    unfold elsOf; rw [if_pos ⟨rfl, by decide⟩]
    exact allE_bad [] [] (toEl_no h3 h0 (by intro h; exact absurd h.1 (by decide +kernel))))] at this
  exact this
theorem s_bad2 {W : World} {v v' : Value} (he : En W) (hx : SlC W 2 v sEl.length (sEl.flatMap fX)) (hp : SlC W 2 v' 1 [str (eN (some (qI 1 / qI 2))), str (eD (some (qI 1 / qI 2)))]) :
    Calls Tryz.prog 16 #[v, v'] W (Ret fun r w' => Ext W w' ∧ r = .tuple #[ov none, .int .i64 160]) := by
  have h2 : RB (qI 1 / qI 2) := (sEl_ME (qI 3, qI 1 / qI 2) (by simp)).sp.rb
  have := c_Variance (lx := sEl.map fun e => tx e.1) (lp := [tx (qI 1 / qI 2)]) (w0 := W) (.ofx hx) hp sEl_ME.rx (fun p hp => by simp at hp; subst hp; exact tx_len h2) he
  rw [var_n (by unfold elsOf; rw [if_neg (by decide)])] at this
  exact this
set_option maxHeartbeats 4000000 in
theorem c_sane {w0 : World} (he : En w0) : Calls Tryz.prog 11 #[] w0 (Ret fun r w' => Ext w0 w' ∧ r = .bool true) := by
  have hI : ∀ {z : Int}, z.natAbs < 1000 → I64 z := fun h => by omega
  have of1 : ∀ (n : Int), n.natAbs < 1000 → ∀ {W : World}, Ext w0 W → Calls Tryz.prog 22 #[.int .i64 n, .int .i64 1] W (Ret fun r w' => Ext W w' ∧ r = ov (some (qI n))) := fun n h {W} x => c_of1 (he.hT.ext x) (hI h)
  have cc1 := fun {W : World} (x : Ext w0 W) => of1 3 (by decide) x
  have cc2 := fun {W : World} (x : Ext w0 W) => of1 5 (by decide) x
  have cc3 := fun {W : World} (x : Ext w0 W) => c_of (n := 1) (d := 2) (he.hT.ext x) (by decide) (by decide) (by decide)
  have cc4 := fun {W : World} (x : Ext w0 W) => c_of (n := 1) (d := 4) (he.hT.ext x) (by decide) (by decide) (by decide)
  have cc5 := fun {W : World} (x : Ext w0 W) => of1 26 (by decide) x
  have cc6 := fun {W : World} (x : Ext w0 W) => of1 318 (by decide) x
  have cc7 := fun {W : World} (x : Ext w0 W) => of1 84 (by decide) x
  have cc8 := fun {W : World} (x : Ext w0 W) => of1 8 (by decide) x
  have cc9 := fun {W : World} (x : Ext w0 W) => of1 0 (by decide) x
  have cc10 : ∀ {W : World}, Ext w0 W → Calls Tryz.prog 14 #[.slice none 0 0, .slice none 0 0] W (Ret fun r w' => Ext W w' ∧ r = .tuple #[ov (some (qI 0)), ov (some (qI 0)), .int .i64 0]) := fun x => m_Total (l := []) (he.ext x) slc_nil slc_nil mes_nil (by decide) rfl rfl
  have cc11 : ∀ {W : World}, Ext w0 W → ∀ {v v' : Value}, SlC W 2 v 2 (sEl.flatMap fX) → SlC W 2 v' 2 (sEl.flatMap fP) → Calls Tryz.prog 14 #[v, v'] W (Ret fun r w' => Ext W w' ∧ r = .tuple #[ov (some (qI 26)), ov (some (qI 318)), .int .i64 0]) := fun x _ _ h1 h2 => m_Total (he.ext x) h1 h2 sEl_ME (by decide) sE sD
  have cc12 : ∀ {W : World}, Ext w0 W → ∀ {v v' : Value}, SlC W 2 v 2 (sEl.flatMap fX) → SlC W 2 v' 2 (sEl.flatMap fP) → Calls Tryz.prog 16 #[v, v'] W (Ret fun r w' => Ext W w' ∧ r = .tuple #[ov (some (qI 84)), .int .i64 0]) := fun x _ _ h1 h2 => m_Variance (he.ext x) h1 h2 sEl_ME (by decide) sV
  have cc13 : ∀ {W : World}, Ext w0 W → ∀ {v v' : Value}, SlC W 2 v 2 (sEl.flatMap fX) → SlC W 2 v' 2 (sEl.flatMap fP) → Calls Tryz.prog 18 #[v, v'] W (Ret fun r w' => Ext W w' ∧ r = .tuple #[ov (some (qI 8)), ov (some (qI 84)), ov (some (qI 84)), .int .i64 0]) := fun x _ _ h1 h2 => m_Expect (he.ext x) h1 h2 sEl_ME (by decide) sX sV
  have cc14 : ∀ {W : World}, Ext w0 W → ∀ {v v' : Value}, SlC W 2 v 1 [str (eN (some (qI 3))), str (eD (some (qI 3)))] → SlC W 2 v' 1 [str (eN (some (qI 0))), str (eD (some (qI 0)))] → Calls Tryz.prog 14 #[v, v'] W (Ret fun r w' => Ext W w' ∧ r = .tuple #[ov none, ov none, .int .i64 160]) := fun x _ _ h1 h2 => s_bad1 (he.ext x) h1 h2
  have cc15 : ∀ {W : World}, Ext w0 W → ∀ {v v' : Value}, SlC W 2 v 2 (sEl.flatMap fX) → SlC W 2 v' 1 [str (eN (some (qI 1 / qI 2))), str (eD (some (qI 1 / qI 2)))] → Calls Tryz.prog 16 #[v, v'] W (Ret fun r w' => Ext W w' ∧ r = .tuple #[ov none, .int .i64 160]) := fun x _ _ h1 h2 => s_bad2 (he.ext x) h1 h2
  have cc16 : ∀ {W : World}, Ext w0 W → Calls Tryz.prog 28 #[ov (some (qI 26))] W (Ret fun r w' => Ext W w' ∧ r = .bool true) := fun x => o_valid (.some (rb_i (by decide))) (he.hT.ext x)
  apply e_law16_sane
  unfold s_law16_sane
  have h := Hp.init [] w0
  refine cl1 h n_law16_of (cc1 h.ext) fun w h => ?_
  refine cl1 h n_law16_of (cc2 h.ext) fun w h => ?_
  refine bsN (vs := [_, _]) h (.cons (by rfl) (by rfl) (.cons (by rfl) (by rfl) .nil)) (by rfl) (by rfl) (by decide) (by decide) (by decide) fun v1 w h => ?_
  refine cl1 h n_law16_of (cc3 h.ext) fun w h => ?_
  refine cl1 h n_law16_of (cc4 h.ext) fun w h => ?_
  refine bsN (vs := [_, _]) h (.cons (by rfl) (by rfl) (.cons (by rfl) (by rfl) .nil)) (by rfl) (by rfl) (by decide) (by decide) (by decide) fun v2 w h => ?_
  refine cl1 h n_estimate_Total (cc11 h.ext (by first | exact (h.sl (i := 1) rfl) | assumption) (by first | exact (h.sl (i := 0) rfl) | assumption)) fun w h => ?_
  refine Ex3 ?_
  refine alS h fun g1 w h => ?_
  refine alS h fun g2 w h => ?_
  refine stA h 1 rfl rfl rfl rfl fun w h => ?_
  refine stA h 0 rfl rfl rfl rfl fun w h => ?_
  refine cl1 h n_estimate_Variance (cc12 h.ext (by first | exact (h.sl (i := 3) rfl) | assumption) (by first | exact (h.sl (i := 2) rfl) | assumption)) fun w h => ?_
  refine Ex2 ?_
  refine alS h fun g3 w h => ?_
  refine stA h 0 rfl rfl rfl rfl fun w h => ?_
  refine cl1 h n_estimate_Expect (cc13 h.ext (by first | exact (h.sl (i := 4) rfl) | assumption) (by first | exact (h.sl (i := 3) rfl) | assumption)) fun w h => ?_
  refine Ex4 ?_
  refine alS h fun g4 w h => ?_
  refine alS h fun g5 w h => ?_
  refine alS h fun g6 w h => ?_
  refine stA h 2 rfl rfl rfl rfl fun w h => ?_
  refine stA h 1 rfl rfl rfl rfl fun w h => ?_
  refine stA h 0 rfl rfl rfl rfl fun w h => ?_
  refine cl1 h n_estimate_Total (cc10 h.ext) fun w h => ?_
  refine Ex3 ?_
  refine alS h fun g7 w h => ?_
  refine alS h fun g8 w h => ?_
  refine stA h 1 rfl rfl rfl rfl fun w h => ?_
  refine stA h 0 rfl rfl rfl rfl fun w h => ?_
  dsimp only [List.set] at h
  refine Jn1.lf (.int .i64 160) h (fun K lf1 => ?_) (fun w h => ?_)
  · replace h := h.dr
    refine dscHz (h.sl (i := 9) rfl) (by first | omega | decide) (by first | omega | decide) fun v3 p1 => ?_
    refine ⟨?_, ?_⟩
    refine cl1 h n_law16_of (cc9 h.ext) fun w h => ?_
    refine ⟨?_, ?_⟩
    refine bs1A h (by rfl) (by decide) (by rfl) (by decide) fun v4 w h => ?_
    refine ⟨?_, ?_⟩
    refine cl1 h n_estimate_Total (cc14 h.ext (by first | exact (p1.2 _ (h.sl (i := 10) rfl)) | assumption) (by first | exact (h.sl (i := 0) rfl) | assumption)) fun w h => ?_
    refine ExP3x ?_
    refine ⟨?_, ?_⟩
    refine alS h fun g9 w h => ?_
    refine alS h fun g10 w h => ?_
    refine stA h 1 rfl rfl rfl rfl fun w h => ?_
    refine stA h 0 rfl rfl rfl rfl fun w h => ?_
    exact lf1 _ (h.pick [3, 4, 5, 6, 7, 8, 9, 10, 11, 12] (by decide) rfl)
    refine alS h fun g9 w h => ?_
    refine alS h fun g10 w h => ?_
    refine stA h 0 rfl rfl rfl rfl fun w h => ?_
    refine stA h 1 rfl rfl rfl rfl fun w h => ?_
    exact lf1 _ (h.pick [3, 4, 5, 6, 7, 8, 9, 10, 11, 12] (by decide) rfl)
    refine ⟨?_, ?_⟩
    refine alS h fun g9 w h => ?_
    refine ⟨?_, ?_⟩
    refine cl1 h n_estimate_Total (cc14 h.ext (by first | exact (p1.2 _ (h.sl (i := 11) rfl)) | assumption) (by first | exact (h.sl (i := 1) rfl) | assumption)) fun w h => ?_
    refine ExP3x ?_
    refine alS h fun g10 w h => ?_
    refine stA h 1 rfl rfl rfl rfl fun w h => ?_
    refine stA h 0 rfl rfl rfl rfl fun w h => ?_
    exact lf1 _ (h.pick [3, 4, 5, 6, 7, 8, 9, 10, 11, 12] (by decide) rfl)
    refine alS h fun g10 w h => ?_
    refine cl1 h n_estimate_Total (cc14 h.ext (by first | exact (p1.2 _ (h.sl (i := 12) rfl)) | assumption) (by first | exact (h.sl (i := 2) rfl) | assumption)) fun w h => ?_
    refine ExP3x ?_
    refine stA h 1 rfl rfl rfl rfl fun w h => ?_
    refine stA h 0 rfl rfl rfl rfl fun w h => ?_
    exact lf1 _ (h.pick [3, 4, 5, 6, 7, 8, 9, 10, 11, 12] (by decide) rfl)
    refine alS h fun g9 w h => ?_
    refine ⟨?_, ?_⟩
    refine cl1 h n_estimate_Total (cc14 h.ext (by first | exact (p1.2 _ (h.sl (i := 11) rfl)) | assumption) (by first | exact (h.sl (i := 1) rfl) | assumption)) fun w h => ?_
    refine ExP3x ?_
    refine alS h fun g10 w h => ?_
    refine stA h 0 rfl rfl rfl rfl fun w h => ?_
    refine stA h 1 rfl rfl rfl rfl fun w h => ?_
    exact lf1 _ (h.pick [3, 4, 5, 6, 7, 8, 9, 10, 11, 12] (by decide) rfl)
    refine alS h fun g10 w h => ?_
    refine cl1 h n_estimate_Total (cc14 h.ext (by first | exact (p1.2 _ (h.sl (i := 12) rfl)) | assumption) (by first | exact (h.sl (i := 2) rfl) | assumption)) fun w h => ?_
    refine ExP3x ?_
    refine stA h 0 rfl rfl rfl rfl fun w h => ?_
    refine stA h 1 rfl rfl rfl rfl fun w h => ?_
    exact lf1 _ (h.pick [3, 4, 5, 6, 7, 8, 9, 10, 11, 12] (by decide) rfl)
    refine ⟨?_, ?_⟩
    refine alS h fun g9 w h => ?_
    refine ⟨?_, ?_⟩
    refine bs1A h (by rfl) (by decide) (by rfl) (by decide) fun v4 w h => ?_
    refine ⟨?_, ?_⟩
    refine cl1 h n_estimate_Total (cc14 h.ext (by first | exact (p1.2 _ (h.sl (i := 11) rfl)) | assumption) (by first | exact (h.sl (i := 0) rfl) | assumption)) fun w h => ?_
    refine ExP3x ?_
    refine alS h fun g10 w h => ?_
    refine stA h 2 rfl rfl rfl rfl fun w h => ?_
    refine stA h 0 rfl rfl rfl rfl fun w h => ?_
    exact lf1 _ (h.pick [3, 4, 5, 6, 7, 8, 9, 10, 11, 12] (by decide) rfl)
    refine alS h fun g10 w h => ?_
    refine cl1 h n_estimate_Total (cc14 h.ext (by first | exact (p1.2 _ (h.sl (i := 12) rfl)) | assumption) (by first | exact (h.sl (i := 1) rfl) | assumption)) fun w h => ?_
    refine ExP3x ?_
    refine stA h 2 rfl rfl rfl rfl fun w h => ?_
    refine stA h 0 rfl rfl rfl rfl fun w h => ?_
    exact lf1 _ (h.pick [3, 4, 5, 6, 7, 8, 9, 10, 11, 12] (by decide) rfl)
    refine alS h fun g10 w h => ?_
    refine bs1A h (by rfl) (by decide) (by rfl) (by decide) fun v4 w h => ?_
    refine cl1 h n_estimate_Total (cc14 h.ext (by first | exact (p1.2 _ (h.sl (i := 12) rfl)) | assumption) (by first | exact (h.sl (i := 0) rfl) | assumption)) fun w h => ?_
    refine ExP3x ?_
    refine stA h 2 rfl rfl rfl rfl fun w h => ?_
    refine stA h 1 rfl rfl rfl rfl fun w h => ?_
    exact lf1 _ (h.pick [3, 4, 5, 6, 7, 8, 9, 10, 11, 12] (by decide) rfl)
    refine alS h fun g9 w h => ?_
    refine ⟨?_, ?_⟩
    refine bs1A h (by rfl) (by decide) (by rfl) (by decide) fun v4 w h => ?_
    refine ⟨?_, ?_⟩
    refine cl1 h n_estimate_Total (cc14 h.ext (by first | exact (p1.2 _ (h.sl (i := 11) rfl)) | assumption) (by first | exact (h.sl (i := 0) rfl) | assumption)) fun w h => ?_
    refine ExP3x ?_
    refine alS h fun g10 w h => ?_
    refine stA h 0 rfl rfl rfl rfl fun w h => ?_
    refine stA h 2 rfl rfl rfl rfl fun w h => ?_
    exact lf1 _ (h.pick [3, 4, 5, 6, 7, 8, 9, 10, 11, 12] (by decide) rfl)
    refine alS h fun g10 w h => ?_
    refine cl1 h n_estimate_Total (cc14 h.ext (by first | exact (p1.2 _ (h.sl (i := 12) rfl)) | assumption) (by first | exact (h.sl (i := 1) rfl) | assumption)) fun w h => ?_
    refine ExP3x ?_
    refine stA h 0 rfl rfl rfl rfl fun w h => ?_
    refine stA h 2 rfl rfl rfl rfl fun w h => ?_
    exact lf1 _ (h.pick [3, 4, 5, 6, 7, 8, 9, 10, 11, 12] (by decide) rfl)
    refine alS h fun g10 w h => ?_
    refine bs1A h (by rfl) (by decide) (by rfl) (by decide) fun v4 w h => ?_
    refine cl1 h n_estimate_Total (cc14 h.ext (by first | exact (p1.2 _ (h.sl (i := 12) rfl)) | assumption) (by first | exact (h.sl (i := 0) rfl) | assumption)) fun w h => ?_
    refine ExP3x ?_
    refine stA h 1 rfl rfl rfl rfl fun w h => ?_
    refine stA h 2 rfl rfl rfl rfl fun w h => ?_
    exact lf1 _ (h.pick [3, 4, 5, 6, 7, 8, 9, 10, 11, 12] (by decide) rfl)
    refine ⟨?_, ?_⟩
    refine alS h fun g9 w h => ?_
    refine ⟨?_, ?_⟩
    refine cl1 h n_law16_of (cc9 h.ext) fun w h => ?_
    refine ⟨?_, ?_⟩
    refine bs1A h (by rfl) (by decide) (by rfl) (by decide) fun v4 w h => ?_
    refine ⟨?_, ?_⟩
    refine cl1 h n_estimate_Total (cc14 h.ext (by first | exact (p1.2 _ (h.sl (i := 11) rfl)) | assumption) (by first | exact (h.sl (i := 0) rfl) | assumption)) fun w h => ?_
    refine ExP3x ?_
    refine alS h fun g10 w h => ?_
    refine stA h 2 rfl rfl rfl rfl fun w h => ?_
    refine stA h 0 rfl rfl rfl rfl fun w h => ?_
    exact lf1 _ (h.pick [3, 4, 5, 6, 7, 8, 9, 10, 11, 12] (by decide) rfl)
    refine alS h fun g10 w h => ?_
    refine cl1 h n_estimate_Total (cc14 h.ext (by first | exact (p1.2 _ (h.sl (i := 12) rfl)) | assumption) (by first | exact (h.sl (i := 1) rfl) | assumption)) fun w h => ?_
    refine ExP3x ?_
    refine stA h 2 rfl rfl rfl rfl fun w h => ?_
    refine stA h 0 rfl rfl rfl rfl fun w h => ?_
    exact lf1 _ (h.pick [3, 4, 5, 6, 7, 8, 9, 10, 11, 12] (by decide) rfl)
    refine alS h fun g10 w h => ?_
    refine bs1A h (by rfl) (by decide) (by rfl) (by decide) fun v4 w h => ?_
    refine cl1 h n_estimate_Total (cc14 h.ext (by first | exact (p1.2 _ (h.sl (i := 12) rfl)) | assumption) (by first | exact (h.sl (i := 0) rfl) | assumption)) fun w h => ?_
    refine ExP3x ?_
    refine stA h 2 rfl rfl rfl rfl fun w h => ?_
    refine stA h 1 rfl rfl rfl rfl fun w h => ?_
    exact lf1 _ (h.pick [3, 4, 5, 6, 7, 8, 9, 10, 11, 12] (by decide) rfl)
    refine alS h fun g10 w h => ?_
    refine cl1 h n_law16_of (cc9 h.ext) fun w h => ?_
    refine bs1A h (by rfl) (by decide) (by rfl) (by decide) fun v4 w h => ?_
    refine cl1 h n_estimate_Total (cc14 h.ext (by first | exact (p1.2 _ (h.sl (i := 12) rfl)) | assumption) (by first | exact (h.sl (i := 0) rfl) | assumption)) fun w h => ?_
    refine ExP3x ?_
    refine stA h 2 rfl rfl rfl rfl fun w h => ?_
    refine stA h 1 rfl rfl rfl rfl fun w h => ?_
    exact lf1 _ (h.pick [3, 4, 5, 6, 7, 8, 9, 10, 11, 12] (by decide) rfl)
    refine alS h fun g9 w h => ?_
    refine ⟨?_, ?_⟩
    refine cl1 h n_law16_of (cc9 h.ext) fun w h => ?_
    refine ⟨?_, ?_⟩
    refine bs1A h (by rfl) (by decide) (by rfl) (by decide) fun v4 w h => ?_
    refine ⟨?_, ?_⟩
    refine cl1 h n_estimate_Total (cc14 h.ext (by first | exact (p1.2 _ (h.sl (i := 11) rfl)) | assumption) (by first | exact (h.sl (i := 0) rfl) | assumption)) fun w h => ?_
    refine ExP3x ?_
    refine alS h fun g10 w h => ?_
    refine stA h 0 rfl rfl rfl rfl fun w h => ?_
    refine stA h 2 rfl rfl rfl rfl fun w h => ?_
    exact lf1 _ (h.pick [3, 4, 5, 6, 7, 8, 9, 10, 11, 12] (by decide) rfl)
    refine alS h fun g10 w h => ?_
    refine cl1 h n_estimate_Total (cc14 h.ext (by first | exact (p1.2 _ (h.sl (i := 12) rfl)) | assumption) (by first | exact (h.sl (i := 1) rfl) | assumption)) fun w h => ?_
    refine ExP3x ?_
    refine stA h 0 rfl rfl rfl rfl fun w h => ?_
    refine stA h 2 rfl rfl rfl rfl fun w h => ?_
    exact lf1 _ (h.pick [3, 4, 5, 6, 7, 8, 9, 10, 11, 12] (by decide) rfl)
    refine alS h fun g10 w h => ?_
    refine bs1A h (by rfl) (by decide) (by rfl) (by decide) fun v4 w h => ?_
    refine cl1 h n_estimate_Total (cc14 h.ext (by first | exact (p1.2 _ (h.sl (i := 12) rfl)) | assumption) (by first | exact (h.sl (i := 0) rfl) | assumption)) fun w h => ?_
    refine ExP3x ?_
    refine stA h 1 rfl rfl rfl rfl fun w h => ?_
    refine stA h 2 rfl rfl rfl rfl fun w h => ?_
    exact lf1 _ (h.pick [3, 4, 5, 6, 7, 8, 9, 10, 11, 12] (by decide) rfl)
    refine alS h fun g10 w h => ?_
    refine cl1 h n_law16_of (cc9 h.ext) fun w h => ?_
    refine bs1A h (by rfl) (by decide) (by rfl) (by decide) fun v4 w h => ?_
    refine cl1 h n_estimate_Total (cc14 h.ext (by first | exact (p1.2 _ (h.sl (i := 12) rfl)) | assumption) (by first | exact (h.sl (i := 0) rfl) | assumption)) fun w h => ?_
    refine ExP3x ?_
    refine stA h 1 rfl rfl rfl rfl fun w h => ?_
    refine stA h 2 rfl rfl rfl rfl fun w h => ?_
    exact lf1 _ (h.pick [3, 4, 5, 6, 7, 8, 9, 10, 11, 12] (by decide) rfl)
  · refine scHz (h.sl (i := 8) rfl) (by first | omega | decide) (by first | omega | decide) fun v3 p1 => ?_
    refine cl1 h n_estimate_Variance (cc15 h.ext (by first | exact (h.sl (i := 9) rfl) | assumption) (by first | exact (p1.2 _ (h.sl (i := 8) rfl)) | assumption)) fun w h => ?_
    refine Ex2 ?_
    refine alS h fun g9 w h => ?_
    refine stA h 0 rfl rfl rfl rfl fun w h => ?_
    refine Bn_eqT (by omega) ?_
    iterate 2 refine Gd_T ?_
    refine Bn_eqT (by omega) ?_
    refine Pick_T ?_
    iterate 2 refine Gd_T ?_
    refine Bn_eqT (by omega) ?_
    refine Pick_T ?_
    iterate 2 refine Gd_T ?_
    refine Bn_eqT (by omega) ?_
    refine Pick_T ?_
    iterate 2 refine Gd_T ?_
    refine Bn_eqT (by omega) ?_
    refine Pick_T ?_
    iterate 2 refine Gd_T ?_
    refine Bn_eqT (by omega) ?_
    refine Pick_T ?_
    refine GdP_T ?_
    replace h := h.dr
    refine dlA h 8 rfl rfl ?_
    refine Gd_T ?_
    refine cl1 h n_law16_of (cc5 h.ext) fun w h => ?_
    refine Kg_T ?_
    refine klA h 8 rfl rfl ?_
    refine GdP_T ?_
    refine dqEqS ?_
    refine PickP_T ?_
    refine GdP_T ?_
    refine dlA h 7 rfl rfl ?_
    refine Gd_T ?_
    refine cl1 h n_law16_of (cc6 h.ext) fun w h => ?_
    refine Kg_T ?_
    refine klA h 7 rfl rfl ?_
    refine GdP_T ?_
    refine dqEqS ?_
    refine PickP_T ?_
    refine GdP_T ?_
    refine dlA h 6 rfl rfl ?_
    refine Gd_T ?_
    refine cl1 h n_law16_of (cc7 h.ext) fun w h => ?_
    refine Kg_T ?_
    refine klA h 6 rfl rfl ?_
    refine GdP_T ?_
    refine dqEqS ?_
    refine PickP_T ?_
    refine GdP_T ?_
    refine dlA h 5 rfl rfl ?_
    refine Gd_T ?_
    refine cl1 h n_law16_of (cc8 h.ext) fun w h => ?_
    refine Kg_T ?_
    refine klA h 5 rfl rfl ?_
    refine GdP_T ?_
    refine dqEqS ?_
    refine PickP_T ?_
    refine GdP_T ?_
    refine dlA h 4 rfl rfl ?_
    refine Gd_T ?_
    refine cl1 h n_law16_of (cc7 h.ext) fun w h => ?_
    refine Kg_T ?_
    refine klA h 4 rfl rfl ?_
    refine GdP_T ?_
    refine dqEqS ?_
    refine PickP_T ?_
    refine GdP_T ?_
    refine dlA h 3 rfl rfl ?_
    refine Gd_T ?_
    refine cl1 h n_law16_of (cc7 h.ext) fun w h => ?_
    refine Kg_T ?_
    refine klA h 3 rfl rfl ?_
    refine GdP_T ?_
    refine dqEqS ?_
    refine PickP_T ?_
    refine GdP_T ?_
    refine dlA h 2 rfl rfl ?_
    refine Gd_T ?_
    refine cl1 h n_law16_of (cc9 h.ext) fun w h => ?_
    refine Kg_T ?_
    refine klA h 2 rfl rfl ?_
    refine GdP_T ?_
    refine dqEqS ?_
    refine PickP_T ?_
    refine GdP_T ?_
    refine dlA h 1 rfl rfl ?_
    refine Gd_T ?_
    refine cl1 h n_law16_of (cc9 h.ext) fun w h => ?_
    refine Kg_T ?_
    refine klA h 1 rfl rfl ?_
    refine GdP_T ?_
    refine dqEqS ?_
    refine PickP_T ?_
    refine GdP_T ?_
    refine dlA h 8 rfl rfl ?_
    refine Gd_T ?_
    refine cl1 h n_rational_Valid (cc16 h.ext) fun w h => ?_
    refine PickP_T ?_
    dsimp only [List.set] at h
    exact Ret.mk ⟨h.ext, rfl⟩
end Go.Proofs.YtnocjgmmglmfiaaGreatDoor
