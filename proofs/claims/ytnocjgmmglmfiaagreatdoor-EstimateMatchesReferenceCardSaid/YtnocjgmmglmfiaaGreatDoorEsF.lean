/-
  Contracts and plain lemmas. By an AI agent.
-/
import Derived.Test.YtnocjgmmglmfiaaGreatDoorEsE
set_option linter.unusedSimpArgs false
set_option linter.unusedVariables false
set_option linter.unusedSectionVars false
namespace Go.Proofs.YtnocjgmmglmfiaaGreatDoor
open Go Go.Eng Go.Proofs Go.Num Go.RowKit
set_option maxRecDepth 100000
set_option linter.unusedVariables false
set_option linter.unusedSectionVars false
abbrev tC : TypeId := 61
def nV (f : Bool) (q : Option Rat) : Option Rat := if f then none else q
theorem nV_B {f : Bool} {q : Option Rat} (h : OB q) : OB (nV f q) := by
  unfold nV; split
  · exact .none
  · exact h
def CoP (g : Nat) (w : World) (q : Option Rat) (f : Bool) (r : Value) (w' : World) : Prop := r = ov (nV f q) ∧ Own g w w' ∧ Blk w' g tC [.bool (f || q.isNone)]
section
variable {w w0 : World} {K : Value → World → Prop} {KP : Value → Prop} {KW : World → Prop} {g : Nat} {b b' : Bool}
theorem ncPP (hk : KP (pt g)) : NcP (pt g) KP := by
  ((try simp -dsimp [go_sem]); repeat (simp -dsimp (disch := omega) only [gL, it_t, it_f, dit_t, dit_f]; try simp -dsimp [go_sem]))
  exact hk
theorem dCf (hk : KP (pt g)) : Dv Tryz.prog true (Instr.fieldAt tC (pt g) 0) w KP := by
  ((try simp -dsimp [go_sem]); repeat (simp -dsimp (disch := omega) only [gL, it_t, it_f, dit_t, dit_f]; try simp -dsimp [go_sem]))
  exact hk
theorem flC (h : Blk w g tC [.bool b]) (hk : K (.bool b) w) : Fa Tryz.prog 59 (pt g) 0 w fun t w => Ld Tryz.prog 4 t w K := by
  ((try simp -dsimp [go_sem, h.cell (i := 0) rfl]); repeat (simp -dsimp (disch := omega) only [gL, it_t, it_f, dit_t, dit_f]; try simp -dsimp [go_sem, h.cell (i := 0) rfl]))
  exact hk
theorem fsC (h : Blk w g tC [.bool b]) (hk : ∀ w', Own g w w' → Blk w' g tC [.bool b'] → KW w') : Fa Tryz.prog 59 (pt g) 0 w fun t w => Sto Tryz.prog 4 t (.bool b') w KW := by
  ((try simp -dsimp [go_sem, h.cell (i := 0) rfl, h.frz 0]); repeat (simp -dsimp (disch := omega) only [gL, it_t, it_f, dit_t, dit_f]; try simp -dsimp [go_sem, h.cell (i := 0) rfl, h.frz 0]))
  exact hk _ (.set g 0 w _) (h.set1 _)
end
theorem c_note {w : World} {g : Nat} {f : Bool} {q : Option Rat} (h : Blk w g tC [.bool f]) : Calls Tryz.prog 70 #[pt g, ov q, .int .i64 (eE q)] w (Ret (CoP g w q f)) := by
  obtain ⟨a, ha⟩ : ∃ a, a = eN q := ⟨_, rfl⟩
  obtain ⟨b, hb⟩ : ∃ b, b = eD q := ⟨_, rfl⟩
  obtain ⟨e, he⟩ : ∃ e, e = eE q := ⟨_, rfl⟩
  show Calls Tryz.prog 70 #[pt g, .agg #[str (eN q), str (eD q)], .int .i64 (eE q)] w _
  rw [← ha, ← hb, ← he]
  have hz := h.lt
  cases f with
  | true =>
    apply e_estimate_state_note
    unfold s_estimate_state_note
    refine bxR fun g4 w1 x1 hg4 _ b4 => ?_
    refine alR fun g6 w2 x2 hg6 _ b6 => ?_
    have h1 := (h.ext x1).ext x2
    have b4 := b4.ext x2
    have hs1 := x1.size
    have l4 := b4.lt
    have o0 : Own g w w2 := .ofExt (x1.tr x2) (Nat.le_of_lt h.lt)
    refine ncP (flC h1 ?_)
    refine Gd_TF (Gd_TF (Pick_T ?_))
    refine ncP (fsC (b' := true) h1 fun w3 o3 h3 => ?_)
    have n4 : g4 ≠ g := by omega
    have n6 : g6 ≠ g := by omega
    have b4 := blkOwn b4 n4 o3
    have b6 := blkOwn b6 n6 o3
    refine ncP (flC h3 ?_)
    refine If_T (bdR0 (stoR b6 fun w4 o4 b6 => rcR b6 ?_))
    have o5 : Own g w w4 := ⟨(o0.trans o3).below.trans (o4.below.mono (by omega)), fun k hk hs => (o4.other k (by omega) (by have := o3.below.size; have := x2.size; omega)).trans ((o0.trans o3).other k hk hs)⟩
    have h4 := blkOwn h3 n6.symm o4
    exact Ret.mk ⟨rfl, o5, h4⟩
  | false =>
    cases q with
    | none =>
      have he : e = 40 := he
      apply e_estimate_state_note
      unfold s_estimate_state_note
      refine bxR fun g4 w1 x1 hg4 _ b4 => ?_
      refine alR fun g6 w2 x2 hg6 _ b6 => ?_
      have h1 := (h.ext x1).ext x2
      have b4 := b4.ext x2
      have hs1 := x1.size
      have l4 := b4.lt
      have o0 : Own g w w2 := .ofExt (x1.tr x2) (Nat.le_of_lt h.lt)
      refine ncP (flC h1 ?_)
      refine Gd_F (Gd_F (Bn_neT (.inr (by omega)) (Pick_F ?_)))
      refine ncP (fsC (b' := true) h1 fun w3 o3 h3 => ?_)
      have n4 : g4 ≠ g := by omega
      have n6 : g6 ≠ g := by omega
      have b4 := blkOwn b4 n4 o3
      have b6 := blkOwn b6 n6 o3
      refine ncP (flC h3 ?_)
      refine If_T (bdR0 (stoR b6 fun w4 o4 b6 => rcR b6 ?_))
      have o5 : Own g w w4 := ⟨(o0.trans o3).below.trans (o4.below.mono (by omega)), fun k hk hs => (o4.other k (by omega) (by have := o3.below.size; have := x2.size; omega)).trans ((o0.trans o3).other k hk hs)⟩
      have h4 := blkOwn h3 n6.symm o4
      exact Ret.mk ⟨rfl, o5, h4⟩
    | some z =>
      have he : e = 0 := he
      apply e_estimate_state_note
      unfold s_estimate_state_note
      refine bxR fun g4 w1 x1 hg4 _ b4 => ?_
      refine alR fun g6 w2 x2 hg6 _ b6 => ?_
      have h1 := (h.ext x1).ext x2
      have b4 := b4.ext x2
      have hs1 := x1.size
      have l4 := b4.lt
      have o0 : Own g w w2 := .ofExt (x1.tr x2) (Nat.le_of_lt h.lt)
      refine ncP (flC h1 ?_)
      refine Gd_F (Gd_F (Bn_neF (by omega) (Pick_F ?_)))
      refine ncP (fsC (b' := false) h1 fun w3 o3 h3 => ?_)
      have n4 : g4 ≠ g := by omega
      have n6 : g6 ≠ g := by omega
      have b4 := blkOwn b4 n4 o3
      have b6 := blkOwn b6 n6 o3
      refine ncP (flC h3 ?_)
      refine If_F (ldR b4 (stoR b6 fun w4 o4 b6 => rcR b6 ?_))
      have o5 : Own g w w4 := ⟨(o0.trans o3).below.trans (o4.below.mono (by omega)), fun k hk hs => (o4.other k (by omega) (by have := o3.below.size; have := x2.size; omega)).trans ((o0.trans o3).other k hk hs)⟩
      have h4 := blkOwn h3 n6.symm o4
      refine Ret.mk ⟨?_, o5, h4⟩
      rw [ha, hb]; rfl
theorem k_add {w : World} {g : Nat} {f : Bool} {o p : Option Rat} (h : Blk w g tC [.bool f]) (ho : OB o) (hp : OB p) (hT : Tab w) : Calls Tryz.prog 47 #[pt g, ov o, ov p] w (Ret (CoP g w (oAdd o p) f)) := by
  have c := fun (w : World) (hT : Tab w) => o_add (w := w) ho hp hT
  obtain ⟨q, hq⟩ : ∃ q, q = oAdd o p := ⟨_, rfl⟩
  rw [← hq]
  simp only [← hq] at c
  clear hq
  obtain ⟨a, ha⟩ : ∃ a, a = eN o := ⟨_, rfl⟩
  obtain ⟨b, hb⟩ : ∃ b, b = eD o := ⟨_, rfl⟩
  obtain ⟨a', ha'⟩ : ∃ a, a = eN p := ⟨_, rfl⟩
  obtain ⟨b', hb'⟩ : ∃ b, b = eD p := ⟨_, rfl⟩
  show Calls Tryz.prog 47 #[pt g, .agg #[str (eN o), str (eD o)], .agg #[str (eN p), str (eD p)]] w _
  rw [← ha, ← hb, ← ha', ← hb']
  have c : ∀ w : World, Tab w → Calls Tryz.prog 25 #[.agg #[str a, str b], .agg #[str a', str b']] w (Ret fun r w' => Ext w w' ∧ r = ot q) := by
    intro w; rw [ha, hb, ha', hb']; exact c w
  clear ha hb ha' hb'
  apply e_estimate_calculator_add
  unfold s_estimate_calculator_add
  refine bxR fun g4 w1 x1 hg4 _ b4 => ?_
  refine bxR fun g5 w2 x2 hg5 _ b5 => ?_
  refine alR fun g6 w3 x3 hg6 _ b6 => ?_
  have b4 := (b4.ext x2).ext x3
  have b5 := b5.ext x3
  have hs1 := x1.size
  have hs2 := x2.size
  have hz := h.lt
  refine ncPP (dCf (dR2x0 (w := w3.drew) b4 (dR2x0 (w := w3.drew) b5 ?_)))
  refine Cl1 n_rational_Add (c _ (hT.ext ((x1.tr x2).tr x3).dr)) fun w4 x4 => ?_
  replace x4 : Ext w3 w4 := (Ext.refl w3).dr.tr x4
  have h4 := (((h.ext x1).ext x2).ext x3).ext x4
  have b6 := b6.ext x4
  have l6 := b6.lt
  refine ExP2 ?_
  refine Cl_i n_estimate_state_note (c_note h4) ?_
  rintro _ w5 ⟨rfl, o5, h5⟩
  have n6 : g6 ≠ g := by omega
  refine stoR (blkOwn b6 n6 o5) fun w6 o6 b6 => rcR b6 ?_
  have o0 : Own g w w4 := .ofExt (((x1.tr x2).tr x3).tr x4) (Nat.le_of_lt h.lt)
  have o7 : Own g w w6 := ⟨(o0.trans o5).below.trans (o6.below.mono (by omega)), fun k hk hs => (o6.other k (by omega) (by have := (o0.trans o5).below.size; omega)).trans ((o0.trans o5).other k hk hs)⟩
  exact Ret.mk ⟨rfl, o7, blkOwn h5 n6.symm o6⟩
theorem k_sub {w : World} {g : Nat} {f : Bool} {o p : Option Rat} (h : Blk w g tC [.bool f]) (ho : OB o) (hp : OB p) (hT : Tab w) : Calls Tryz.prog 49 #[pt g, ov o, ov p] w (Ret (CoP g w (oSub o p) f)) := by
  have c := fun (w : World) (hT : Tab w) => o_sub (w := w) ho hp hT
  obtain ⟨q, hq⟩ : ∃ q, q = oSub o p := ⟨_, rfl⟩
  rw [← hq]
  simp only [← hq] at c
  clear hq
  obtain ⟨a, ha⟩ : ∃ a, a = eN o := ⟨_, rfl⟩
  obtain ⟨b, hb⟩ : ∃ b, b = eD o := ⟨_, rfl⟩
  obtain ⟨a', ha'⟩ : ∃ a, a = eN p := ⟨_, rfl⟩
  obtain ⟨b', hb'⟩ : ∃ b, b = eD p := ⟨_, rfl⟩
  show Calls Tryz.prog 49 #[pt g, .agg #[str (eN o), str (eD o)], .agg #[str (eN p), str (eD p)]] w _
  rw [← ha, ← hb, ← ha', ← hb']
  have c : ∀ w : World, Tab w → Calls Tryz.prog 27 #[.agg #[str a, str b], .agg #[str a', str b']] w (Ret fun r w' => Ext w w' ∧ r = ot q) := by
    intro w; rw [ha, hb, ha', hb']; exact c w
  clear ha hb ha' hb'
  apply e_estimate_calculator_sub
  unfold s_estimate_calculator_sub
  refine bxR fun g4 w1 x1 hg4 _ b4 => ?_
  refine bxR fun g5 w2 x2 hg5 _ b5 => ?_
  refine alR fun g6 w3 x3 hg6 _ b6 => ?_
  have b4 := (b4.ext x2).ext x3
  have b5 := b5.ext x3
  have hs1 := x1.size
  have hs2 := x2.size
  have hz := h.lt
  refine ncPP (dCf (dR2x0 (w := w3.drew) b4 (dR2x0 (w := w3.drew) b5 ?_)))
  refine Cl1 n_rational_Sub (c _ (hT.ext ((x1.tr x2).tr x3).dr)) fun w4 x4 => ?_
  replace x4 : Ext w3 w4 := (Ext.refl w3).dr.tr x4
  have h4 := (((h.ext x1).ext x2).ext x3).ext x4
  have b6 := b6.ext x4
  have l6 := b6.lt
  refine ExP2 ?_
  refine Cl_i n_estimate_state_note (c_note h4) ?_
  rintro _ w5 ⟨rfl, o5, h5⟩
  have n6 : g6 ≠ g := by omega
  refine stoR (blkOwn b6 n6 o5) fun w6 o6 b6 => rcR b6 ?_
  have o0 : Own g w w4 := .ofExt (((x1.tr x2).tr x3).tr x4) (Nat.le_of_lt h.lt)
  have o7 : Own g w w6 := ⟨(o0.trans o5).below.trans (o6.below.mono (by omega)), fun k hk hs => (o6.other k (by omega) (by have := (o0.trans o5).below.size; omega)).trans ((o0.trans o5).other k hk hs)⟩
  exact Ret.mk ⟨rfl, o7, blkOwn h5 n6.symm o6⟩
theorem k_mul {w : World} {g : Nat} {f : Bool} {o p : Option Rat} (h : Blk w g tC [.bool f]) (ho : OB o) (hp : OB p) (hT : Tab w) : Calls Tryz.prog 48 #[pt g, ov o, ov p] w (Ret (CoP g w (oMul o p) f)) := by
  have c := fun (w : World) (hT : Tab w) => o_mul (w := w) ho hp hT
  obtain ⟨q, hq⟩ : ∃ q, q = oMul o p := ⟨_, rfl⟩
  rw [← hq]
  simp only [← hq] at c
  clear hq
  obtain ⟨a, ha⟩ : ∃ a, a = eN o := ⟨_, rfl⟩
  obtain ⟨b, hb⟩ : ∃ b, b = eD o := ⟨_, rfl⟩
  obtain ⟨a', ha'⟩ : ∃ a, a = eN p := ⟨_, rfl⟩
  obtain ⟨b', hb'⟩ : ∃ b, b = eD p := ⟨_, rfl⟩
  show Calls Tryz.prog 48 #[pt g, .agg #[str (eN o), str (eD o)], .agg #[str (eN p), str (eD p)]] w _
  rw [← ha, ← hb, ← ha', ← hb']
  have c : ∀ w : World, Tab w → Calls Tryz.prog 24 #[.agg #[str a, str b], .agg #[str a', str b']] w (Ret fun r w' => Ext w w' ∧ r = ot q) := by
    intro w; rw [ha, hb, ha', hb']; exact c w
  clear ha hb ha' hb'
  apply e_estimate_calculator_mul
  unfold s_estimate_calculator_mul
  refine bxR fun g4 w1 x1 hg4 _ b4 => ?_
  refine bxR fun g5 w2 x2 hg5 _ b5 => ?_
  refine alR fun g6 w3 x3 hg6 _ b6 => ?_
  have b4 := (b4.ext x2).ext x3
  have b5 := b5.ext x3
  have hs1 := x1.size
  have hs2 := x2.size
  have hz := h.lt
  refine ncPP (dCf (dR2x0 (w := w3.drew) b4 (dR2x0 (w := w3.drew) b5 ?_)))
  refine Cl1 n_rational_Mul (c _ (hT.ext ((x1.tr x2).tr x3).dr)) fun w4 x4 => ?_
  replace x4 : Ext w3 w4 := (Ext.refl w3).dr.tr x4
  have h4 := (((h.ext x1).ext x2).ext x3).ext x4
  have b6 := b6.ext x4
  have l6 := b6.lt
  refine ExP2 ?_
  refine Cl_i n_estimate_state_note (c_note h4) ?_
  rintro _ w5 ⟨rfl, o5, h5⟩
  have n6 : g6 ≠ g := by omega
  refine stoR (blkOwn b6 n6 o5) fun w6 o6 b6 => rcR b6 ?_
  have o0 : Own g w w4 := .ofExt (((x1.tr x2).tr x3).tr x4) (Nat.le_of_lt h.lt)
  have o7 : Own g w w6 := ⟨(o0.trans o5).below.trans (o6.below.mono (by omega)), fun k hk hs => (o6.other k (by omega) (by have := (o0.trans o5).below.size; omega)).trans ((o0.trans o5).other k hk hs)⟩
  exact Ret.mk ⟨rfl, o7, blkOwn h5 n6.symm o6⟩
theorem k_div {w : World} {g : Nat} {f : Bool} {o p : Option Rat} (h : Blk w g tC [.bool f]) (ho : OB o) (hp : OB p) (hT : Tab w) : Calls Tryz.prog 39 #[pt g, ov o, ov p] w (Ret (CoP g w (oDiv o p) f)) := by
  have c := fun (w : World) (hT : Tab w) => o_div (w := w) ho hp hT
  obtain ⟨q, hq⟩ : ∃ q, q = oDiv o p := ⟨_, rfl⟩
  rw [← hq]
  simp only [← hq] at c
  clear hq
  obtain ⟨a, ha⟩ : ∃ a, a = eN o := ⟨_, rfl⟩
  obtain ⟨b, hb⟩ : ∃ b, b = eD o := ⟨_, rfl⟩
  obtain ⟨a', ha'⟩ : ∃ a, a = eN p := ⟨_, rfl⟩
  obtain ⟨b', hb'⟩ : ∃ b, b = eD p := ⟨_, rfl⟩
  show Calls Tryz.prog 39 #[pt g, .agg #[str (eN o), str (eD o)], .agg #[str (eN p), str (eD p)]] w _
  rw [← ha, ← hb, ← ha', ← hb']
  have c : ∀ w : World, Tab w → Calls Tryz.prog 26 #[.agg #[str a, str b], .agg #[str a', str b']] w (Ret fun r w' => Ext w w' ∧ r = ot q) := by
    intro w; rw [ha, hb, ha', hb']; exact c w
  clear ha hb ha' hb'
  apply e_estimate_calculator_div
  unfold s_estimate_calculator_div
  refine bxR fun g4 w1 x1 hg4 _ b4 => ?_
  refine bxR fun g5 w2 x2 hg5 _ b5 => ?_
  refine alR fun g6 w3 x3 hg6 _ b6 => ?_
  have b4 := (b4.ext x2).ext x3
  have b5 := b5.ext x3
  have hs1 := x1.size
  have hs2 := x2.size
  have hz := h.lt
  refine ncPP (dCf (dR2x0 (w := w3.drew) b4 (dR2x0 (w := w3.drew) b5 ?_)))
  refine Cl1 n_rational_Div (c _ (hT.ext ((x1.tr x2).tr x3).dr)) fun w4 x4 => ?_
  replace x4 : Ext w3 w4 := (Ext.refl w3).dr.tr x4
  have h4 := (((h.ext x1).ext x2).ext x3).ext x4
  have b6 := b6.ext x4
  have l6 := b6.lt
  refine ExP2 ?_
  refine Cl_i n_estimate_state_note (c_note h4) ?_
  rintro _ w5 ⟨rfl, o5, h5⟩
  have n6 : g6 ≠ g := by omega
  refine stoR (blkOwn b6 n6 o5) fun w6 o6 b6 => rcR b6 ?_
  have o0 : Own g w w4 := .ofExt (((x1.tr x2).tr x3).tr x4) (Nat.le_of_lt h.lt)
  have o7 : Own g w w6 := ⟨(o0.trans o5).below.trans (o6.below.mono (by omega)), fun k hk hs => (o6.other k (by omega) (by have := (o0.trans o5).below.size; omega)).trans ((o0.trans o5).other k hk hs)⟩
  exact Ret.mk ⟨rfl, o7, blkOwn h5 n6.symm o6⟩
abbrev tEl : TypeId := 68
abbrev GB (g : Nat) : Prop := 0 < g ∧ 1 < g ∧ 4 < g
abbrev ZO (w : World) : Prop := Blk w 0 tR [str [48], str [49]] ∧ Blk w 1 tR [str [49], str [49]]
theorem ZO.ext {w w' : World} (h : ZO w) (x : Ext w w') : ZO w' := ⟨h.1.ext x, h.2.ext x⟩
theorem ZO.own {w w' : World} {g : Nat} (h : ZO w) (hg : GB g) (o : Own g w w') : ZO w' := ⟨blkOwn h.1 (by omega) o, blkOwn h.2 (by omega) o⟩
theorem Tab.owng {w w' : World} {g : Nat} (h : Tab w) (hg : GB g) (o : Own g w w') : Tab w' := by
  have hn : Tryz.prog.globalNamed "internal/strconv.uint64pow10" = some 4 := by kernel_rfl
  have h : w.var? Tryz.prog "internal/strconv.uint64pow10" = _ := h
  show w'.var? Tryz.prog "internal/strconv.uint64pow10" = _
  unfold World.var? at h ⊢
  rw [hn] at h ⊢
  simp only [Option.bind_some] at h ⊢
  have hlt : 4 < w.heap.size := by
    rcases Nat.lt_or_ge 4 w.heap.size with h' | h'
    · exact h'
    · rw [Array.getElem?_eq_none h'] at h; cases h
  rw [o.other _ (by omega) hlt]
  exact h
abbrev lv (e : El) : Value := .agg #[str (Lib.itoa e.1.num), str (Lib.itoa (e.1.den : Int)), str (Lib.itoa e.2.num), str (Lib.itoa (e.2.den : Int))]
section
variable {w : World} {K : Value → World → Prop} {KP : Value → Prop} {KW : World → Prop} {rest : Prop} {g : Nat} {a b c d : List UInt8} {wi : Bool}
theorem bxL (hk : ∀ g w1, Ext w w1 → w.heap.size ≤ g → g < w1.heap.size → Blk w1 g tEl [str a, str b, str c, str d] → K (pt g) w1) : Bx Tryz.prog tEl (.agg #[str a, str b, str c, str d]) w K := by
  ((try simp -dsimp [go_sem]); repeat (simp -dsimp (disch := omega) only [gL, it_t, it_f, dit_t, dit_f]; try simp -dsimp [go_sem]))
  exact hk _ _ ((Ext.refl w).al _) (Nat.le_refl _) (by simp) (Blk.al w [str a, str b, str c, str d] _)
theorem alL (hk : ∀ g w1, Ext w w1 → w.heap.size ≤ g → g < w1.heap.size → Blk w1 g tEl [str [], str [], str [], str []] → K (pt g) w1) : Al Tryz.prog tEl w K := by
  ((try simp -dsimp [go_sem]); repeat (simp -dsimp (disch := omega) only [gL, it_t, it_f, dit_t, dit_f]; try simp -dsimp [go_sem]))
  exact hk _ _ ((Ext.refl w).al _) (Nat.le_refl _) (by simp) (Blk.al w [str [], str [], str [], str []] _)
theorem dlL {ty : TypeId} (h : Blk w g ty [str a, str b, str c, str d]) (hk : KP (.agg #[str a, str b, str c, str d])) : Dv Tryz.prog false (Instr.loadAt tEl (pq g 0)) w KP := by
  ((try simp -dsimp [go_sem, h.cell (i := 0) rfl, h.cell (i := 1) rfl, h.cell (i := 2) rfl, h.cell (i := 3) rfl]); repeat (simp -dsimp (disch := omega) only [gL, it_t, it_f, dit_t, dit_f]; try simp -dsimp [go_sem, h.cell (i := 0) rfl, h.cell (i := 1) rfl, h.cell (i := 2) rfl, h.cell (i := 3) rfl]))
  exact hk
theorem dL0 (hk : KP (pq g 0)) : Dv Tryz.prog wi (Instr.fieldAt tEl (pq g 0) 0) w KP := by cases wi <;> ((try simp -dsimp [go_sem]); repeat (simp -dsimp (disch := omega) only [gL, it_t, it_f, dit_t, dit_f]; try simp -dsimp [go_sem])) <;> exact hk
theorem dL1 (hk : KP (pq g 2)) : Dv Tryz.prog wi (Instr.fieldAt tEl (pq g 0) 1) w KP := by cases wi <;> ((try simp -dsimp [go_sem]); repeat (simp -dsimp (disch := omega) only [gL, it_t, it_f, dit_t, dit_f]; try simp -dsimp [go_sem])) <;> exact hk
theorem fL0 (hk : K (pq g 0) w) : Fa Tryz.prog tEl (pq g 0) 0 w K := by ((try simp -dsimp [go_sem]); repeat (simp -dsimp (disch := omega) only [gL, it_t, it_f, dit_t, dit_f]; try simp -dsimp [go_sem])); exact hk
theorem fL1 (hk : K (pq g 2) w) : Fa Tryz.prog tEl (pq g 0) 1 w K := by ((try simp -dsimp [go_sem]); repeat (simp -dsimp (disch := omega) only [gL, it_t, it_f, dit_t, dit_f]; try simp -dsimp [go_sem])); exact hk
end
theorem comp2 (op : Option Rat → Option Rat → Option Rat) (h1 : ∀ p, op none p = none) (h2 : ∀ p, op p none = none) (f : Bool) (a b : Option Rat) :
    nV ((f || a.isNone) || b.isNone) (op (nV f a) (nV (f || a.isNone) b)) = nV f (op a b) ∧ (((f || a.isNone) || b.isNone) || (op (nV f a) (nV (f || a.isNone) b)).isNone) = (f || (op a b).isNone) := by
  cases f <;> cases a <;> cases b <;> simp [nV, h1, h2]
theorem oBin_n1 {f : Rat → Rat → R3} {g : Rat → Rat → Rat} (p : Option Rat) : oBin f g none p = none := rfl
theorem oBin_n2 {f : Rat → Rat → R3} {g : Rat → Rat → Rat} (p : Option Rat) : oBin f g p none = none := by cases p <;> rfl
def El.ok (e : El) : Prop := RB e.1 ∧ RB e.2
theorem one_ov : ov (some 1) = .agg #[str [49], str [49]] := by
  show Value.agg #[str (Lib.itoa 1), str (Lib.itoa 1)] = _
  rw [l1]
theorem zero_ov : ov (some 0) = .agg #[str [48], str [49]] := by
  show Value.agg #[str (Lib.itoa 0), str (Lib.itoa 1)] = _
  rw [l1, itoa_0]
theorem ob1 : OB (some 1) := .some (Sml.rb Sml.one)
theorem k_rest {w : World} {g : Nat} {f : Bool} {e : El} (h : Blk w g tC [.bool f]) (hg : GB g) (he : El.ok e) (hz : ZO w) (hT : Tab w) : Calls Tryz.prog 40 #[pt g, lv e] w (Ret (CoP g w (oRest e) f)) := by
  have ox : OB (some e.1) := .some he.1
  have op : OB (some e.2) := .some he.2
  have q1 := fun (w : World) (f : Bool) (h : Blk w g tC [.bool f]) (hT : Tab w) => k_mul (w := w) h ox ox hT
  have q2 : ∀ (w : World) (f : Bool) (h : Blk w g tC [.bool f]) (hT : Tab w), Calls Tryz.prog 49 #[pt g, .agg #[str [49], str [49]], ov (some e.2)] w (Ret (CoP g w (oSub (some 1) (some e.2)) f)) := by
    intro w f h hT
    have := k_sub (w := w) h ob1 op hT
    rw [one_ov] at this; exact this
  have q3 := fun (w : World) (f : Bool) (o p : Option Rat) (h : Blk w g tC [.bool f]) (ho : OB o) (hp : OB p) (hT : Tab w) => k_mul (w := w) h ho hp hT
  have c2 := comp2 oMul oBin_n1 oBin_n2 f (oMul (some e.1) (some e.1)) (oSub (some 1) (some e.2))
  have B1 : OB (oMul (some e.1) (some e.1)) := oBin_B fit_mul _ _
  have B2 : OB (oSub (some 1) (some e.2)) := oBin_B fit_sub _ _
  obtain ⟨A, hA⟩ : ∃ A, A = oMul (some e.1) (some e.1) := ⟨_, rfl⟩
  obtain ⟨B, hB⟩ : ∃ B, B = oSub (some 1) (some e.2) := ⟨_, rfl⟩
  have eR : oRest e = oMul A B := by rw [hA, hB]; rfl
  simp only [← hA] at q1 c2 B1
  simp only [← hB] at q2 c2 B2
  rw [eR]
  have fin : ∀ (r : Value) (w1 w' : World), Own g w w1 → CoP g w1 (oMul (nV f A) (nV (f || A.isNone) B)) ((f || A.isNone) || B.isNone) r w' → CoP g w (oMul A B) f r w' := by
    rintro r w1 w' o ⟨h1, h2, h3⟩
    rw [c2.1] at h1
    rw [c2.2] at h3
    exact ⟨h1, o.trans h2, h3⟩
  clear c2 eR hA hB
  apply e_estimate_calculator_rest
  unfold s_estimate_calculator_rest
  have hl := h.lt
  refine bxL fun g3 w1 x1 hg3 _ b3 => ?_
  refine alR fun g4 w2 x2 hg4 _ b4 => ?_
  have hs1 := x1.size
  have l3 := b3.lt
  replace b3 := b3.ext x2
  replace h := (h.ext x1).ext x2
  replace hz := (hz.ext x1).ext x2
  have xx := x1.tr x2
  have hs2 := xx.size
  have n3 : g3 ≠ g := by omega
  have n4 : g4 ≠ g := by omega
  have n34 : g3 ≠ g4 := by omega
  have o0 : Own g w w2 := .ofExt xx (Nat.le_of_lt hl)
  refine dL0 (dR (w := w2.drew) b3 rfl rfl (dL0 (dR (w := w2.drew) b3 rfl rfl (dR2x0 (w := w2.drew) hz.2 (dL1 (dR (w := w2.drew) b3 rfl rfl ?_))))))
  have hTd := hT.ext xx.dr
  refine Cl_i n_estimate_calculator_mul (q1 w2.drew f h hTd) ?_
  rintro _ w3 ⟨rfl, o3, h3⟩
  replace o3 : Own g w2 w3 := ⟨(Ext.refl w2).dr.mono (Nat.le_of_lt h.lt) |>.trans o3.below, fun k hk hs => o3.other k hk hs⟩
  replace hz := hz.own hg o3
  replace b3 := blkOwn b3 n3 o3
  replace b4 := blkOwn b4 n4 o3
  have hT3 : Tab w3 := hT.owng hg (o0.trans o3)
  refine kR2x0 hz.2 (kR b3 rfl rfl ?_)
  refine Cl_i n_estimate_calculator_sub (q2 w3 _ h3 hT3) ?_
  rintro _ w4 ⟨rfl, o4, h4⟩
  replace b4 := blkOwn b4 n4 o4
  have hT4 : Tab w4 := hT.owng hg ((o0.trans o3).trans o4)
  refine Cl_i n_estimate_calculator_mul (q3 w4 _ _ _ h4 (nV_B B1) (nV_B B2) hT4) ?_
  rintro _ w5 hp
  have hc := fin _ _ _ ((o0.trans o3).trans o4) hp
  replace b4 := blkOwn b4 n4 hp.2.1
  obtain ⟨rfl, o5, h5⟩ := hc
  refine stoR b4 fun w6 o6 b4 => rcR b4 ?_
  have o7 : Own g w w6 := ⟨o5.below.trans (o6.below.mono (by omega)), fun k hk hs => (o6.other k (by omega) (by have := o5.below.size; omega)).trans (o5.other k hk hs)⟩
  exact Ret.mk ⟨rfl, o7, blkOwn h5 n4.symm o6⟩
abbrev tCp : TypeId := 69
theorem comp1 (op : Option Rat → Option Rat → Option Rat) (h1 : ∀ p, op none p = none) (f : Bool) (a b : Option Rat) :
    nV (f || a.isNone) (op (nV f a) b) = nV f (op a b) ∧ ((f || a.isNone) || (op (nV f a) b).isNone) = (f || (op a b).isNone) := by
  cases f <;> cases a <;> simp [nV, h1]
section
variable {w : World} {K : Value → World → Prop} {KP : Value → Prop} {rest : Prop} {g gp : Nat}
theorem ldCp (h : Blk w gp tCp [pt g]) (hk : K (pt g) w) : Ld Tryz.prog tCp (pt gp) w K := by
  ((try simp -dsimp [go_sem, h.cell (i := 0) rfl]); repeat (simp -dsimp (disch := omega) only [gL, it_t, it_f, dit_t, dit_f]; try simp -dsimp [go_sem, h.cell (i := 0) rfl]))
  exact hk
theorem dlCp (h : Blk w gp tCp [pt g]) (hk : KP (pt g)) : Dv Tryz.prog false (Instr.loadAt tCp (pt gp)) w KP := by
  ((try simp -dsimp [go_sem, h.cell (i := 0) rfl]); repeat (simp -dsimp (disch := omega) only [gL, it_t, it_f, dit_t, dit_f]; try simp -dsimp [go_sem, h.cell (i := 0) rfl]))
  exact hk
theorem klCp (h : Blk w gp tCp [pt g]) (hk : rest) : Ke Tryz.prog (Instr.loadAt tCp (pt gp)) (pt g) w rest := by
  ((try simp -dsimp [go_sem, h.cell (i := 0) rfl]); repeat (simp -dsimp (disch := omega) only [gL, it_t, it_f, dit_t, dit_f]; try simp -dsimp [go_sem, h.cell (i := 0) rfl]))
  exact hk
theorem bxCp (hk : ∀ gp w1, Ext w w1 → w.heap.size ≤ gp → gp < w1.heap.size → Blk w1 gp tCp [pt g] → K (pt gp) w1) : Bx Tryz.prog tCp (pt g) w K := by
  ((try simp -dsimp [go_sem]); repeat (simp -dsimp (disch := omega) only [gL, it_t, it_f, dit_t, dit_f]; try simp -dsimp [go_sem]))
  exact hk _ _ ((Ext.refl w).al _) (Nat.le_refl _) (by simp) (Blk.al w [pt g] _)
end
section
variable {w : World} {g gp : Nat} {f : Bool} {e : El} (h : Blk w g tC [.bool f]) (hg : GB g) (he : El.ok e) (hz : ZO w) (hT : Tab w)
include h hg he hz hT
theorem k_est1 (hp : Blk w gp tCp [pt g]) : Calls Tryz.prog 64 #[lv e, pt gp] w (Ret (CoP g w (oE e) f)) := by
  have q := fun (w : World) (h : Blk w g tC [.bool f]) (hT : Tab w) => k_div (w := w) h (.some he.1) (.some he.2) hT
  apply e_estimate_calculator_estimate_1
  unfold s_estimate_calculator_estimate_1
  have hl := h.lt
  refine bxL fun g2 w1 x1 hg2 _ b2 => ?_
  refine alR fun g3 w2 x2 hg3 _ b3 => ?_
  have hs1 := x1.size
  have xx := x1.tr x2
  have n3 : g3 ≠ g := by omega
  refine ldCp (hp.ext xx) ?_
  refine fL0 (mR (b2.ext x2) rfl rfl (fL1 (mR (b2.ext x2) rfl rfl ?_)))
  refine Cl_i n_estimate_calculator_div (q w2 (h.ext xx) (hT.ext xx)) ?_
  rintro _ w3 ⟨rfl, o3, hh⟩
  have oo : Own g w w3 := (Own.ofExt xx (Nat.le_of_lt hl)).trans o3
  replace b3 := blkOwn b3 n3 o3
  refine stoR b3 fun w9 o9 b3 => rcR b3 ?_
  have oz : Own g w w9 := ⟨oo.below.trans (o9.below.mono (by omega)), fun k hk hs => (o9.other k (by omega) (by have := oo.below.size; omega)).trans (oo.other k hk hs)⟩
  exact Ret.mk ⟨rfl, oz, blkOwn hh n3.symm o9⟩
theorem k_var1 : Calls Tryz.prog 38 #[lv e, pt g] w (Ret (CoP g w (oV e) f)) := by
  have q1 := fun (w : World) (h : Blk w g tC [.bool f]) (hz : ZO w) (hT : Tab w) => k_rest (w := w) h hg he hz hT
  have q2 := fun (w : World) (f : Bool) (o : Option Rat) (ho : OB o) (h : Blk w g tC [.bool f]) (hT : Tab w) => k_div (w := w) h ho (.some he.2) hT
  have BA : OB (oRest e) := oBin_B fit_mul _ _
  have c1 := comp1 oDiv oBin_n1 f (oRest e) (some e.2)
  obtain ⟨A, hA⟩ : ∃ A, A = oRest e := ⟨_, rfl⟩
  have eR : oV e = oDiv A (some e.2) := by rw [hA]; rfl
  simp only [← hA] at q1 c1 BA
  rw [eR]
  have fin : ∀ (r : Value) (w1 w' : World), Own g w w1 → CoP g w1 (oDiv (nV f A) (some e.2)) (f || A.isNone) r w' → CoP g w (oDiv A (some e.2)) f r w' := by
    rintro r w1 w' o ⟨h1, h2, h3⟩
    rw [c1.1] at h1
    rw [c1.2] at h3
    exact ⟨h1, o.trans h2, h3⟩
  clear c1 eR hA
  apply e_estimate_Variance_1
  unfold s_estimate_Variance_1
  have hl := h.lt
  refine bxL fun g2 w1 x1 hg2 _ b2 => ?_
  refine alR fun g3 w2 x2 hg3 _ b3 => ?_
  have hs1 := x1.size
  have l2 := b2.lt
  have xx := x1.tr x2
  have hs2 := xx.size
  have n3 : g3 ≠ g := by omega
  have n2 : g2 ≠ g := by omega
  replace b2 := b2.ext x2
  have o0 : Own g w w2 := .ofExt xx (Nat.le_of_lt hl)
  refine dlL (w := w2.drew) b2 (dL1 (dR (w := w2.drew) b2 rfl rfl ?_))
  replace h := h.ext xx
  refine Cl_i n_estimate_calculator_rest (q1 w2.drew h (hz.ext xx.dr) (hT.ext xx.dr)) ?_
  rintro _ w3 ⟨rfl, o3, h3⟩
  replace o3 : Own g w2 w3 := ⟨(Ext.refl w2).dr.mono (Nat.le_of_lt h.lt) |>.trans o3.below, fun k hk hs => o3.other k hk hs⟩
  replace b2 := blkOwn b2 n2 o3
  replace b3 := blkOwn b3 n3 o3
  refine kR b2 rfl rfl ?_
  refine Cl_i n_estimate_calculator_div (q2 w3 _ _ (nV_B BA) h3 (hT.owng hg (o0.trans o3))) ?_
  rintro _ w4 hp
  have hc := fin _ _ _ (o0.trans o3) hp
  replace b3 := blkOwn b3 n3 hp.2.1
  obtain ⟨rfl, oo, hh⟩ := hc
  refine stoR b3 fun w9 o9 b3 => rcR b3 ?_
  have oz : Own g w w9 := ⟨oo.below.trans (o9.below.mono (by omega)), fun k hk hs => (o9.other k (by omega) (by have := oo.below.size; omega)).trans (oo.other k hk hs)⟩
  exact Ret.mk ⟨rfl, oz, blkOwn hh n3.symm o9⟩
theorem k_esd1 (hp : Blk w gp tCp [pt g]) (hgp : gp ≠ g) : Calls Tryz.prog 65 #[lv e, pt gp] w (Ret (CoP g w (oD e) f)) := by
  have q1 := fun (w : World) (h : Blk w g tC [.bool f]) (hz : ZO w) (hT : Tab w) => k_rest (w := w) h hg he hz hT
  have q2 := fun (w : World) (f : Bool) (h : Blk w g tC [.bool f]) (hT : Tab w) => k_mul (w := w) h (.some he.2) (.some he.2) hT
  have q3 := fun (w : World) (f : Bool) (o p : Option Rat) (ho : OB o) (hp : OB p) (h : Blk w g tC [.bool f]) (hT : Tab w) => k_div (w := w) h ho hp hT
  have BA : OB (oRest e) := oBin_B fit_mul _ _
  have BB : OB (oMul (some e.2) (some e.2)) := oBin_B fit_mul _ _
  have c2 := comp2 oDiv oBin_n1 oBin_n2 f (oRest e) (oMul (some e.2) (some e.2))
  obtain ⟨A, hA⟩ : ∃ A, A = oRest e := ⟨_, rfl⟩
  obtain ⟨B, hB⟩ : ∃ B, B = oMul (some e.2) (some e.2) := ⟨_, rfl⟩
  have eR : oD e = oDiv A B := by rw [hA, hB]; rfl
  simp only [← hA] at q1 c2 BA
  simp only [← hB] at q2 c2 BB
  rw [eR]
  have fin : ∀ (r : Value) (w1 w' : World), Own g w w1 → CoP g w1 (oDiv (nV f A) (nV (f || A.isNone) B)) ((f || A.isNone) || B.isNone) r w' → CoP g w (oDiv A B) f r w' := by
    rintro r w1 w' o ⟨h1, h2, h3⟩
    rw [c2.1] at h1
    rw [c2.2] at h3
    exact ⟨h1, o.trans h2, h3⟩
  clear c2 eR hA hB
  apply e_estimate_calculator_estimated_1
  unfold s_estimate_calculator_estimated_1
  have hl := h.lt
  have hlp := hp.lt
  refine bxL fun g2 w1 x1 hg2 _ b2 => ?_
  refine alR fun g3 w2 x2 hg3 _ b3 => ?_
  have hs1 := x1.size
  have l2 := b2.lt
  have xx := x1.tr x2
  have hs2 := xx.size
  have n3 : g3 ≠ g := by omega
  have n2 : g2 ≠ g := by omega
  replace b2 := b2.ext x2
  replace hp := hp.ext xx
  have o0 : Own g w w2 := .ofExt xx (Nat.le_of_lt hl)
  refine dlCp (w := w2.drew) hp (dlCp (w := w2.drew) hp (dlL (w := w2.drew) b2 (dlCp (w := w2.drew) hp ?_)))
  refine dL1 (dR (w := w2.drew) b2 rfl rfl (dL1 (dR (w := w2.drew) b2 rfl rfl ?_)))
  replace h := h.ext xx
  refine Cl_i n_estimate_calculator_rest (q1 w2.drew h (hz.ext xx.dr) (hT.ext xx.dr)) ?_
  rintro _ w3 ⟨rfl, o3, h3⟩
  replace o3 : Own g w2 w3 := ⟨(Ext.refl w2).dr.mono (Nat.le_of_lt h.lt) |>.trans o3.below, fun k hk hs => o3.other k hk hs⟩
  replace b2 := blkOwn b2 n2 o3
  replace b3 := blkOwn b3 n3 o3
  replace hp := blkOwn hp hgp o3
  refine klCp hp (klCp hp (kR b2 rfl rfl (kR b2 rfl rfl ?_)))
  refine Cl_i n_estimate_calculator_mul (q2 w3 _ h3 (hT.owng hg (o0.trans o3))) ?_
  rintro _ w4 ⟨rfl, o4, h4⟩
  replace b3 := blkOwn b3 n3 o4
  replace hp := blkOwn hp hgp o4
  refine klCp hp ?_
  refine Cl_i n_estimate_calculator_div (q3 w4 _ _ _ (nV_B BA) (nV_B BB) h4 (hT.owng hg ((o0.trans o3).trans o4))) ?_
  rintro _ w5 hp5
  have hc := fin _ _ _ ((o0.trans o3).trans o4) hp5
  replace b3 := blkOwn b3 n3 hp5.2.1
  obtain ⟨rfl, oo, hh⟩ := hc
  refine stoR b3 fun w9 o9 b3 => rcR b3 ?_
  have oz : Own g w w9 := ⟨oo.below.trans (o9.below.mono (by omega)), fun k hk hs => (o9.other k (by omega) (by have := oo.below.size; omega)).trans (oo.other k hk hs)⟩
  exact Ret.mk ⟨rfl, oz, blkOwn hh n3.symm o9⟩
end
end Go.Proofs.YtnocjgmmglmfiaaGreatDoor
