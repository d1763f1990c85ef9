/-
  Contracts and plain lemmas. By an AI agent.
-/
import Derived.Test.YtnocjgmmglmfiaaGreatDoorEsF
import Derived.Test.YtnocjgmmglmfiaaGreatDoorEngT
set_option linter.unusedSimpArgs false
set_option linter.unusedVariables false
set_option linter.unusedSectionVars false
namespace Go.Proofs.YtnocjgmmglmfiaaGreatDoor
open Go Go.Eng Go.Proofs Go.Num Go.RowKit
set_option maxRecDepth 100000
set_option linter.unusedVariables false
set_option linter.unusedSectionVars false
abbrev tLs : TypeId := 55
def cellsE : List El → List Value
  | [] => []
  | e :: l => str (Lib.itoa e.1.num) :: str (Lib.itoa (e.1.den : Int)) :: str (Lib.itoa e.2.num) :: str (Lib.itoa (e.2.den : Int)) :: cellsE l
theorem cellsE_get : ∀ {l : List El} {j : Nat} {e : El}, l[j]? = some e → (cellsE l)[j * 4]? = some (str (Lib.itoa e.1.num)) ∧ (cellsE l)[j * 4 + 1]? = some (str (Lib.itoa (e.1.den : Int))) ∧ (cellsE l)[j * 4 + 2]? = some (str (Lib.itoa e.2.num)) ∧ (cellsE l)[j * 4 + 3]? = some (str (Lib.itoa (e.2.den : Int)))
  | [], j, e, h => by simp at h
  | a :: l, 0, e, h => by
    simp only [List.getElem?_cons_zero, Option.some.injEq] at h
    subst h
    exact ⟨rfl, rfl, rfl, rfl⟩
  | a :: l, j + 1, e, h => by
    have := cellsE_get (l := l) (j := j) (e := e) (by simpa using h)
    rw [show (j + 1) * 4 = j * 4 + 4 by omega]
    exact this
def SlE (w : World) (v : Value) (l : List El) : Prop := SlC w 4 v l.length (cellsE l)
theorem SlE.ext {w w' : World} {v : Value} {l : List El} (h : SlE w v l) (x : Ext w w') : SlE w' v l := SlC.ext h x
section
variable {w : World} {K : Value → World → Prop}
theorem ldE {v : Value} {l : List El} {j : Nat} {e : El} (h : SlE w v l) (hj : l[j]? = some e) (hK : K (lv e) w) :
    Ia Tryz.prog tLs v (.int .i64 (j : Int)) w fun a w => Ld Tryz.prog tEl a w K := by
  have hl : j < l.length := (List.getElem?_eq_some_iff.1 hj).1
  obtain ⟨h0, ⟨rfl, hn⟩ | ⟨b, o, cap, rfl, hc, hcells⟩⟩ := h
  · omega
  · obtain ⟨g0, g1, g2, g3⟩ := cellsE_get hj
    have c0 := hcells _ _ g0
    have c1 := hcells _ _ g1
    have c2 := hcells _ _ g2
    have c3 := hcells _ _ g3
    rw [← Nat.add_assoc] at c1 c2 c3
    simp -dsimp [go_sem, c0, c1, c2, c3, hl]
    exact hK
theorem lenE {v : Value} {l : List El} (h : SlE w v l) (hL : ∃ e, Tryz.prog.underlying tLs = some (.slice e)) (hK : K (.int .i64 (l.length : Int)) w) : Bt Tryz.prog .len #[tLs] 3 #[v] w K := by
  obtain ⟨h0, ⟨rfl, hn⟩ | ⟨b, o, cap, rfl, hc, hcells⟩⟩ := h
  · rw [hn] at hK
    exact Bt_lenL hL hK
  · exact Bt_lenL hL hK
end
theorem stoL {w : World} {KW : World → Prop} {g : Nat} {a b c d a' b' c' d' : List UInt8} (h : Blk w g tEl [str a', str b', str c', str d']) (hk : ∀ w', Own g w w' → Blk w' g tEl [str a, str b, str c, str d] → KW w') : Sto Tryz.prog tEl (pt g) (.agg #[str a, str b, str c, str d]) w KW := by
  have h2 := (((h.set 0 (str a)).set 1 (str b)).set 2 (str c)).set 3 (str d)
  ((try simp -dsimp [go_sem, h.cell (i := 0) rfl, h.cell (i := 1) rfl, h.cell (i := 2) rfl, h.cell (i := 3) rfl, h.frz 0, h.frz 1, h.frz 2, h.frz 3]); repeat (simp -dsimp (disch := omega) only [gL, it_t, it_f, dit_t, dit_f]; try simp -dsimp [go_sem, h.cell (i := 0) rfl, h.cell (i := 1) rfl, h.cell (i := 2) rfl, h.cell (i := 3) rfl, h.frz 0, h.frz 1, h.frz 2, h.frz 3]))
  exact hk _ ((((Own.set g 0 w _).trans (Own.set g 1 _ _)).trans (Own.set g 2 _ _)).trans (Own.set g 3 _ _)) h2
theorem fold_step {f : Bool} {S a T : Option Rat} (ha : (f || S.isNone) = false → a = S) :
    ((((f || S.isNone) || T.isNone) || (oAdd a (nV (f || S.isNone) T)).isNone) = (f || (oAdd S T).isNone)) ∧
    ((f || (oAdd S T).isNone) = false → nV ((f || S.isNone) || T.isNone) (oAdd a (nV (f || S.isNone) T)) = oAdd S T) := by
  cases f with
  | true => exact ⟨by simp, by simp⟩
  | false =>
    cases S with
    | none =>
      have e : oAdd none T = none := rfl
      rw [e]; exact ⟨by simp, by simp⟩
    | some s =>
      have := ha (by simp)
      subst this
      cases T with
      | none => exact ⟨by simp [nV, oBin_n2], by simp [oBin_n2]⟩
      | some y => exact ⟨by simp [nV], by simp [nV]⟩
theorem k_fold {g : Nat} {Inv : World → Prop} {v0 cap : Value} {l : List El} {t : El → Option Rat} {fid : FuncId} {x : Rat} {w : World} {f : Bool}
    (hL : ∃ e, Tryz.prog.underlying tLs = some (.slice e)) (hn : Enters Tryz.prog fid) (hlen : l.length ≤ 100000) (hI : ∀ W W', Inv W → Own g W W' → Inv W') (hT : ∀ W, Inv W → Tab W) (hS : ∀ W, Inv W → SlE W v0 l)
    (ht : ∀ (W : World) (f : Bool) (e : El), e ∈ l → Inv W → Blk W g tC [.bool f] → Calls Tryz.prog fid #[lv e, cap] W (Ret (CoP g W (t e) f)))
    (hB : ∀ e, OB (t e)) (hx : RB x) (h : Blk w g tC [.bool f]) (hi : Inv w) :
    Calls Tryz.prog 37 #[v0, ov (some x), pt g, .func (.func fid) #[] #[cap]] w (Ret fun r w' => ∃ a, OB a ∧ r = ov a ∧ Own g w w' ∧ Inv w' ∧ Blk w' g tC [.bool (f || (oSum t l (some x)).isNone)] ∧ ((f || (oSum t l (some x)).isNone) = false → a = oSum t l (some x))) := by
  apply e_estimate_fold_estimate_element
  unfold s_estimate_fold_estimate_element
  have hl := h.lt
  have hi0 := hi
  refine bxR fun g5 w1 x1 hg5 _ b5 => ?_
  refine alR fun g8 w2 x2 hg8 _ b8 => ?_
  have hs1 := x1.size
  have l5 := b5.lt
  have n5 : g5 ≠ g := by omega
  have n8 : g8 ≠ g := by omega
  have n58 : g5 ≠ g8 := by omega
  have o0 : Own g w w2 := .ofExt (x1.tr x2) (Nat.le_of_lt hl)
  have hi2 := hI _ _ hi o0
  have h2 := h.ext (x1.tr x2)
  replace b5 := b5.ext x2
  refine lenE (hS _ hi2) hL ?_
  refine Lp1.mk (fun v W => ∃ (j : Nat) (a : Option Rat), j ≤ l.length ∧ v = .int .i64 j ∧ OB a ∧ Own g w W ∧ w2.heap.size ≤ W.heap.size ∧ Inv W ∧ Blk W g tC [.bool (f || (oSum t (l.take j) (some x)).isNone)] ∧ Blk W g5 tR [str (eN a), str (eD a)] ∧ Blk W g8 tR [str [], str []] ∧ ((f || (oSum t (l.take j) (some x)).isNone) = false → a = oSum t (l.take j) (some x)))
    (fun i _ => match i with | .int _ i' => l.length - i'.toNat | _ => 0) ⟨0, some x, by omega, rfl, .some hx, o0, Nat.le_refl _, hi2, by rw [List.take_zero]; show Blk w2 g tC [.bool (f || false)]; rw [Bool.or_false]; exact h2, b5, b8, fun _ => by rw [List.take_zero]; rfl⟩ ?_
  clear b5 b8 h2 hi2 o0
  have l8 : g8 < w2.heap.size := by assumption
  rintro _ W ⟨j, a, hj, rfl, hoa, oo, hsz, hi, hf, b5, b8, ha⟩
  by_cases hjl : j < l.length
  · have hje := List.getElem?_eq_getElem hjl
    have hsn : l.take (j + 1) = l.take j ++ [l[j]] := by rw [List.take_add_one, hje]; rfl
    have hst := fold_step (T := t l[j]) ha
    have hsum : oSum t (l.take (j + 1)) (some x) = oAdd (oSum t (l.take j) (some x)) (t l[j]) := by rw [hsn, oSum_snoc]
    rw [← hsum] at hst
    have hm : l[j] ∈ l := List.getElem_mem hjl
    refine Bn_ltT (by omega) (If_T (ldE (hS _ hi) hje ?_))
    have hfl := hf.lt
    refine alL fun g10 w3 x3 hg10 _ b10 => ?_
    have n10 : g10 ≠ g := by omega
    have n510 : g5 ≠ g10 := by omega
    have n810 : g8 ≠ g10 := by omega
    refine stoL b10 fun w4 o4 b10 => ?_
    have e4 : Ext W w4 := o4.ext x3 hg10
    have o34 : Own g W w4 := .ofExt e4 (Nat.le_of_lt hfl)
    replace hf := hf.ext e4
    replace b5 := b5.ext e4
    replace b8 := b8.ext e4
    have hi4 := hI _ _ hi o34
    have od : Own g w4 w4.drew := .ofExt (Ext.refl w4).dr (Nat.le_of_lt hf.lt)
    refine dR2x0 (w := w4.drew) b5 (dlL (w := w4.drew) b10 ?_)
    refine Cw_i hn (S := CoP g w4.drew (t l[j]) _) (ht w4.drew _ l[j] hm (hI _ _ hi4 od) hf) ?_
    rintro _ w5 ⟨rfl, o5, h5⟩
    have o45 : Own g w4 w5 := od.trans o5
    replace b5 := blkOwn b5 n5 o45
    replace b8 := blkOwn b8 n8 o45
    have hi5 := hI _ _ hi4 o45
    refine kR2x0 b5 ?_
    refine Cl_i n_estimate_calculator_add (k_add h5 hoa (nV_B (hB _)) (hT _ hi5)) ?_
    rintro _ w6 ⟨rfl, o6, h6⟩
    replace b5 := blkOwn b5 n5 o6
    replace b8 := blkOwn b8 n8 o6
    have hi6 := hI _ _ hi5 o6
    refine stoR b5 fun w7 o7 b5 => ?_
    have s4 := e4.size
    have s5 := o45.below.size
    have s6 := o6.below.size
    have s7 := o7.below.size
    have oW : Own g w w6 := ((oo.trans o34).trans o45).trans o6
    have og : Own g w w7 := ⟨oW.below.trans (o7.below.mono (by omega)), fun k hk hs => (o7.other k (by omega) (by have := oW.below.size; omega)).trans (oW.other k hk hs)⟩
    refine Bn_ad (by omega) (by omega) ?_
    exact ⟨⟨j + 1, _, by omega, rfl, nV_B (oBin_B fit_add _ _), og, by omega, hI _ _ hi0 og, by rw [← hst.1]; exact blkOwn h6 n5.symm o7, b5, blkOwn b8 n58.symm o7, hst.2⟩, by show l.length - ((j : Int) + 1).toNat < l.length - (j : Int).toNat; omega⟩
  · have hjt : l.take j = l := List.take_of_length_le (by omega)
    rw [hjt] at hf ha
    refine Bn_ltF (by omega) (If_F (ldR b5 (stoR b8 fun w3 o3 b8 => rcR b8 ?_)))
    have og : Own g w w3 := ⟨oo.below.trans (o3.below.mono (by omega)), fun k hk hs => (o3.other k (by omega) (by have := oo.below.size; omega)).trans (oo.other k hk hs)⟩
    exact Ret.mk ⟨a, hoa, rfl, og, hI _ _ hi0 og, blkOwn hf n8.symm o3, ha⟩
theorem SlE.own {w w' : World} {v : Value} {l : List El} {g : Nat} (h : SlE w v l) (hne : ∀ k, v.ownBlock = some k → k ≠ g) (o : Own g w w') : SlE w' v l := by
  obtain ⟨h0, h | ⟨b, ofs, cap, h1, h2, h3⟩⟩ := h
  · exact ⟨h0, .inl h⟩
  · refine ⟨h0, .inr ⟨b, ofs, cap, h1, h2, fun i x hx => ?_⟩⟩
    have hc := h3 i x hx
    have hb : b ≠ g := hne b (by rw [h1]; rfl)
    rw [World.cell?_of_block (o.other b hb (World.block_lt_of_cell? w _ hc))]
    exact hc
theorem oE_B (e : El) : OB (oE e) := by
  unfold oE
  exact oBin_B fit_div _ _
theorem oD_B (e : El) : OB (oD e) := oBin_B fit_div _ _
theorem oV_B (e : El) : OB (oV e) := oBin_B fit_div _ _
theorem k_estimate {g : Nat} {v0 : Value} {l : List El} {w : World} {f : Bool} (hL : ∃ e, Tryz.prog.underlying tLs = some (.slice e)) (hlen : l.length ≤ 100000) (hok : ∀ e ∈ l, El.ok e) (hv : ∀ k, v0.ownBlock = some k → k ≠ g) (hg : GB g)
    (h : Blk w g tC [.bool f]) (hT : Tab w) (hz : ZO w) (hS : SlE w v0 l) :
    Calls Tryz.prog 32 #[pt g, v0] w (Ret fun r w' => ∃ a, OB a ∧ r = ov a ∧ Own g w w' ∧ Blk w' g tC [.bool (f || (oEst l).isNone)] ∧ ((f || (oEst l).isNone) = false → a = oEst l)) := by
  have hl := h.lt
  apply e_estimate_calculator_estimate
  unfold s_estimate_calculator_estimate
  refine bxCp fun g2 w1 x1 hg2 _ b2 => ?_
  refine alR fun g4 w2 x2 hg4 _ b4 => ?_
  have hs1 := x1.size
  have l2 := b2.lt
  have n2 : g2 ≠ g := by omega
  have n4 : g4 ≠ g := by omega
  have xx := x1.tr x2
  replace b2 := b2.ext x2
  have o0 : Own g w w2 := .ofExt xx (Nat.le_of_lt hl)
  have hk := fun (h2 : Blk w2 g tC [.bool f]) (hi : Tab w2 ∧ ZO w2 ∧ SlE w2 v0 l ∧ Blk w2 g2 tCp [pt g]) => k_fold (g := g) (Inv := fun W => Tab W ∧ ZO W ∧ SlE W v0 l ∧ Blk W g2 tCp [pt g]) (v0 := v0) (cap := pt g2) (l := l) (t := oE) (x := 0) (w := w2) (f := f) hL n_estimate_calculator_estimate_1 hlen
    (fun W W' hi o => ⟨hi.1.owng hg o, hi.2.1.own (by omega) o, hi.2.2.1.own hv o, blkOwn hi.2.2.2 n2 o⟩) (fun W hi => hi.1) (fun W hi => hi.2.2.1)
    (fun W f e he hi hb => k_est1 hb hg (hok e he) hi.2.1 hi.1 hi.2.2.2) oE_B (Sml.rb ⟨by unfold Sz; decide, by unfold Sz; decide⟩) h2 hi
  rw [zero_ov] at hk
  refine ldR (hz.ext xx).1 (ldCp b2 ?_)
  refine Cl_i n_estimate_fold_estimate_element (hk (h.ext xx) ⟨hT.ext xx, hz.ext xx, hS.ext xx, b2⟩) ?_
  rintro _ w3 ⟨a, hoa, rfl, o3, _, h3, ha⟩
  replace b4 := blkOwn b4 n4 o3
  refine stoR b4 fun w4 o4 b4 => rcR b4 ?_
  have oo := o0.trans o3
  have og : Own g w w4 := ⟨oo.below.trans (o4.below.mono (by omega)), fun k hk hs => (o4.other k (by omega) (by have := oo.below.size; omega)).trans (oo.other k hk hs)⟩
  exact Ret.mk ⟨a, hoa, rfl, og, blkOwn h3 n4.symm o4, ha⟩
theorem k_estimated {g : Nat} {v0 : Value} {l : List El} {w : World} {f : Bool} (hL : ∃ e, Tryz.prog.underlying tLs = some (.slice e)) (hlen : l.length ≤ 100000) (hok : ∀ e ∈ l, El.ok e) (hv : ∀ k, v0.ownBlock = some k → k ≠ g) (hg : GB g)
    (h : Blk w g tC [.bool f]) (hT : Tab w) (hz : ZO w) (hS : SlE w v0 l) :
    Calls Tryz.prog 33 #[pt g, v0] w (Ret fun r w' => ∃ a, OB a ∧ r = ov a ∧ Own g w w' ∧ Blk w' g tC [.bool (f || (oEsd l).isNone)] ∧ ((f || (oEsd l).isNone) = false → a = oEsd l)) := by
  have hl := h.lt
  apply e_estimate_calculator_estimated
  unfold s_estimate_calculator_estimated
  refine bxCp fun g2 w1 x1 hg2 _ b2 => ?_
  refine alR fun g4 w2 x2 hg4 _ b4 => ?_
  have hs1 := x1.size
  have l2 := b2.lt
  have n2 : g2 ≠ g := by omega
  have n4 : g4 ≠ g := by omega
  have xx := x1.tr x2
  replace b2 := b2.ext x2
  have o0 : Own g w w2 := .ofExt xx (Nat.le_of_lt hl)
  have hk := fun (h2 : Blk w2 g tC [.bool f]) (hi : Tab w2 ∧ ZO w2 ∧ SlE w2 v0 l ∧ Blk w2 g2 tCp [pt g]) => k_fold (g := g) (Inv := fun W => Tab W ∧ ZO W ∧ SlE W v0 l ∧ Blk W g2 tCp [pt g]) (v0 := v0) (cap := pt g2) (l := l) (t := oD) (x := 0) (w := w2) (f := f) hL n_estimate_calculator_estimated_1 hlen
    (fun W W' hi o => ⟨hi.1.owng hg o, hi.2.1.own (by omega) o, hi.2.2.1.own hv o, blkOwn hi.2.2.2 n2 o⟩) (fun W hi => hi.1) (fun W hi => hi.2.2.1)
    (fun W f e he hi hb => k_esd1 hb hg (hok e he) hi.2.1 hi.1 hi.2.2.2 (by omega)) oD_B (Sml.rb ⟨by unfold Sz; decide, by unfold Sz; decide⟩) h2 hi
  rw [zero_ov] at hk
  refine ldR (hz.ext xx).1 (ldCp b2 ?_)
  refine Cl_i n_estimate_fold_estimate_element (hk (h.ext xx) ⟨hT.ext xx, hz.ext xx, hS.ext xx, b2⟩) ?_
  rintro _ w3 ⟨a, hoa, rfl, o3, _, h3, ha⟩
  replace b4 := blkOwn b4 n4 o3
  refine stoR b4 fun w4 o4 b4 => rcR b4 ?_
  have oo := o0.trans o3
  have og : Own g w w4 := ⟨oo.below.trans (o4.below.mono (by omega)), fun k hk hs => (o4.other k (by omega) (by have := oo.below.size; omega)).trans (oo.other k hk hs)⟩
  exact Ret.mk ⟨a, hoa, rfl, og, blkOwn h3 n4.symm o4, ha⟩
section
variable {w : World} {K : Value → World → Prop} {a b c d : List UInt8}
end
end Go.Proofs.YtnocjgmmglmfiaaGreatDoor
