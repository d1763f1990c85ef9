/-
  Contracts and plain lemmas. By an AI agent.
-/
import Derived.Test.YtjmdnjnjepinoaaGreatDoorCoC
set_option linter.unusedSimpArgs false
set_option linter.unusedVariables false
set_option linter.unusedSectionVars false
namespace Go.Proofs.YtjmdnjnjepinoaaGreatDoor
open Go Go.Eng Go.Proofs Go.Num Go.RowKit
set_option maxRecDepth 100000
set_option linter.unusedVariables false
set_option linter.unusedSectionVars false
section
variable {w0 : World} {c : CT} {v : Value} {l : List Int} (hc : CTk c) (hv : SlC w0 1 v l.length (l.flatMap fI)) (hI : ∀ y ∈ l, I64 y) (hll : l.length ≤ 9223372036854775807)
include hc hv hI hll
end
noncomputable def sumP (l : List RS) : Option Rat := l.foldl (fun a r => a.bind fun y => (shR 40 r).bind fun x => oAdd (some y) (some x)) (some 0)
theorem sumP_snoc (l : List RS) (r : RS) : sumP (l ++ [r]) = (sumP l).bind fun y => (shR 40 r).bind fun x => oAdd (some y) (some x) := by
 unfold sumP; rw [List.foldl_append]; rfl
theorem sumP_none (l m : List RS) (h : sumP l = none) : sumP (l ++ m) = none := by
 unfold sumP at h ⊢
 rw [List.foldl_append, h]
 induction m with
 | nil => rfl
 | cons r m ih => exact ih
theorem sumP_take {l : List RS} {j : Nat} (h : sumP (l.take j) = none) : sumP l = none := by
 have := sumP_none _ (l.drop j) h
 rw [List.take_append_drop] at this; exact this
theorem sumP_B (l : List RS) : OB (sumP l) := by
 rcases List.eq_nil_or_concat l with rfl | ⟨m, r, rfl⟩
 ·exact .some rb0
 ·rw [List.concat_eq_append, sumP_snoc]
  rcases sumP m with _ | y
  ·exact .none
  ·rcases shR 40 r with _ | x
   ·exact .none
   ·show OB (oAdd (some y) (some x))
    exact oBin_B fit_add _ _
noncomputable def sumO (l : List RS) : Option Rat := if 1 ≤ l.length ∧ l.length ≤ 12 then (sumP l).bind fun x => if x = 0 then none else some x else none
theorem eN0 : eN (some (0 : Rat)) = [48] := by
 show Lib.itoa (0 : Rat).num = [48]
 show Lib.itoa 0 = [48]
 unfold Lib.itoa; rw [if_neg (by decide)]; exact dec_lt (u := 0) (by decide)
theorem eD0 : eD (some (0 : Rat)) = [49] := by
 show Lib.itoa (((0 : Rat).den : Nat) : Int) = [49]
 exact itoa1
theorem eN_ne0 {x : Rat} (h : x ≠ 0) : (eN (some x) == [48]) = false := by
 refine beq_eq_false_iff_ne.2 fun e => h ?_
 rw [← eN0] at e
 have := itoa_inj e
 exact Rat.num_eq_zero.1 this
def SumR (w0 : World) (l : List RS) (r : Value) (w' : World) : Prop := Ext w0 w' ∧ ∃ q : Rat, r = .tuple #[ov (some q), .bool (sumO l).isSome] ∧ ∀ x, sumO l = some x → q = x
theorem add_ex {p r : RS} : ∃ a b z, rv (ans2 addQ rBad p.1 p.2 r.1 r.2) = .tuple #[.agg #[str a, str b], .int .i64 z] := ⟨_, _, _, rfl⟩
theorem zero_ov : ov (some (0 : Rat)) = .agg #[str [48], str [49]] := by
 show Value.agg #[str (eN (some 0)), str (eD (some 0))] = _
 rw [eN0, eD0]
section
variable {w0 : World} {v : Value} {l : List RS} (hv : SlR w0 v l) (hk : RSok l) (hll : l.length ≤ 9223372036854775807)
include hv hk hll
set_option maxHeartbeats 4000000 in
theorem c_sumS (he : En w0) : Calls Tryz.prog 49 #[v] w0 (Ret (SumR w0 l)) := by
 have hv : SlC w0 2 v l.length (l.flatMap fR) := hv
 have hZ := he.hZ
 apply e_contract_sum
 unfold s_contract_sum
 have h := Hp.init [] w0
 refine alS h fun g1 w h => ?_
 refine lgA h ‹_› (by rfl) ?_
 refine alS h fun g2 w h => ?_
 refine stA h 0 rfl rfl rfl rfl fun w h => ?_
 refine leS (hv.hp h) ?_
 dsimp only [List.set] at h
 refine Lp1.mk (fun i W => ∃ (j : Nat) (y : Rat), j ≤ l.length ∧ i = .int .i64 j ∧ sumP (l.take j) = some y ∧ Hp [] w0 W [bx g2 tR (fO (some y)), bx g1 tR [str [], str []]])
  (fun i _ => match i with | .int _ i' => l.length - i'.toNat | _ => 0) ⟨0, 0, by omega, rfl, rfl, ?_⟩ ?_
 ·show Hp [] w0 w [bx g2 tR [str (eN (some 0)), str (eD (some 0))], bx g1 tR [str [], str []]]
  rw [eN0, eD0]
  exact h
 clear h
 rintro _ W ⟨j, y, hj, rfl, hs, h⟩
 by_cases hjl : j < l.length
 ·refine Exists.elim (p := fun x => l[j]? = some x) ⟨_, List.getElem?_eq_getElem hjl⟩ fun r hr => ?_
  have sr : Seg (l.flatMap fR) (j * 2) (fR r) := flat_seg (f := fR) (fun _ => rfl) hr
  have hrk := hk r (List.mem_of_getElem? hr)
  have hyB : RB y := (hs ▸ sumP_B (l.take j)).get
  have hsn := sumP_snoc (l.take j) r
  rw [← take_snoc hr, hs] at hsn
  have hsh := fun {W : World} (x : Ext w0 W) => c_short (w := W) (p := r) (D := 40) hrk.1 hrk.2 (by decide) (he.hT.ext x)
  rcases hq : shR 40 r with _ | x
  ·rw [hq] at hsn
   have hno : sumO l = none := by
    unfold sumO
    split
    ·rw [sumP_take hsn]; rfl
    ·rfl
   refine Exists.elim (add_ex (p := tx y) (r := r)) fun a ha => Exists.elim ha fun b ha => Exists.elim ha fun z ha => ?_
   have cc1 : ∀ {W : World}, Ext w0 W → Calls Tryz.prog 58 #[ov (some y), .agg #[str r.1, str r.2]] W (Ret fun r w' => Ext W w' ∧ r = .tuple #[.agg #[str a, str b], .int .i64 z]) := fun {W} x => by
    have := c_qAdd (w := W) (itoa_ok hyB.n) (itoa_ok hyB.d) hrk.1 hrk.2 (he.hT.ext x)
    have e : ans2 addQ rBad (Lib.itoa y.num) (Lib.itoa (y.den : Int)) r.1 r.2 = ans2 addQ rBad (tx y).1 (tx y).2 r.1 r.2 := rfl
    rw [e, ha] at this
    exact this
   have cc2 : ∀ {W : World}, Ext w0 W → Calls Tryz.prog 45 #[.agg #[str r.1, str r.2], .int .i64 40] W (Ret fun r w' => Ext W w' ∧ r = .bool false) := fun x => by
    have := hsh x
    rw [hq] at this; exact this
   refine Bn_ltT (by omega) ?_
   refine If_T ?_
   refine iaH h ‹_› (by omega) fun zb zo zk zv zc => ?_
   refine lhA h ‹_› ‹_› (by rfl) ?_
   refine alS h fun g3 w h => ?_
   refine stA h 0 rfl rfl rfl rfl fun w h => ?_
   refine ldA h 1 rfl rfl ?_
   refine ldA h 0 rfl rfl ?_
   refine cl1 h n_rational_Add (cc1 h.ext) fun w h => ?_
   refine Ex2 ?_
   refine alS h fun g4 w h => ?_
   refine stA h 0 rfl rfl rfl rfl fun w h => ?_
   refine ldA h 1 rfl rfl ?_
   refine cl1 h n_contract_short (cc2 h.ext) fun w h => ?_
   refine Un_F ?_
   iterate 2 refine Gd_TF ?_
   refine Pick_T ?_
   refine If_T ?_
   refine lgA h ‹_› (by rfl) ?_
   refine stA h 3 rfl rfl rfl rfl fun w h => ?_
   refine rcA h 3 rfl rfl ?_
   dsimp only [List.set] at h
   exact Ret.mk ⟨h.ext, 0, by rw [hno, zero_ov]; rfl, fun x hx => by rw [hno] at hx; cases hx⟩
  obtain ⟨hrx, hxB, _⟩ := shR_some hq
  have hsn' : sumP (l.take (j + 1)) = oAdd (some y) (some x) := by rw [hsn, hq]; rfl
  have cc1 : ∀ {W : World}, Ext w0 W → Calls Tryz.prog 58 #[ov (some y), .agg #[str r.1, str r.2]] W (Ret fun r w' => Ext W w' ∧ r = .tuple #[ov (oAdd (some y) (some x)), .int .i64 (eE (oAdd (some y) (some x)))]) := fun {W} e => by
   have := o_add (w := W) (o := some y) (p := some x) (.some hyB) (.some hxB) (he.hT.ext e)
   rw [hrx]; exact this
  have cc2 : ∀ {W : World}, Ext w0 W → Calls Tryz.prog 45 #[.agg #[str r.1, str r.2], .int .i64 40] W (Ret fun r w' => Ext W w' ∧ r = .bool true) := fun x => by
   have := hsh x
   rw [hq] at this; exact this
  rcases hadd : oAdd (some y) (some x) with _ | s
  ·rw [hadd] at hsn'
   have hno : sumO l = none := by
    unfold sumO
    split
    ·rw [sumP_take hsn']; rfl
    ·rfl
   rw [hadd] at cc1
   have cc1 : ∀ {W : World}, Ext w0 W → Calls Tryz.prog 58 #[ov (some y), .agg #[str r.1, str r.2]] W (Ret fun r w' => Ext W w' ∧ r = .tuple #[ov none, .int .i64 40]) := cc1
   refine Bn_ltT (by omega) ?_
   refine If_T ?_
   refine iaH h ‹_› (by omega) fun zb zo zk zv zc => ?_
   refine lhA h ‹_› ‹_› (by rfl) ?_
   refine alS h fun g3 w h => ?_
   refine stA h 0 rfl rfl rfl rfl fun w h => ?_
   refine ldA h 1 rfl rfl ?_
   refine ldA h 0 rfl rfl ?_
   refine cl1 h n_rational_Add (cc1 h.ext) fun w h => ?_
   refine Ex2 ?_
   refine alS h fun g4 w h => ?_
   refine stA h 0 rfl rfl rfl rfl fun w h => ?_
   refine ldA h 1 rfl rfl ?_
   refine cl1 h n_contract_short (cc2 h.ext) fun w h => ?_
   refine Un_T ?_
   iterate 2 refine Gd_F ?_
   refine Bn_neT (by omega) ?_
   refine Pick_F ?_
   refine If_T ?_
   refine lgA h ‹_› (by rfl) ?_
   refine stA h 3 rfl rfl rfl rfl fun w h => ?_
   refine rcA h 3 rfl rfl ?_
   dsimp only [List.set] at h
   exact Ret.mk ⟨h.ext, 0, by rw [hno, zero_ov]; rfl, fun x hx => by rw [hno] at hx; cases hx⟩
  ·rw [hadd] at hsn' cc1
   have cc1 : ∀ {W : World}, Ext w0 W → Calls Tryz.prog 58 #[ov (some y), .agg #[str r.1, str r.2]] W (Ret fun r w' => Ext W w' ∧ r = .tuple #[ov (some s), .int .i64 0]) := cc1
   refine Bn_ltT (by omega) ?_
   refine If_T ?_
   refine iaH h ‹_› (by omega) fun zb zo zk zv zc => ?_
   refine lhA h ‹_› ‹_› (by rfl) ?_
   refine alS h fun g3 w h => ?_
   refine stA h 0 rfl rfl rfl rfl fun w h => ?_
   refine ldA h 1 rfl rfl ?_
   refine ldA h 0 rfl rfl ?_
   refine cl1 h n_rational_Add (cc1 h.ext) fun w h => ?_
   refine Ex2 ?_
   refine alS h fun g4 w h => ?_
   refine stA h 0 rfl rfl rfl rfl fun w h => ?_
   refine ldA h 1 rfl rfl ?_
   refine cl1 h n_contract_short (cc2 h.ext) fun w h => ?_
   refine Un_T ?_
   iterate 2 refine Gd_F ?_
   refine Bn_neF (by omega) ?_
   refine Pick_F ?_
   refine If_F ?_
   refine ldA h 0 rfl rfl ?_
   refine stA h 2 rfl rfl rfl rfl fun w h => ?_
   refine Bn_ad (by omega) (by omega) ?_
   dsimp only [List.set] at h
   exact ⟨⟨j + 1, s, by omega, rfl, hsn', h.pick [2, 3] (by decide) rfl⟩, by show l.length - ((j : Int) + 1).toNat < l.length - (j : Int).toNat; omega⟩
 rw [List.take_of_length_le (by omega)] at hs
 by_cases hn : (1 : Int) ≤ (l.length : Int) ∧ (l.length : Int) ≤ 12
 ·have cc1 := fun {W : World} (_ : Ext w0 W) => c_inT (w := W) hn
  by_cases hy0 : y = 0
  ·have hno : sumO l = none := by
    unfold sumO
    rw [if_pos (by omega), hs]; simp [hy0]
   have q1 : (eN (some y) == [48] && eD (some y) == [49]) = true := by rw [hy0, eN0, eD0]; rfl
   refine Bn_ltF (by omega) ?_
   refine If_F ?_
   replace h := h.dr
   refine dlA h 0 rfl rfl ?_
   refine dlS (hv.hp h) ?_
   refine cl1 h n_contract_in (cc1 h.ext) fun w h => ?_
   refine klA h 0 rfl rfl ?_
   refine GdP_T ?_
   refine dlA h 0 rfl rfl ?_
   refine GdP_T ?_
   refine dgA h ‹_› (by rfl) ?_
   refine GdP_T ?_
   refine dqNeF ‹_› ?_
   refine PickP_T ?_
   refine stA h 1 rfl rfl rfl rfl fun w h => ?_
   refine Kg_T ?_
   refine klA h 0 rfl rfl ?_
   refine Kg_T ?_
   refine kgA h ‹_› (by rfl) ?_
   refine Kg_T ?_
   refine Ke_dv (dqNeF ‹_› rfl) ?_
   refine rcA h 1 rfl rfl ?_
   dsimp only [List.set] at h
   exact Ret.mk ⟨h.ext, y, by rw [hno]; rfl, fun x hx => by rw [hno] at hx; cases hx⟩
  ·have hno : sumO l = some y := by
    unfold sumO
    rw [if_pos (by omega), hs]; simp [hy0]
   have q1 : (eN (some y) == [48] && eD (some y) == [49]) = false := by rw [eN_ne0 hy0]; rfl
   refine Bn_ltF (by omega) ?_
   refine If_F ?_
   replace h := h.dr
   refine dlA h 0 rfl rfl ?_
   refine dlS (hv.hp h) ?_
   refine cl1 h n_contract_in (cc1 h.ext) fun w h => ?_
   refine klA h 0 rfl rfl ?_
   refine GdP_T ?_
   refine dlA h 0 rfl rfl ?_
   refine GdP_T ?_
   refine dgA h ‹_› (by rfl) ?_
   refine GdP_T ?_
   refine dqNeT ‹_› ?_
   refine PickP_T ?_
   refine stA h 1 rfl rfl rfl rfl fun w h => ?_
   refine Kg_T ?_
   refine klA h 0 rfl rfl ?_
   refine Kg_T ?_
   refine kgA h ‹_› (by rfl) ?_
   refine Kg_T ?_
   refine Ke_dv (dqNeT ‹_› rfl) ?_
   refine rcA h 1 rfl rfl ?_
   dsimp only [List.set] at h
   exact Ret.mk ⟨h.ext, y, by rw [hno]; rfl, fun x hx => by rw [hno] at hx; cases hx; rfl⟩
 ·have cc1 := fun {W : World} (_ : Ext w0 W) => c_inF (w := W) hn
  have hno : sumO l = none := by
   unfold sumO
   rw [if_neg (by omega)]
  refine Bn_ltF (by omega) ?_
  refine If_F ?_
  replace h := h.dr
  refine dlA h 0 rfl rfl ?_
  refine dlS (hv.hp h) ?_
  refine cl1 h n_contract_in (cc1 h.ext) fun w h => ?_
  refine klA h 0 rfl rfl ?_
  iterate 3 refine GdP_FT ?_
  refine PickP_F ?_
  refine stA h 1 rfl rfl rfl rfl fun w h => ?_
  iterate 3 refine Kg_FT ?_
  refine rcA h 1 rfl rfl ?_
  dsimp only [List.set] at h
  exact Ret.mk ⟨h.ext, y, by rw [hno]; rfl, fun x hx => by rw [hno] at hx; cases hx⟩
end
end Go.Proofs.YtjmdnjnjepinoaaGreatDoor
