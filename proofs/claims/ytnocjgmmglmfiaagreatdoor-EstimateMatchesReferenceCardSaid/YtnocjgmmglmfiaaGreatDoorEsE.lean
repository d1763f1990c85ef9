/-
  Contracts and plain lemmas. By an AI agent.
-/
import Derived.Test.YtnocjgmmglmfiaaGreatDoorEsA
import Derived.Test.YtnocjgmmglmfiaaGreatDoorQMem
set_option linter.unusedSimpArgs false
set_option linter.unusedVariables false
set_option linter.unusedSectionVars false
namespace Go.Proofs.YtnocjgmmglmfiaaGreatDoor
open Go Go.Eng Go.Proofs Go.Num Go.RowKit
set_option maxRecDepth 100000
set_option linter.unusedVariables false
set_option linter.unusedSectionVars false
theorem r_add {o p : Option Rat} {w : World} (ho : OB o) (hp : OB p) : Calls Tryz.prog 42 #[ov o, ov p] w (Ret fun r w' => Ext w w' ∧ r = ov (oAdd o p)) := by
  have c := fun w : World => o_fadd (w := w) ho hp
  obtain ⟨q, hq⟩ : ∃ q, q = oAdd o p := ⟨_, rfl⟩
  rw [← hq]
  simp only [← hq] at c
  clear hq
  obtain ⟨a, ha⟩ : ∃ a, a = eN o := ⟨_, rfl⟩
  obtain ⟨b, hb⟩ : ∃ b, b = eD o := ⟨_, rfl⟩
  obtain ⟨a', ha'⟩ : ∃ a, a = eN p := ⟨_, rfl⟩
  obtain ⟨b', hb'⟩ : ∃ b, b = eD p := ⟨_, rfl⟩
  show Calls Tryz.prog 42 #[.agg #[str (eN o), str (eD o)], .agg #[str (eN p), str (eD p)]] w _
  rw [← ha, ← hb, ← ha', ← hb']
  have c : ∀ w : World, Calls Tryz.prog 71 #[.agg #[str a, str b], .agg #[str a', str b']] w (Ret fun r w' => Ext w w' ∧ r = ot q) := by
    intro w; rw [ha, hb, ha', hb']; exact c w
  cases q with
  | none =>
    have c : ∀ w : World, Calls Tryz.prog 71 #[.agg #[str a, str b], .agg #[str a', str b']] w (Ret fun r w' => Ext w w' ∧ r = .tuple #[.agg #[str [], str []], .int .i64 40]) := c
    apply e_ref16_add
    unfold s_ref16_add
    refine bxR fun g2 w1 x1 hg2 hl2 b2 => ?_
    have k2 : w.heap.size ≤ g2 := hg2
    have xx := x1
    clear hg2 hl2
    have z2 := b2.lt
    refine bxR fun g3 w2 x2 hg3 hl3 b3 => ?_
    have k3 : w.heap.size ≤ g3 := by have := xx.size; omega
    have n2x3 : g2 ≠ g3 := by omega
    clear z2
    replace b2 := b2.ext x2
    replace xx := xx.tr x2
    clear hg3 hl3
    have z2 := b2.lt
    have z3 := b3.lt
    refine alR fun g4 w3 x3 hg4 hl4 b4 => ?_
    have k4 : w.heap.size ≤ g4 := by have := xx.size; omega
    have n2x4 : g2 ≠ g4 := by omega
    clear z2
    have n3x4 : g3 ≠ g4 := by omega
    clear z3
    replace b2 := b2.ext x3
    replace b3 := b3.ext x3
    replace xx := xx.tr x3
    clear hg4 hl4
    refine ldR b2 (ldR b3 ?_)
    refine Cl2 n_ref04_Add (c _) fun w4 x4 => ?_
    replace b2 := b2.ext x4
    replace b3 := b3.ext x4
    replace b4 := b4.ext x4
    replace xx := xx.tr x4
    have z2 := b2.lt
    have z3 := b3.lt
    have z4 := b4.lt
    refine alR fun g5 w5 x5 hg5 hl5 b5 => ?_
    have k5 : w.heap.size ≤ g5 := by have := xx.size; omega
    have n2x5 : g2 ≠ g5 := by omega
    clear z2
    have n3x5 : g3 ≠ g5 := by omega
    clear z3
    have n4x5 : g4 ≠ g5 := by omega
    clear z4
    replace b2 := b2.ext x5
    replace b3 := b3.ext x5
    replace b4 := b4.ext x5
    replace xx := xx.tr x5
    clear hg5 hl5
    refine stoR b5 fun w6 o6 b5 => ?_
    replace b2 := blkOwn b2 n2x5 o6
    replace b3 := blkOwn b3 n3x5 o6
    replace b4 := blkOwn b4 n4x5 o6
    replace xx := o6.ext xx k5
    refine Bn_neT (.inr (by decide)) (If_T (bdR0 ?_))
    refine stoR b4 fun w7 o7 b4 => ?_
    replace b2 := blkOwn b2 n2x4 o7
    replace b3 := blkOwn b3 n3x4 o7
    replace b5 := blkOwn b5 n4x5.symm o7
    replace xx := o7.ext xx k4
    refine rcR b4 ?_
    exact Ret.mk ⟨xx, rfl⟩
  | some z =>
    obtain ⟨u, hu⟩ : ∃ u, u = Lib.itoa z.num := ⟨_, rfl⟩
    obtain ⟨v, hv⟩ : ∃ v, v = Lib.itoa (z.den : Int) := ⟨_, rfl⟩
    have c : ∀ w : World, Calls Tryz.prog 71 #[.agg #[str a, str b], .agg #[str a', str b']] w (Ret fun r w' => Ext w w' ∧ r = .tuple #[.agg #[str u, str v], .int .i64 0]) := by rw [hu, hv]; exact c
    have e : ov (some z) = .agg #[str u, str v] := by rw [hu, hv]; rfl
    rw [e]
    apply e_ref16_add
    unfold s_ref16_add
    refine bxR fun g2 w1 x1 hg2 hl2 b2 => ?_
    have k2 : w.heap.size ≤ g2 := hg2
    have xx := x1
    clear hg2 hl2
    have z2 := b2.lt
    refine bxR fun g3 w2 x2 hg3 hl3 b3 => ?_
    have k3 : w.heap.size ≤ g3 := by have := xx.size; omega
    have n2x3 : g2 ≠ g3 := by omega
    clear z2
    replace b2 := b2.ext x2
    replace xx := xx.tr x2
    clear hg3 hl3
    have z2 := b2.lt
    have z3 := b3.lt
    refine alR fun g4 w3 x3 hg4 hl4 b4 => ?_
    have k4 : w.heap.size ≤ g4 := by have := xx.size; omega
    have n2x4 : g2 ≠ g4 := by omega
    clear z2
    have n3x4 : g3 ≠ g4 := by omega
    clear z3
    replace b2 := b2.ext x3
    replace b3 := b3.ext x3
    replace xx := xx.tr x3
    clear hg4 hl4
    refine ldR b2 (ldR b3 ?_)
    refine Cl2 n_ref04_Add (c _) fun w4 x4 => ?_
    replace b2 := b2.ext x4
    replace b3 := b3.ext x4
    replace b4 := b4.ext x4
    replace xx := xx.tr x4
    have z2 := b2.lt
    have z3 := b3.lt
    have z4 := b4.lt
    refine alR fun g5 w5 x5 hg5 hl5 b5 => ?_
    have k5 : w.heap.size ≤ g5 := by have := xx.size; omega
    have n2x5 : g2 ≠ g5 := by omega
    clear z2
    have n3x5 : g3 ≠ g5 := by omega
    clear z3
    have n4x5 : g4 ≠ g5 := by omega
    clear z4
    replace b2 := b2.ext x5
    replace b3 := b3.ext x5
    replace b4 := b4.ext x5
    replace xx := xx.tr x5
    clear hg5 hl5
    refine stoR b5 fun w6 o6 b5 => ?_
    replace b2 := blkOwn b2 n2x5 o6
    replace b3 := blkOwn b3 n3x5 o6
    replace b4 := blkOwn b4 n4x5 o6
    replace xx := o6.ext xx k5
    refine Bn_neF rfl (If_F (ldR b5 ?_))
    refine stoR b4 fun w7 o7 b4 => ?_
    replace b2 := blkOwn b2 n2x4 o7
    replace b3 := blkOwn b3 n3x4 o7
    replace b5 := blkOwn b5 n4x5.symm o7
    replace xx := o7.ext xx k4
    refine rcR b4 ?_
    exact Ret.mk ⟨xx, rfl⟩
theorem r_sub {o p : Option Rat} {w : World} (ho : OB o) (hp : OB p) : Calls Tryz.prog 45 #[ov o, ov p] w (Ret fun r w' => Ext w w' ∧ r = ov (oSub o p)) := by
  have c := fun w : World => o_fsub (w := w) ho hp
  obtain ⟨q, hq⟩ : ∃ q, q = oSub o p := ⟨_, rfl⟩
  rw [← hq]
  simp only [← hq] at c
  clear hq
  obtain ⟨a, ha⟩ : ∃ a, a = eN o := ⟨_, rfl⟩
  obtain ⟨b, hb⟩ : ∃ b, b = eD o := ⟨_, rfl⟩
  obtain ⟨a', ha'⟩ : ∃ a, a = eN p := ⟨_, rfl⟩
  obtain ⟨b', hb'⟩ : ∃ b, b = eD p := ⟨_, rfl⟩
  show Calls Tryz.prog 45 #[.agg #[str (eN o), str (eD o)], .agg #[str (eN p), str (eD p)]] w _
  rw [← ha, ← hb, ← ha', ← hb']
  have c : ∀ w : World, Calls Tryz.prog 74 #[.agg #[str a, str b], .agg #[str a', str b']] w (Ret fun r w' => Ext w w' ∧ r = ot q) := by
    intro w; rw [ha, hb, ha', hb']; exact c w
  cases q with
  | none =>
    have c : ∀ w : World, Calls Tryz.prog 74 #[.agg #[str a, str b], .agg #[str a', str b']] w (Ret fun r w' => Ext w w' ∧ r = .tuple #[.agg #[str [], str []], .int .i64 40]) := c
    apply e_ref16_sub
    unfold s_ref16_sub
    refine bxR fun g2 w1 x1 hg2 hl2 b2 => ?_
    have k2 : w.heap.size ≤ g2 := hg2
    have xx := x1
    clear hg2 hl2
    have z2 := b2.lt
    refine bxR fun g3 w2 x2 hg3 hl3 b3 => ?_
    have k3 : w.heap.size ≤ g3 := by have := xx.size; omega
    have n2x3 : g2 ≠ g3 := by omega
    clear z2
    replace b2 := b2.ext x2
    replace xx := xx.tr x2
    clear hg3 hl3
    have z2 := b2.lt
    have z3 := b3.lt
    refine alR fun g4 w3 x3 hg4 hl4 b4 => ?_
    have k4 : w.heap.size ≤ g4 := by have := xx.size; omega
    have n2x4 : g2 ≠ g4 := by omega
    clear z2
    have n3x4 : g3 ≠ g4 := by omega
    clear z3
    replace b2 := b2.ext x3
    replace b3 := b3.ext x3
    replace xx := xx.tr x3
    clear hg4 hl4
    refine ldR b2 (ldR b3 ?_)
    refine Cl2 n_ref04_Sub (c _) fun w4 x4 => ?_
    replace b2 := b2.ext x4
    replace b3 := b3.ext x4
    replace b4 := b4.ext x4
    replace xx := xx.tr x4
    have z2 := b2.lt
    have z3 := b3.lt
    have z4 := b4.lt
    refine alR fun g5 w5 x5 hg5 hl5 b5 => ?_
    have k5 : w.heap.size ≤ g5 := by have := xx.size; omega
    have n2x5 : g2 ≠ g5 := by omega
    clear z2
    have n3x5 : g3 ≠ g5 := by omega
    clear z3
    have n4x5 : g4 ≠ g5 := by omega
    clear z4
    replace b2 := b2.ext x5
    replace b3 := b3.ext x5
    replace b4 := b4.ext x5
    replace xx := xx.tr x5
    clear hg5 hl5
    refine stoR b5 fun w6 o6 b5 => ?_
    replace b2 := blkOwn b2 n2x5 o6
    replace b3 := blkOwn b3 n3x5 o6
    replace b4 := blkOwn b4 n4x5 o6
    replace xx := o6.ext xx k5
    refine Bn_neT (.inr (by decide)) (If_T (bdR0 ?_))
    refine stoR b4 fun w7 o7 b4 => ?_
    replace b2 := blkOwn b2 n2x4 o7
    replace b3 := blkOwn b3 n3x4 o7
    replace b5 := blkOwn b5 n4x5.symm o7
    replace xx := o7.ext xx k4
    refine rcR b4 ?_
    exact Ret.mk ⟨xx, rfl⟩
  | some z =>
    obtain ⟨u, hu⟩ : ∃ u, u = Lib.itoa z.num := ⟨_, rfl⟩
    obtain ⟨v, hv⟩ : ∃ v, v = Lib.itoa (z.den : Int) := ⟨_, rfl⟩
    have c : ∀ w : World, Calls Tryz.prog 74 #[.agg #[str a, str b], .agg #[str a', str b']] w (Ret fun r w' => Ext w w' ∧ r = .tuple #[.agg #[str u, str v], .int .i64 0]) := by rw [hu, hv]; exact c
    have e : ov (some z) = .agg #[str u, str v] := by rw [hu, hv]; rfl
    rw [e]
    apply e_ref16_sub
    unfold s_ref16_sub
    refine bxR fun g2 w1 x1 hg2 hl2 b2 => ?_
    have k2 : w.heap.size ≤ g2 := hg2
    have xx := x1
    clear hg2 hl2
    have z2 := b2.lt
    refine bxR fun g3 w2 x2 hg3 hl3 b3 => ?_
    have k3 : w.heap.size ≤ g3 := by have := xx.size; omega
    have n2x3 : g2 ≠ g3 := by omega
    clear z2
    replace b2 := b2.ext x2
    replace xx := xx.tr x2
    clear hg3 hl3
    have z2 := b2.lt
    have z3 := b3.lt
    refine alR fun g4 w3 x3 hg4 hl4 b4 => ?_
    have k4 : w.heap.size ≤ g4 := by have := xx.size; omega
    have n2x4 : g2 ≠ g4 := by omega
    clear z2
    have n3x4 : g3 ≠ g4 := by omega
    clear z3
    replace b2 := b2.ext x3
    replace b3 := b3.ext x3
    replace xx := xx.tr x3
    clear hg4 hl4
    refine ldR b2 (ldR b3 ?_)
    refine Cl2 n_ref04_Sub (c _) fun w4 x4 => ?_
    replace b2 := b2.ext x4
    replace b3 := b3.ext x4
    replace b4 := b4.ext x4
    replace xx := xx.tr x4
    have z2 := b2.lt
    have z3 := b3.lt
    have z4 := b4.lt
    refine alR fun g5 w5 x5 hg5 hl5 b5 => ?_
    have k5 : w.heap.size ≤ g5 := by have := xx.size; omega
    have n2x5 : g2 ≠ g5 := by omega
    clear z2
    have n3x5 : g3 ≠ g5 := by omega
    clear z3
    have n4x5 : g4 ≠ g5 := by omega
    clear z4
    replace b2 := b2.ext x5
    replace b3 := b3.ext x5
    replace b4 := b4.ext x5
    replace xx := xx.tr x5
    clear hg5 hl5
    refine stoR b5 fun w6 o6 b5 => ?_
    replace b2 := blkOwn b2 n2x5 o6
    replace b3 := blkOwn b3 n3x5 o6
    replace b4 := blkOwn b4 n4x5 o6
    replace xx := o6.ext xx k5
    refine Bn_neF rfl (If_F (ldR b5 ?_))
    refine stoR b4 fun w7 o7 b4 => ?_
    replace b2 := blkOwn b2 n2x4 o7
    replace b3 := blkOwn b3 n3x4 o7
    replace b5 := blkOwn b5 n4x5.symm o7
    replace xx := o7.ext xx k4
    refine rcR b4 ?_
    exact Ret.mk ⟨xx, rfl⟩
theorem r_mul {o p : Option Rat} {w : World} (ho : OB o) (hp : OB p) : Calls Tryz.prog 44 #[ov o, ov p] w (Ret fun r w' => Ext w w' ∧ r = ov (oMul o p)) := by
  have c := fun w : World => o_fmul (w := w) ho hp
  obtain ⟨q, hq⟩ : ∃ q, q = oMul o p := ⟨_, rfl⟩
  rw [← hq]
  simp only [← hq] at c
  clear hq
  obtain ⟨a, ha⟩ : ∃ a, a = eN o := ⟨_, rfl⟩
  obtain ⟨b, hb⟩ : ∃ b, b = eD o := ⟨_, rfl⟩
  obtain ⟨a', ha'⟩ : ∃ a, a = eN p := ⟨_, rfl⟩
  obtain ⟨b', hb'⟩ : ∃ b, b = eD p := ⟨_, rfl⟩
  show Calls Tryz.prog 44 #[.agg #[str (eN o), str (eD o)], .agg #[str (eN p), str (eD p)]] w _
  rw [← ha, ← hb, ← ha', ← hb']
  have c : ∀ w : World, Calls Tryz.prog 73 #[.agg #[str a, str b], .agg #[str a', str b']] w (Ret fun r w' => Ext w w' ∧ r = ot q) := by
    intro w; rw [ha, hb, ha', hb']; exact c w
  cases q with
  | none =>
    have c : ∀ w : World, Calls Tryz.prog 73 #[.agg #[str a, str b], .agg #[str a', str b']] w (Ret fun r w' => Ext w w' ∧ r = .tuple #[.agg #[str [], str []], .int .i64 40]) := c
    apply e_ref16_mul
    unfold s_ref16_mul
    refine bxR fun g2 w1 x1 hg2 hl2 b2 => ?_
    have k2 : w.heap.size ≤ g2 := hg2
    have xx := x1
    clear hg2 hl2
    have z2 := b2.lt
    refine bxR fun g3 w2 x2 hg3 hl3 b3 => ?_
    have k3 : w.heap.size ≤ g3 := by have := xx.size; omega
    have n2x3 : g2 ≠ g3 := by omega
    clear z2
    replace b2 := b2.ext x2
    replace xx := xx.tr x2
    clear hg3 hl3
    have z2 := b2.lt
    have z3 := b3.lt
    refine alR fun g4 w3 x3 hg4 hl4 b4 => ?_
    have k4 : w.heap.size ≤ g4 := by have := xx.size; omega
    have n2x4 : g2 ≠ g4 := by omega
    clear z2
    have n3x4 : g3 ≠ g4 := by omega
    clear z3
    replace b2 := b2.ext x3
    replace b3 := b3.ext x3
    replace xx := xx.tr x3
    clear hg4 hl4
    refine ldR b2 (ldR b3 ?_)
    refine Cl2 n_ref04_Mul (c _) fun w4 x4 => ?_
    replace b2 := b2.ext x4
    replace b3 := b3.ext x4
    replace b4 := b4.ext x4
    replace xx := xx.tr x4
    have z2 := b2.lt
    have z3 := b3.lt
    have z4 := b4.lt
    refine alR fun g5 w5 x5 hg5 hl5 b5 => ?_
    have k5 : w.heap.size ≤ g5 := by have := xx.size; omega
    have n2x5 : g2 ≠ g5 := by omega
    clear z2
    have n3x5 : g3 ≠ g5 := by omega
    clear z3
    have n4x5 : g4 ≠ g5 := by omega
    clear z4
    replace b2 := b2.ext x5
    replace b3 := b3.ext x5
    replace b4 := b4.ext x5
    replace xx := xx.tr x5
    clear hg5 hl5
    refine stoR b5 fun w6 o6 b5 => ?_
    replace b2 := blkOwn b2 n2x5 o6
    replace b3 := blkOwn b3 n3x5 o6
    replace b4 := blkOwn b4 n4x5 o6
    replace xx := o6.ext xx k5
    refine Bn_neT (.inr (by decide)) (If_T (bdR0 ?_))
    refine stoR b4 fun w7 o7 b4 => ?_
    replace b2 := blkOwn b2 n2x4 o7
    replace b3 := blkOwn b3 n3x4 o7
    replace b5 := blkOwn b5 n4x5.symm o7
    replace xx := o7.ext xx k4
    refine rcR b4 ?_
    exact Ret.mk ⟨xx, rfl⟩
  | some z =>
    obtain ⟨u, hu⟩ : ∃ u, u = Lib.itoa z.num := ⟨_, rfl⟩
    obtain ⟨v, hv⟩ : ∃ v, v = Lib.itoa (z.den : Int) := ⟨_, rfl⟩
    have c : ∀ w : World, Calls Tryz.prog 73 #[.agg #[str a, str b], .agg #[str a', str b']] w (Ret fun r w' => Ext w w' ∧ r = .tuple #[.agg #[str u, str v], .int .i64 0]) := by rw [hu, hv]; exact c
    have e : ov (some z) = .agg #[str u, str v] := by rw [hu, hv]; rfl
    rw [e]
    apply e_ref16_mul
    unfold s_ref16_mul
    refine bxR fun g2 w1 x1 hg2 hl2 b2 => ?_
    have k2 : w.heap.size ≤ g2 := hg2
    have xx := x1
    clear hg2 hl2
    have z2 := b2.lt
    refine bxR fun g3 w2 x2 hg3 hl3 b3 => ?_
    have k3 : w.heap.size ≤ g3 := by have := xx.size; omega
    have n2x3 : g2 ≠ g3 := by omega
    clear z2
    replace b2 := b2.ext x2
    replace xx := xx.tr x2
    clear hg3 hl3
    have z2 := b2.lt
    have z3 := b3.lt
    refine alR fun g4 w3 x3 hg4 hl4 b4 => ?_
    have k4 : w.heap.size ≤ g4 := by have := xx.size; omega
    have n2x4 : g2 ≠ g4 := by omega
    clear z2
    have n3x4 : g3 ≠ g4 := by omega
    clear z3
    replace b2 := b2.ext x3
    replace b3 := b3.ext x3
    replace xx := xx.tr x3
    clear hg4 hl4
    refine ldR b2 (ldR b3 ?_)
    refine Cl2 n_ref04_Mul (c _) fun w4 x4 => ?_
    replace b2 := b2.ext x4
    replace b3 := b3.ext x4
    replace b4 := b4.ext x4
    replace xx := xx.tr x4
    have z2 := b2.lt
    have z3 := b3.lt
    have z4 := b4.lt
    refine alR fun g5 w5 x5 hg5 hl5 b5 => ?_
    have k5 : w.heap.size ≤ g5 := by have := xx.size; omega
    have n2x5 : g2 ≠ g5 := by omega
    clear z2
    have n3x5 : g3 ≠ g5 := by omega
    clear z3
    have n4x5 : g4 ≠ g5 := by omega
    clear z4
    replace b2 := b2.ext x5
    replace b3 := b3.ext x5
    replace b4 := b4.ext x5
    replace xx := xx.tr x5
    clear hg5 hl5
    refine stoR b5 fun w6 o6 b5 => ?_
    replace b2 := blkOwn b2 n2x5 o6
    replace b3 := blkOwn b3 n3x5 o6
    replace b4 := blkOwn b4 n4x5 o6
    replace xx := o6.ext xx k5
    refine Bn_neF rfl (If_F (ldR b5 ?_))
    refine stoR b4 fun w7 o7 b4 => ?_
    replace b2 := blkOwn b2 n2x4 o7
    replace b3 := blkOwn b3 n3x4 o7
    replace b5 := blkOwn b5 n4x5.symm o7
    replace xx := o7.ext xx k4
    refine rcR b4 ?_
    exact Ret.mk ⟨xx, rfl⟩
theorem r_div {o p : Option Rat} {w : World} (ho : OB o) (hp : OB p) : Calls Tryz.prog 43 #[ov o, ov p] w (Ret fun r w' => Ext w w' ∧ r = ov (oDiv o p)) := by
  have c := fun w : World => o_fdiv (w := w) ho hp
  obtain ⟨q, hq⟩ : ∃ q, q = oDiv o p := ⟨_, rfl⟩
  rw [← hq]
  simp only [← hq] at c
  clear hq
  obtain ⟨a, ha⟩ : ∃ a, a = eN o := ⟨_, rfl⟩
  obtain ⟨b, hb⟩ : ∃ b, b = eD o := ⟨_, rfl⟩
  obtain ⟨a', ha'⟩ : ∃ a, a = eN p := ⟨_, rfl⟩
  obtain ⟨b', hb'⟩ : ∃ b, b = eD p := ⟨_, rfl⟩
  show Calls Tryz.prog 43 #[.agg #[str (eN o), str (eD o)], .agg #[str (eN p), str (eD p)]] w _
  rw [← ha, ← hb, ← ha', ← hb']
  have c : ∀ w : World, Calls Tryz.prog 72 #[.agg #[str a, str b], .agg #[str a', str b']] w (Ret fun r w' => Ext w w' ∧ r = ot q) := by
    intro w; rw [ha, hb, ha', hb']; exact c w
  cases q with
  | none =>
    have c : ∀ w : World, Calls Tryz.prog 72 #[.agg #[str a, str b], .agg #[str a', str b']] w (Ret fun r w' => Ext w w' ∧ r = .tuple #[.agg #[str [], str []], .int .i64 40]) := c
    apply e_ref16_div
    unfold s_ref16_div
    refine bxR fun g2 w1 x1 hg2 hl2 b2 => ?_
    have k2 : w.heap.size ≤ g2 := hg2
    have xx := x1
    clear hg2 hl2
    have z2 := b2.lt
    refine bxR fun g3 w2 x2 hg3 hl3 b3 => ?_
    have k3 : w.heap.size ≤ g3 := by have := xx.size; omega
    have n2x3 : g2 ≠ g3 := by omega
    clear z2
    replace b2 := b2.ext x2
    replace xx := xx.tr x2
    clear hg3 hl3
    have z2 := b2.lt
    have z3 := b3.lt
    refine alR fun g4 w3 x3 hg4 hl4 b4 => ?_
    have k4 : w.heap.size ≤ g4 := by have := xx.size; omega
    have n2x4 : g2 ≠ g4 := by omega
    clear z2
    have n3x4 : g3 ≠ g4 := by omega
    clear z3
    replace b2 := b2.ext x3
    replace b3 := b3.ext x3
    replace xx := xx.tr x3
    clear hg4 hl4
    refine ldR b2 (ldR b3 ?_)
    refine Cl2 n_ref04_Div (c _) fun w4 x4 => ?_
    replace b2 := b2.ext x4
    replace b3 := b3.ext x4
    replace b4 := b4.ext x4
    replace xx := xx.tr x4
    have z2 := b2.lt
    have z3 := b3.lt
    have z4 := b4.lt
    refine alR fun g5 w5 x5 hg5 hl5 b5 => ?_
    have k5 : w.heap.size ≤ g5 := by have := xx.size; omega
    have n2x5 : g2 ≠ g5 := by omega
    clear z2
    have n3x5 : g3 ≠ g5 := by omega
    clear z3
    have n4x5 : g4 ≠ g5 := by omega
    clear z4
    replace b2 := b2.ext x5
    replace b3 := b3.ext x5
    replace b4 := b4.ext x5
    replace xx := xx.tr x5
    clear hg5 hl5
    refine stoR b5 fun w6 o6 b5 => ?_
    replace b2 := blkOwn b2 n2x5 o6
    replace b3 := blkOwn b3 n3x5 o6
    replace b4 := blkOwn b4 n4x5 o6
    replace xx := o6.ext xx k5
    refine Bn_neT (.inr (by decide)) (If_T (bdR0 ?_))
    refine stoR b4 fun w7 o7 b4 => ?_
    replace b2 := blkOwn b2 n2x4 o7
    replace b3 := blkOwn b3 n3x4 o7
    replace b5 := blkOwn b5 n4x5.symm o7
    replace xx := o7.ext xx k4
    refine rcR b4 ?_
    exact Ret.mk ⟨xx, rfl⟩
  | some z =>
    obtain ⟨u, hu⟩ : ∃ u, u = Lib.itoa z.num := ⟨_, rfl⟩
    obtain ⟨v, hv⟩ : ∃ v, v = Lib.itoa (z.den : Int) := ⟨_, rfl⟩
    have c : ∀ w : World, Calls Tryz.prog 72 #[.agg #[str a, str b], .agg #[str a', str b']] w (Ret fun r w' => Ext w w' ∧ r = .tuple #[.agg #[str u, str v], .int .i64 0]) := by rw [hu, hv]; exact c
    have e : ov (some z) = .agg #[str u, str v] := by rw [hu, hv]; rfl
    rw [e]
    apply e_ref16_div
    unfold s_ref16_div
    refine bxR fun g2 w1 x1 hg2 hl2 b2 => ?_
    have k2 : w.heap.size ≤ g2 := hg2
    have xx := x1
    clear hg2 hl2
    have z2 := b2.lt
    refine bxR fun g3 w2 x2 hg3 hl3 b3 => ?_
    have k3 : w.heap.size ≤ g3 := by have := xx.size; omega
    have n2x3 : g2 ≠ g3 := by omega
    clear z2
    replace b2 := b2.ext x2
    replace xx := xx.tr x2
    clear hg3 hl3
    have z2 := b2.lt
    have z3 := b3.lt
    refine alR fun g4 w3 x3 hg4 hl4 b4 => ?_
    have k4 : w.heap.size ≤ g4 := by have := xx.size; omega
    have n2x4 : g2 ≠ g4 := by omega
    clear z2
    have n3x4 : g3 ≠ g4 := by omega
    clear z3
    replace b2 := b2.ext x3
    replace b3 := b3.ext x3
    replace xx := xx.tr x3
    clear hg4 hl4
    refine ldR b2 (ldR b3 ?_)
    refine Cl2 n_ref04_Div (c _) fun w4 x4 => ?_
    replace b2 := b2.ext x4
    replace b3 := b3.ext x4
    replace b4 := b4.ext x4
    replace xx := xx.tr x4
    have z2 := b2.lt
    have z3 := b3.lt
    have z4 := b4.lt
    refine alR fun g5 w5 x5 hg5 hl5 b5 => ?_
    have k5 : w.heap.size ≤ g5 := by have := xx.size; omega
    have n2x5 : g2 ≠ g5 := by omega
    clear z2
    have n3x5 : g3 ≠ g5 := by omega
    clear z3
    have n4x5 : g4 ≠ g5 := by omega
    clear z4
    replace b2 := b2.ext x5
    replace b3 := b3.ext x5
    replace b4 := b4.ext x5
    replace xx := xx.tr x5
    clear hg5 hl5
    refine stoR b5 fun w6 o6 b5 => ?_
    replace b2 := blkOwn b2 n2x5 o6
    replace b3 := blkOwn b3 n3x5 o6
    replace b4 := blkOwn b4 n4x5 o6
    replace xx := o6.ext xx k5
    refine Bn_neF rfl (If_F (ldR b5 ?_))
    refine stoR b4 fun w7 o7 b4 => ?_
    replace b2 := blkOwn b2 n2x4 o7
    replace b3 := blkOwn b3 n3x4 o7
    replace b5 := blkOwn b5 n4x5.symm o7
    replace xx := o7.ext xx k4
    refine rcR b4 ?_
    exact Ret.mk ⟨xx, rfl⟩
theorem r_whole {n : Int} {w : World} (h0 : -1000 ≤ n) (h1 : n ≤ 1000) : Calls Tryz.prog 41 #[.int .i64 n] w (Ret fun r w' => Ext w w' ∧ r = ov (some (n : Rat))) := by
  have c := fun w : World => c_fOf (w := w) (x := n) (y := 1) (by omega) (by omega) (by omega) (by omega)
  have e1 : makeQ n 1 = rQ (n : Rat) := by
    unfold makeQ; rw [if_neg (by decide)]
    have : (n : Rat) / ((1 : Int) : Rat) = (n : Rat) := by grind
    rw [this]
  simp only [e1] at c
  obtain ⟨u, hu⟩ : ∃ u, u = Lib.itoa (n : Rat).num := ⟨_, rfl⟩
  obtain ⟨v, hv⟩ : ∃ v, v = Lib.itoa (((n : Rat).den : Nat) : Int) := ⟨_, rfl⟩
  have c : ∀ w : World, Calls Tryz.prog 30 #[.int .i64 n, .int .i64 1] w (Ret fun r w' => Ext w w' ∧ r = .tuple #[.agg #[str u, str v], .int .i64 0]) := by rw [hu, hv]; exact c
  have e : ov (some (n : Rat)) = .agg #[str u, str v] := by rw [hu, hv]; rfl
  rw [e]
  apply e_ref16_whole
  unfold s_ref16_whole
  refine alR fun g2 w1 x1 hg2 hl2 b2 => ?_
  have k2 : w.heap.size ≤ g2 := hg2
  have xx := x1
  clear hg2 hl2
  refine Cl2 n_ref04_Of (c _) fun w2 x2 => ?_
  replace b2 := b2.ext x2
  replace xx := xx.tr x2
  have z2 := b2.lt
  refine alR fun g3 w3 x3 hg3 hl3 b3 => ?_
  have k3 : w.heap.size ≤ g3 := by have := xx.size; omega
  have n2x3 : g2 ≠ g3 := by omega
  clear z2
  replace b2 := b2.ext x3
  replace xx := xx.tr x3
  clear hg3 hl3
  refine stoR b3 fun w4 o4 b3 => ?_
  replace b2 := blkOwn b2 n2x3 o4
  replace xx := o4.ext xx k3
  refine Bn_neF rfl (If_F (ldR b3 ?_))
  refine stoR b2 fun w5 o5 b2 => ?_
  replace b3 := blkOwn b3 n2x3.symm o5
  replace xx := o5.ext xx k2
  refine rcR b2 ?_
  exact Ret.mk ⟨xx, rfl⟩
end Go.Proofs.YtnocjgmmglmfiaaGreatDoor
