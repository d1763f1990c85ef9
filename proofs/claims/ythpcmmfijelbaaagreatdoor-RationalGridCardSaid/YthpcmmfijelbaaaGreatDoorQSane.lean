/-
  Contracts of functions of the program, and plain lemmas on numbers and strings. By an AI agent.
-/
import Derived.Test.YthpcmmfijelbaaaGreatDoorQFnC
set_option linter.unusedSimpArgs false
set_option linter.unusedVariables false
set_option linter.unusedSectionVars false
namespace Go.Proofs.YthpcmmfijelbaaaGreatDoor
open Go Go.Eng Go.Proofs Go.Num Go.RowKit
set_option maxRecDepth 100000
set_option linter.unusedVariables false
set_option linter.unusedSectionVars false
structure Lf (x : Rat) (n d : List UInt8) : Prop where
  n : Lib.itoa x.num = n
  d : Lib.itoa (x.den : Int) = d
  s : SR 10 10 x
theorem Lf.rb {x : Rat} {n d : List UInt8} (h : Lf x n d) : RB x := h.s.rb (by decide) (by decide)
theorem Lf.ok {x : Rat} {n d : List UInt8} (h : Lf x n d) : okR n d := by rw [← h.n, ← h.d]; exact okR_q.2 h.rb
theorem Lf.rq {x : Rat} {n d : List UInt8} (h : Lf x n d) : rQ x = (n, d, 0) := by unfold rQ; rw [h.n, h.d]
theorem Lf.ans2 {x y : Rat} {n d m c : List UInt8} (h : Lf x n d) (k : Lf y m c) {α : Type} {f : Rat → Rat → α} {u : α} : ans2 f u n d m c = f x y := by
  rw [← h.n, ← h.d, ← k.n, ← k.d]; exact ans2_ok h.rb k.rb
theorem Lf.ans1 {x : Rat} {n d : List UInt8} (h : Lf x n d) {α : Type} {f : Rat → α} {u : α} : ans1 f u n d = f x := h.ans2 h
theorem Lf.mk' {p q : Int} {n d : List UInt8} (hq : 0 < q) (hg : Int.gcd p q = 1) (hp : p.natAbs < 10 ^ 10) (hq' : q.natAbs < 10 ^ 10) (hn : Lib.itoa p = n) (hd : Lib.itoa q = d) : Lf ((p : Rat) / (q : Rat)) n d := by
  have hF : Fr p q := ⟨Sz.max (k := 10) hp (by decide), hq, Sz.max (k := 10) hq' (by decide), hg⟩
  obtain ⟨e1, e2⟩ := hF.rat
  exact ⟨by rw [e1]; exact hn, by rw [e2]; exact hd, ⟨by rw [e1]; exact hp, by rw [e2]; exact hq'⟩⟩
theorem Lf.len {x : Rat} {n d : List UInt8} (h : Lf x n d) : n.length ≤ 1000000 ∧ d.length ≤ 1000000 := by
  rw [← h.n, ← h.d]; exact ⟨itoa_ok h.rb.n, itoa_ok h.rb.d⟩
theorem hm32 : Lf (((-3 : Int) : Rat) / ((2 : Int) : Rat)) [45, 51] [50] := .mk' (by decide) (by decide) (by decide) (by decide) (lit_neg (l := [51]) (-3) (by decide) (by decide) (by decide)) (lit_pos (l := [50]) (2) (by decide) (by decide))
theorem h12 : Lf (((1 : Int) : Rat) / ((2 : Int) : Rat)) [49] [50] := .mk' (by decide) (by decide) (by decide) (by decide) (lit_pos (l := [49]) (1) (by decide) (by decide)) (lit_pos (l := [50]) (2) (by decide) (by decide))
theorem h13 : Lf (((1 : Int) : Rat) / ((3 : Int) : Rat)) [49] [51] := .mk' (by decide) (by decide) (by decide) (by decide) (lit_pos (l := [49]) (1) (by decide) (by decide)) (lit_pos (l := [51]) (3) (by decide) (by decide))
theorem h56 : Lf (((5 : Int) : Rat) / ((6 : Int) : Rat)) [53] [54] := .mk' (by decide) (by decide) (by decide) (by decide) (lit_pos (l := [53]) (5) (by decide) (by decide)) (lit_pos (l := [54]) (6) (by decide) (by decide))
theorem hm14 : Lf (((-1 : Int) : Rat) / ((4 : Int) : Rat)) [45, 49] [52] := .mk' (by decide) (by decide) (by decide) (by decide) (lit_neg (l := [49]) (-1) (by decide) (by decide) (by decide)) (lit_pos (l := [52]) (4) (by decide) (by decide))
theorem hm2 : Lf (((-2 : Int) : Rat) / ((1 : Int) : Rat)) [45, 50] [49] := .mk' (by decide) (by decide) (by decide) (by decide) (lit_neg (l := [50]) (-2) (by decide) (by decide) (by decide)) (lit_pos (l := [49]) (1) (by decide) (by decide))
theorem h11 : Lf (((1 : Int) : Rat) / ((1 : Int) : Rat)) [49] [49] := .mk' (by decide) (by decide) (by decide) (by decide) (lit_pos (l := [49]) (1) (by decide) (by decide)) (lit_pos (l := [49]) (1) (by decide) (by decide))
theorem hm13 : Lf (((-1 : Int) : Rat) / ((3 : Int) : Rat)) [45, 49] [51] := .mk' (by decide) (by decide) (by decide) (by decide) (lit_neg (l := [49]) (-1) (by decide) (by decide) (by decide)) (lit_pos (l := [51]) (3) (by decide) (by decide))
theorem hm1750 : Lf (((-17 : Int) : Rat) / ((50 : Int) : Rat)) [45, 49, 55] [53, 48] := .mk' (by decide) (by decide) (by decide) (by decide) (lit_neg (l := [49, 55]) (-17) (by decide) (by decide) (by decide)) (lit_pos (l := [53, 48]) (50) (by decide) (by decide))
theorem h1750 : Lf (((17 : Int) : Rat) / ((50 : Int) : Rat)) [49, 55] [53, 48] := .mk' (by decide) (by decide) (by decide) (by decide) (lit_pos (l := [49, 55]) (17) (by decide) (by decide)) (lit_pos (l := [53, 48]) (50) (by decide) (by decide))
theorem h33 : Lf (((33333 : Int) : Rat) / ((100000 : Int) : Rat)) [51, 51, 51, 51, 51] [49, 48, 48, 48, 48, 48] := .mk' (by decide) (by decide) (by decide) (by decide) (lit_pos (l := [51, 51, 51, 51, 51]) (33333) (by decide) (by decide)) (lit_pos (l := [49, 48, 48, 48, 48, 48]) (100000) (by decide) (by decide))
theorem h01 : Lf (((0 : Int) : Rat) / ((1 : Int) : Rat)) [48] [49] := .mk' (by decide) (by decide) (by decide) (by decide) (lit_pos (l := [48]) (0) (by decide) (by decide)) (lit_pos (l := [49]) (1) (by decide) (by decide))
theorem s_of1 {w : World} (hT : Tab w) : Calls Tryz.prog 41 #[.int .i64 (6), .int .i64 (-4)] w (Ret fun r w' => Ext w w' ∧ r = .tuple #[.agg #[str [45, 51], str [50]], .int .i64 0]) := by
  have e : makeQ (6) (-4) = rQ (((-3 : Int) : Rat) / ((2 : Int) : Rat)) := by unfold makeQ; rw [if_neg (by decide)]; exact congrArg rQ (cross_rat (by decide) (by decide) (by decide))
  have := c_Of (w := w) hT (x := 6) (y := -4) (by decide) (by decide) (by decide) (by decide)
  rw [e, hm32.rq] at this
  exact this
theorem s_of2 {w : World} (hT : Tab w) : Calls Tryz.prog 41 #[.int .i64 (0), .int .i64 (-5)] w (Ret fun r w' => Ext w w' ∧ r = .tuple #[.agg #[str [48], str [49]], .int .i64 0]) := by
  have e : makeQ (0) (-5) = rQ (((0 : Int) : Rat) / ((1 : Int) : Rat)) := by unfold makeQ; rw [if_neg (by decide)]; exact congrArg rQ (cross_rat (by decide) (by decide) (by decide))
  have := c_Of (w := w) hT (x := 0) (y := -5) (by decide) (by decide) (by decide) (by decide)
  rw [e, h01.rq] at this
  exact this
theorem s_of3 {w : World} (hT : Tab w) : Calls Tryz.prog 41 #[.int .i64 1, .int .i64 0] w (Ret fun r w' => Ext w w' ∧ r = .tuple #[.agg #[str [], str []], .int .i64 40]) := c_Of hT (by decide) (by decide) (by decide) (by decide)
theorem s_add {w : World} (hT : Tab w) : Calls Tryz.prog 27 #[.agg #[str [49], str [50]], .agg #[str [49], str [51]]] w (Ret fun r w' => Ext w w' ∧ r = .tuple #[.agg #[str [53], str [54]], .int .i64 0]) := by
  have := c_qAdd (w := w) h12.len.1 h12.len.2 h13.len.1 h13.len.2 hT
  rw [h12.ans2 h13, qadd_ok h12.s h13.s (k := 20) (by decide) (by decide) (by decide) (by decide), show (((1 : Int) : Rat) / ((2 : Int) : Rat) + ((1 : Int) : Rat) / ((3 : Int) : Rat) : Rat) = ((5 : Int) : Rat) / ((6 : Int) : Rat) by decide +kernel, h56.rq] at this
  exact this
theorem s_div {w : World} (hT : Tab w) : Calls Tryz.prog 26 #[.agg #[str [49], str [50]], .agg #[str [45, 49], str [52]]] w (Ret fun r w' => Ext w w' ∧ r = .tuple #[.agg #[str [45, 50], str [49]], .int .i64 0]) := by
  have := c_qDiv (w := w) h12.len.1 h12.len.2 hm14.len.1 hm14.len.2 hT
  rw [h12.ans2 hm14, qdiv_ok h12.s hm14.s (by decide +kernel) (by decide) (by decide), show (((1 : Int) : Rat) / ((2 : Int) : Rat) / (((-1 : Int) : Rat) / ((4 : Int) : Rat)) : Rat) = ((-2 : Int) : Rat) / ((1 : Int) : Rat) by decide +kernel, hm2.rq] at this
  exact this
theorem s_div0 {w : World} (hT : Tab w) : Calls Tryz.prog 26 #[.agg #[str [49], str [49]], .agg #[str [48], str [49]]] w (Ret fun r w' => Ext w w' ∧ r = .tuple #[.agg #[str [], str []], .int .i64 40]) := by
  have := c_qDiv (w := w) h11.len.1 h11.len.2 h01.len.1 h01.len.2 hT
  rw [h11.ans2 h01, show divQ (((1 : Int) : Rat) / ((1 : Int) : Rat)) (((0 : Int) : Rat) / ((1 : Int) : Rat)) = rBad by unfold divQ; rw [if_neg (fun h => h.2 (by decide +kernel))]] at this
  exact this
theorem s_down_q : gridQ false 2 (((-1 : Int) : Rat) / ((3 : Int) : Rat)) = ([45, 49, 55], [53, 48], 0) := by
  have e : gridN false (((-1 : Int) : Rat) / ((3 : Int) : Rat)) 2 = -34 := by decide +kernel
  unfold gridQ
  rw [if_pos ⟨⟨by decide, by decide⟩, Sz.max (k := 20) (by unfold Sz; decide +kernel) (by decide), by rw [e]; exact small_MaxI (by decide)⟩, e]
  rw [show (((-34 : Int) : Rat) / ((ten 2 : Int) : Rat)) = ((-17 : Int) : Rat) / ((50 : Int) : Rat) by decide +kernel, hm1750.rq]
theorem s_down {w : World} (hT : Tab w) : Calls Tryz.prog 35 #[.agg #[str [45, 49], str [51]], .int .i64 2] w (Ret fun r w' => Ext w w' ∧ r = .tuple #[.agg #[str [45, 49, 55], str [53, 48]], .int .i64 0]) := by
  have := c_qDown (w := w) (k := 2) hm13.len.1 hm13.len.2 hT
  rw [hm13.ans1, s_down_q] at this
  exact this
theorem s_up_q : gridQ true 2 (((1 : Int) : Rat) / ((3 : Int) : Rat)) = ([49, 55], [53, 48], 0) := by
  have e : gridN true (((1 : Int) : Rat) / ((3 : Int) : Rat)) 2 = 34 := by decide +kernel
  unfold gridQ
  rw [if_pos ⟨⟨by decide, by decide⟩, Sz.max (k := 20) (by unfold Sz; decide +kernel) (by decide), by rw [e]; exact small_MaxI (by decide)⟩, e]
  rw [show (((34 : Int) : Rat) / ((ten 2 : Int) : Rat)) = ((17 : Int) : Rat) / ((50 : Int) : Rat) by decide +kernel, h1750.rq]
theorem s_up {w : World} (hT : Tab w) : Calls Tryz.prog 37 #[.agg #[str [49], str [51]], .int .i64 2] w (Ret fun r w' => Ext w w' ∧ r = .tuple #[.agg #[str [49, 55], str [53, 48]], .int .i64 0]) := by
  have := c_qUp (w := w) (k := 2) h13.len.1 h13.len.2 hT
  rw [h13.ans1, s_up_q] at this
  exact this
theorem s_parse1 {w : World} (hT : Tab w) (hM : MaxV w) : Calls Tryz.prog 15 #[str [45, 51, 47, 50]] w (Ret fun r w' => Ext w w' ∧ r = .tuple #[.agg #[str [45, 51], str [50]], .int .i64 0]) := by
  have := c_Parse (w := w) (s := [45, 51, 47, 50]) (by decide) hT hM
  have e : printS [45, 51] [50] = [45, 51, 47, 50] := by rw [printS_ok hm32.ok, if_neg (by decide)]; rfl
  have p := parse_print hm32.ok
  rw [e] at p
  rw [p] at this
  exact this
theorem s_parse2 {w : World} (hT : Tab w) (hM : MaxV w) : Calls Tryz.prog 15 #[str [54, 47, 52]] w (Ret fun r w' => Ext w w' ∧ r = .tuple #[.agg #[str [], str []], .int .i64 40]) := by
  have := c_Parse (w := w) (s := [54, 47, 52]) (by decide) hT hM
  have hno : ¬ okR [54] [52] := by
    have h := okR_z (p := 6) (q := 4) (small_MaxI (by decide)) (small_MaxI (by decide))
    rw [l6, l4] at h
    exact fun hc => absurd (h.1 hc).2 (by decide)
  have p : parseS [54, 47, 52] = rBad := by
    unfold parseS
    rw [show numS [54, 47, 52] = [54] from rfl, show denS [54, 47, 52] = [52] from rfl, printS_bad hno]
    rw [if_neg (fun h => absurd h.1 (by decide))]
  rw [p] at this
  exact this
theorem s_print {w : World} (hT : Tab w) : Calls Tryz.prog 14 #[.agg #[str [45, 51], str [50]]] w (Ret fun r w' => Ext w w' ∧ r = str [45, 51, 47, 50]) := by
  have := c_Print (w := w) hm32.len.1 hm32.len.2 hT
  rw [show printS [45, 51] [50] = [45, 51, 47, 50] by rw [printS_ok hm32.ok, if_neg (by decide)]; rfl] at this
  exact this
theorem s_cmp {w : World} (hT : Tab w) : Calls Tryz.prog 23 #[.agg #[str [49], str [51]], .agg #[str [51, 51, 51, 51, 51], str [49, 48, 48, 48, 48, 48]]] w (Ret fun r w' => Ext w w' ∧ r = .int .i64 1) := by
  have := c_qCmp (w := w) h13.len.1 h13.len.2 h33.len.1 h33.len.2 hT
  rw [h13.ans2 h33, cmpQ_gt (by decide +kernel)] at this
  exact this
theorem s_val1 {w : World} (hT : Tab w) : Calls Tryz.prog 17 #[.agg #[str [45, 51], str [50]]] w (Ret fun r w' => Ext w w' ∧ r = .bool true) := by
  have := c_qValid (w := w) hm32.len.1 hm32.len.2 hT
  rw [okB_t hm32.ok] at this
  exact this
theorem s_val2 {w : World} (hT : Tab w) : Calls Tryz.prog 17 #[.agg #[str [], str []]] w (Ret fun r w' => Ext w w' ∧ r = .bool false) := by
  have := c_qValid (w := w) (n := []) (d := []) (by decide) (by decide) hT
  rw [okB_f (fun h => absurd (okR_valid h).1 (by decide))] at this
  exact this
theorem c_sane {w : World} (hT : Tab w) (hM : MaxV w) : Calls Tryz.prog 11 #[] w (Ret fun r w' => Ext w w' ∧ r = .bool true) := by
  apply e_law04_sane
  unfold s_law04_sane
  refine Cl2 n_rational_Of (s_of1 hT) fun w1 x1 => ?_
  have xx := x1
  refine alR fun g1 w2 x2 hg1 hl1 b1 => ?_
  have k1 : w.heap.size ≤ g1 := by have := xx.size; omega
  replace xx := xx.tr x2
  refine stoR b1 fun w3 o3 b1 => ?_
  replace xx := o3.ext xx k1
  have z1 := b1.lt
  refine Cl2 n_rational_Of (s_of2 (hT.ext xx)) fun w4 x4 => ?_
  replace b1 := b1.ext x4
  replace xx := xx.tr x4
  replace z1 := b1.lt
  refine alR fun g3 w5 x5 hg3 hl3 b3 => ?_
  replace b1 := b1.ext x5
  have k3 : w.heap.size ≤ g3 := by have := xx.size; omega
  replace xx := xx.tr x5
  refine stoR b3 fun w6 o6 b3 => ?_
  replace b1 := blkOwn b1 (show g1 ≠ g3 by omega) o6
  replace xx := o6.ext xx k3
  have z3 := b3.lt
  refine Cl2 n_rational_Of (s_of3 (hT.ext xx)) fun w7 x7 => ?_
  replace b1 := b1.ext x7
  replace b3 := b3.ext x7
  replace xx := xx.tr x7
  replace z1 := b1.lt
  replace z3 := b3.lt
  refine alR fun g5 w8 x8 hg5 hl5 b5 => ?_
  replace b1 := b1.ext x8
  replace b3 := b3.ext x8
  have k5 : w.heap.size ≤ g5 := by have := xx.size; omega
  replace xx := xx.tr x8
  refine stoR b5 fun w9 o9 b5 => ?_
  replace b1 := blkOwn b1 (show g1 ≠ g5 by omega) o9
  replace b3 := blkOwn b3 (show g3 ≠ g5 by omega) o9
  replace xx := o9.ext xx k5
  refine Cl1 n_law04_is c_is fun w10 x10 => ?_
  replace b1 := b1.ext x10
  replace b3 := b3.ext x10
  replace xx := xx.tr x10
  refine Cl1 n_law04_is c_is fun w11 x11 => ?_
  replace b1 := b1.ext x11
  replace b3 := b3.ext x11
  replace xx := xx.tr x11
  refine Cl2 n_rational_Add (s_add (hT.ext xx)) fun w12 x12 => ?_
  replace b1 := b1.ext x12
  replace b3 := b3.ext x12
  replace xx := xx.tr x12
  replace z1 := b1.lt
  replace z3 := b3.lt
  refine alR fun g7 w13 x13 hg7 hl7 b7 => ?_
  replace b1 := b1.ext x13
  replace b3 := b3.ext x13
  have k7 : w.heap.size ≤ g7 := by have := xx.size; omega
  replace xx := xx.tr x13
  refine stoR b7 fun w14 o14 b7 => ?_
  replace b1 := blkOwn b1 (show g1 ≠ g7 by omega) o14
  replace b3 := blkOwn b3 (show g3 ≠ g7 by omega) o14
  replace xx := o14.ext xx k7
  have z7 := b7.lt
  refine Cl1 n_law04_is c_is fun w15 x15 => ?_
  replace b1 := b1.ext x15
  replace b3 := b3.ext x15
  replace b7 := b7.ext x15
  replace xx := xx.tr x15
  refine Cl1 n_law04_is c_is fun w16 x16 => ?_
  replace b1 := b1.ext x16
  replace b3 := b3.ext x16
  replace b7 := b7.ext x16
  replace xx := xx.tr x16
  refine Cl2 n_rational_Div (s_div (hT.ext xx)) fun w17 x17 => ?_
  replace b1 := b1.ext x17
  replace b3 := b3.ext x17
  replace b7 := b7.ext x17
  replace xx := xx.tr x17
  replace z1 := b1.lt
  replace z3 := b3.lt
  replace z7 := b7.lt
  refine alR fun g9 w18 x18 hg9 hl9 b9 => ?_
  replace b1 := b1.ext x18
  replace b3 := b3.ext x18
  replace b7 := b7.ext x18
  have k9 : w.heap.size ≤ g9 := by have := xx.size; omega
  replace xx := xx.tr x18
  refine stoR b9 fun w19 o19 b9 => ?_
  replace b1 := blkOwn b1 (show g1 ≠ g9 by omega) o19
  replace b3 := blkOwn b3 (show g3 ≠ g9 by omega) o19
  replace b7 := blkOwn b7 (show g7 ≠ g9 by omega) o19
  replace xx := o19.ext xx k9
  have z9 := b9.lt
  refine Jn1.mk ?_
  intro K hK
  have tail : ∀ W, Ext w W → Blk W g1 tR [str [45, 51], str [50]] → Blk W g3 tR [str [48], str [49]] → Blk W g7 tR [str [53], str [54]] → Blk W g9 tR [str [45, 50], str [49]] → K (.int .i64 40) W := by
    intro W xx b1 b3 b7 b9
    refine hK _ W ?_
    have z1 := b1.lt
    have z3 := b3.lt
    have z7 := b7.lt
    have z9 := b9.lt
    refine Cl1 n_law04_is c_is fun w20 x20 => ?_
    replace b1 := b1.ext x20
    replace b3 := b3.ext x20
    replace b7 := b7.ext x20
    replace b9 := b9.ext x20
    replace xx := xx.tr x20
    refine Cl2 n_rational_Down (s_down (hT.ext xx)) fun w21 x21 => ?_
    replace b1 := b1.ext x21
    replace b3 := b3.ext x21
    replace b7 := b7.ext x21
    replace b9 := b9.ext x21
    replace xx := xx.tr x21
    replace z1 := b1.lt
    replace z3 := b3.lt
    replace z7 := b7.lt
    replace z9 := b9.lt
    refine alR fun g13 w22 x22 hg13 hl13 b13 => ?_
    replace b1 := b1.ext x22
    replace b3 := b3.ext x22
    replace b7 := b7.ext x22
    replace b9 := b9.ext x22
    have k13 : w.heap.size ≤ g13 := by have := xx.size; omega
    replace xx := xx.tr x22
    refine stoR b13 fun w23 o23 b13 => ?_
    replace b1 := blkOwn b1 (show g1 ≠ g13 by omega) o23
    replace b3 := blkOwn b3 (show g3 ≠ g13 by omega) o23
    replace b7 := blkOwn b7 (show g7 ≠ g13 by omega) o23
    replace b9 := blkOwn b9 (show g9 ≠ g13 by omega) o23
    replace xx := o23.ext xx k13
    have z13 := b13.lt
    refine Cl1 n_law04_is c_is fun w24 x24 => ?_
    replace b1 := b1.ext x24
    replace b3 := b3.ext x24
    replace b7 := b7.ext x24
    replace b9 := b9.ext x24
    replace b13 := b13.ext x24
    replace xx := xx.tr x24
    refine Cl2 n_rational_Up (s_up (hT.ext xx)) fun w25 x25 => ?_
    replace b1 := b1.ext x25
    replace b3 := b3.ext x25
    replace b7 := b7.ext x25
    replace b9 := b9.ext x25
    replace b13 := b13.ext x25
    replace xx := xx.tr x25
    replace z1 := b1.lt
    replace z3 := b3.lt
    replace z7 := b7.lt
    replace z9 := b9.lt
    replace z13 := b13.lt
    refine alR fun g15 w26 x26 hg15 hl15 b15 => ?_
    replace b1 := b1.ext x26
    replace b3 := b3.ext x26
    replace b7 := b7.ext x26
    replace b9 := b9.ext x26
    replace b13 := b13.ext x26
    have k15 : w.heap.size ≤ g15 := by have := xx.size; omega
    replace xx := xx.tr x26
    refine stoR b15 fun w27 o27 b15 => ?_
    replace b1 := blkOwn b1 (show g1 ≠ g15 by omega) o27
    replace b3 := blkOwn b3 (show g3 ≠ g15 by omega) o27
    replace b7 := blkOwn b7 (show g7 ≠ g15 by omega) o27
    replace b9 := blkOwn b9 (show g9 ≠ g15 by omega) o27
    replace b13 := blkOwn b13 (show g13 ≠ g15 by omega) o27
    replace xx := o27.ext xx k15
    have z15 := b15.lt
    refine Cl2 n_rational_Parse (s_parse1 (hT.ext xx) (hM.ext xx)) fun w28 x28 => ?_
    replace b1 := b1.ext x28
    replace b3 := b3.ext x28
    replace b7 := b7.ext x28
    replace b9 := b9.ext x28
    replace b13 := b13.ext x28
    replace b15 := b15.ext x28
    replace xx := xx.tr x28
    replace z1 := b1.lt
    replace z3 := b3.lt
    replace z7 := b7.lt
    replace z9 := b9.lt
    replace z13 := b13.lt
    replace z15 := b15.lt
    refine alR fun g17 w29 x29 hg17 hl17 b17 => ?_
    replace b1 := b1.ext x29
    replace b3 := b3.ext x29
    replace b7 := b7.ext x29
    replace b9 := b9.ext x29
    replace b13 := b13.ext x29
    replace b15 := b15.ext x29
    have k17 : w.heap.size ≤ g17 := by have := xx.size; omega
    replace xx := xx.tr x29
    refine stoR b17 fun w30 o30 b17 => ?_
    replace b1 := blkOwn b1 (show g1 ≠ g17 by omega) o30
    replace b3 := blkOwn b3 (show g3 ≠ g17 by omega) o30
    replace b7 := blkOwn b7 (show g7 ≠ g17 by omega) o30
    replace b9 := blkOwn b9 (show g9 ≠ g17 by omega) o30
    replace b13 := blkOwn b13 (show g13 ≠ g17 by omega) o30
    replace b15 := blkOwn b15 (show g15 ≠ g17 by omega) o30
    replace xx := o30.ext xx k17
    have z17 := b17.lt
    refine Cl2 n_rational_Parse (s_parse2 (hT.ext xx) (hM.ext xx)) fun w31 x31 => ?_
    replace b1 := b1.ext x31
    replace b3 := b3.ext x31
    replace b7 := b7.ext x31
    replace b9 := b9.ext x31
    replace b13 := b13.ext x31
    replace b15 := b15.ext x31
    replace b17 := b17.ext x31
    replace xx := xx.tr x31
    replace z1 := b1.lt
    replace z3 := b3.lt
    replace z7 := b7.lt
    replace z9 := b9.lt
    replace z13 := b13.lt
    replace z15 := b15.lt
    replace z17 := b17.lt
    refine alR fun g19 w32 x32 hg19 hl19 b19 => ?_
    replace b1 := b1.ext x32
    replace b3 := b3.ext x32
    replace b7 := b7.ext x32
    replace b9 := b9.ext x32
    replace b13 := b13.ext x32
    replace b15 := b15.ext x32
    replace b17 := b17.ext x32
    have k19 : w.heap.size ≤ g19 := by have := xx.size; omega
    replace xx := xx.tr x32
    refine stoR b19 fun w33 o33 b19 => ?_
    replace b1 := blkOwn b1 (show g1 ≠ g19 by omega) o33
    replace b3 := blkOwn b3 (show g3 ≠ g19 by omega) o33
    replace b7 := blkOwn b7 (show g7 ≠ g19 by omega) o33
    replace b9 := blkOwn b9 (show g9 ≠ g19 by omega) o33
    replace b13 := blkOwn b13 (show g13 ≠ g19 by omega) o33
    replace b15 := blkOwn b15 (show g15 ≠ g19 by omega) o33
    replace b17 := blkOwn b17 (show g17 ≠ g19 by omega) o33
    replace xx := o33.ext xx k19
    clear z1
    clear z3
    clear z7
    clear z9
    clear z13
    clear z15
    clear z17
    (((with_reducible refine Bn_eqT ?_ ?_); focus omega); (with_reducible refine Gd_T ?_); (with_reducible refine Gd_T ?_); ((with_reducible refine Bn_eqT ?_ ?_); focus omega); (with_reducible refine Pick_T ?_); (with_reducible refine Gd_T ?_); (with_reducible refine Gd_T ?_); ((with_reducible refine Bn_eqT ?_ ?_); focus omega); (with_reducible refine Pick_T ?_); (with_reducible refine Gd_T ?_); (with_reducible refine Gd_T ?_); ((with_reducible refine Bn_eqT ?_ ?_); focus omega); (with_reducible refine Pick_T ?_); (with_reducible refine Gd_T ?_); (with_reducible refine Gd_T ?_); ((with_reducible refine Bn_eqT ?_ ?_); focus omega); (with_reducible refine Pick_T ?_); (with_reducible refine Gd_T ?_); (with_reducible refine Gd_T ?_); ((with_reducible refine Bn_eqT ?_ ?_); focus omega); (with_reducible refine Pick_T ?_); (with_reducible refine Gd_T ?_); (with_reducible refine Gd_T ?_); ((with_reducible refine Bn_eqT ?_ ?_); focus omega); (with_reducible refine Pick_T ?_); (with_reducible refine Gd_T ?_); (with_reducible refine Gd_T ?_); ((with_reducible refine Bn_eqT ?_ ?_); focus omega); (with_reducible refine Pick_T ?_); (with_reducible refine Gd_T ?_); (with_reducible refine Gd_T ?_); ((with_reducible refine Bn_eqT ?_ ?_); focus omega); (with_reducible refine Pick_T ?_); (with_reducible refine Gd_T ?_); (with_reducible refine Gd_T ?_); ((with_reducible refine Bn_eqT ?_ ?_); focus omega); (with_reducible refine Pick_T ?_))
    refine GdP_T ?_
    refine dR2x0 (w := w33.drew) b1 ?_
    refine Gd_T ?_
    refine Cl1 n_law04_is c_is fun w34 x34 => ?_
    replace x34 : Ext w33 w34 := (Ext.refl w33).dr.tr x34
    replace b1 := b1.ext x34
    replace b3 := b3.ext x34
    replace b7 := b7.ext x34
    replace b9 := b9.ext x34
    replace b13 := b13.ext x34
    replace b15 := b15.ext x34
    replace b17 := b17.ext x34
    replace xx := xx.tr x34
    refine Kg_T ?_
    refine kR2x0 b1 ?_
    refine GdP_T ?_
    refine dqEqT (same2 _ _) ?_
    refine PickP_T ?_
    refine GdP_T ?_
    refine dR2x0 (w := w34) b3 ?_
    refine Gd_T ?_
    refine Cl1 n_law04_is c_is fun w35 x35 => ?_
    replace b1 := b1.ext x35
    replace b3 := b3.ext x35
    replace b7 := b7.ext x35
    replace b9 := b9.ext x35
    replace b13 := b13.ext x35
    replace b15 := b15.ext x35
    replace b17 := b17.ext x35
    replace xx := xx.tr x35
    refine Kg_T ?_
    refine kR2x0 b3 ?_
    refine GdP_T ?_
    refine dqEqT (same2 _ _) ?_
    refine PickP_T ?_
    refine GdP_T ?_
    refine dR2x0 (w := w35) b7 ?_
    refine Gd_T ?_
    refine Cl1 n_law04_is c_is fun w36 x36 => ?_
    replace b1 := b1.ext x36
    replace b3 := b3.ext x36
    replace b7 := b7.ext x36
    replace b9 := b9.ext x36
    replace b13 := b13.ext x36
    replace b15 := b15.ext x36
    replace b17 := b17.ext x36
    replace xx := xx.tr x36
    refine Kg_T ?_
    refine kR2x0 b7 ?_
    refine GdP_T ?_
    refine dqEqT (same2 _ _) ?_
    refine PickP_T ?_
    refine GdP_T ?_
    refine dR2x0 (w := w36) b9 ?_
    refine Gd_T ?_
    refine Cl1 n_law04_is c_is fun w37 x37 => ?_
    replace b1 := b1.ext x37
    replace b3 := b3.ext x37
    replace b7 := b7.ext x37
    replace b9 := b9.ext x37
    replace b13 := b13.ext x37
    replace b15 := b15.ext x37
    replace b17 := b17.ext x37
    replace xx := xx.tr x37
    refine Kg_T ?_
    refine kR2x0 b9 ?_
    refine GdP_T ?_
    refine dqEqT (same2 _ _) ?_
    refine PickP_T ?_
    refine GdP_T ?_
    refine dR2x0 (w := w37) b13 ?_
    refine Gd_T ?_
    refine Cl1 n_law04_is c_is fun w38 x38 => ?_
    replace b1 := b1.ext x38
    replace b3 := b3.ext x38
    replace b7 := b7.ext x38
    replace b9 := b9.ext x38
    replace b13 := b13.ext x38
    replace b15 := b15.ext x38
    replace b17 := b17.ext x38
    replace xx := xx.tr x38
    refine Kg_T ?_
    refine kR2x0 b13 ?_
    refine GdP_T ?_
    refine dqEqT (same2 _ _) ?_
    refine PickP_T ?_
    refine GdP_T ?_
    refine dR2x0 (w := w38) b15 ?_
    refine Gd_T ?_
    refine Cl1 n_law04_is c_is fun w39 x39 => ?_
    replace b1 := b1.ext x39
    replace b3 := b3.ext x39
    replace b7 := b7.ext x39
    replace b9 := b9.ext x39
    replace b13 := b13.ext x39
    replace b15 := b15.ext x39
    replace b17 := b17.ext x39
    replace xx := xx.tr x39
    refine Kg_T ?_
    refine kR2x0 b15 ?_
    refine GdP_T ?_
    refine dqEqT (same2 _ _) ?_
    refine PickP_T ?_
    refine GdP_T ?_
    refine dR2x0 (w := w39) b17 ?_
    refine GdP_T ?_
    refine dR2x0 (w := w39) b1 ?_
    refine GdP_T ?_
    refine dqEqT (same2 _ _) ?_
    refine PickP_T ?_
    refine GdP_T ?_
    refine dR2x0 (w := w39) b1 ?_
    refine Gd_T ?_
    refine Cl1 n_rational_Print (s_print (hT.ext xx)) fun w40 x40 => ?_
    replace b1 := b1.ext x40
    replace b3 := b3.ext x40
    replace b7 := b7.ext x40
    replace b9 := b9.ext x40
    replace b13 := b13.ext x40
    replace b15 := b15.ext x40
    replace b17 := b17.ext x40
    replace xx := xx.tr x40
    refine GdP_T ?_
    refine Dv_eqST ?_
    refine PickP_T ?_
    refine Gd_T ?_
    refine Cl1 n_law04_is c_is fun w41 x41 => ?_
    replace b1 := b1.ext x41
    replace b3 := b3.ext x41
    replace b7 := b7.ext x41
    replace b9 := b9.ext x41
    replace b13 := b13.ext x41
    replace b15 := b15.ext x41
    replace b17 := b17.ext x41
    replace xx := xx.tr x41
    refine Gd_T ?_
    refine Cl1 n_law04_is c_is fun w42 x42 => ?_
    replace b1 := b1.ext x42
    replace b3 := b3.ext x42
    replace b7 := b7.ext x42
    replace b9 := b9.ext x42
    replace b13 := b13.ext x42
    replace b15 := b15.ext x42
    replace b17 := b17.ext x42
    replace xx := xx.tr x42
    refine Gd_T ?_
    refine Cl1 n_rational_Compare (s_cmp (hT.ext xx)) fun w43 x43 => ?_
    replace b1 := b1.ext x43
    replace b3 := b3.ext x43
    replace b7 := b7.ext x43
    replace b9 := b9.ext x43
    replace b13 := b13.ext x43
    replace b15 := b15.ext x43
    replace b17 := b17.ext x43
    replace xx := xx.tr x43
    refine GdP_T ?_
    refine Dv_eqT rfl ?_
    refine PickP_T ?_
    refine GdP_T ?_
    refine dR2x0 (w := w43) b1 ?_
    refine Gd_T ?_
    refine Cl1 n_rational_Valid (s_val1 (hT.ext xx)) fun w44 x44 => ?_
    replace b1 := b1.ext x44
    replace b3 := b3.ext x44
    replace b7 := b7.ext x44
    replace b9 := b9.ext x44
    replace b13 := b13.ext x44
    replace b15 := b15.ext x44
    replace b17 := b17.ext x44
    replace xx := xx.tr x44
    refine PickP_T ?_
    refine GdP_T ?_
    refine dBd0 ?_
    refine Gd_T ?_
    refine Cl1 n_rational_Valid (s_val2 (hT.ext xx)) fun w45 x45 => ?_
    replace b1 := b1.ext x45
    replace b3 := b3.ext x45
    replace b7 := b7.ext x45
    replace b9 := b9.ext x45
    replace b13 := b13.ext x45
    replace b15 := b15.ext x45
    replace b17 := b17.ext x45
    replace xx := xx.tr x45
    refine GdP_T ?_
    refine Dv_nF ?_
    refine PickP_T ?_
    exact Ret.mk ⟨xx, rfl⟩
  refine dR2x0 (w := w19.drew) b3 ?_
  refine ⟨?_, ?_⟩
  · refine Cl1 n_law04_is c_is fun Wv0 yv0 => ?_
    replace yv0 : Ext w19 Wv0 := (Ext.refl w19).dr.tr yv0
    replace b1 := b1.ext yv0
    replace b3 := b3.ext yv0
    replace b7 := b7.ext yv0
    replace b9 := b9.ext yv0
    replace xx := xx.tr yv0
    refine kR2x0 b3 ?_
    refine ⟨?_, ?_⟩
    · refine Cl1 n_rational_Div (s_div0 (hT.ext xx)) fun Wu0 yu0 => ?_
      replace b1 := b1.ext yu0
      replace b3 := b3.ext yu0
      replace b7 := b7.ext yu0
      replace b9 := b9.ext yu0
      replace xx := xx.tr yu0
      refine ExP2 ?_
      refine alR fun g11 Wu1 yu1 hg11 hl11 b11 => ?_
      have k11 : w.heap.size ≤ g11 := by have := xx.size; omega
      have z1 := b1.lt
      have z3 := b3.lt
      have z7 := b7.lt
      have z9 := b9.lt
      replace b1 := b1.ext yu1
      replace b3 := b3.ext yu1
      replace b7 := b7.ext yu1
      replace b9 := b9.ext yu1
      replace xx := xx.tr yu1
      refine kR2x0 b3 ?_
      refine stoR b11 fun wz oz b11 => ?_
      exact tail wz (oz.ext xx k11) (blkOwn b1 (show g1 ≠ g11 by omega) oz) (blkOwn b3 (show g3 ≠ g11 by omega) oz) (blkOwn b7 (show g7 ≠ g11 by omega) oz) (blkOwn b9 (show g9 ≠ g11 by omega) oz)
    · refine alR fun g11 Wu0 yu0 hg11 hl11 b11 => ?_
      have k11 : w.heap.size ≤ g11 := by have := xx.size; omega
      have z1 := b1.lt
      have z3 := b3.lt
      have z7 := b7.lt
      have z9 := b9.lt
      replace b1 := b1.ext yu0
      replace b3 := b3.ext yu0
      replace b7 := b7.ext yu0
      replace b9 := b9.ext yu0
      replace xx := xx.tr yu0
      refine kR2x0 b3 ?_
      refine Cl1 n_rational_Div (s_div0 (hT.ext xx)) fun Wu1 yu1 => ?_
      replace b1 := b1.ext yu1
      replace b3 := b3.ext yu1
      replace b7 := b7.ext yu1
      replace b9 := b9.ext yu1
      replace b11 := b11.ext yu1
      replace xx := xx.tr yu1
      refine ExP2 ?_
      refine stoR b11 fun wz oz b11 => ?_
      exact tail wz (oz.ext xx k11) (blkOwn b1 (show g1 ≠ g11 by omega) oz) (blkOwn b3 (show g3 ≠ g11 by omega) oz) (blkOwn b7 (show g7 ≠ g11 by omega) oz) (blkOwn b9 (show g9 ≠ g11 by omega) oz)
  · refine alR fun g11 Wv0 yv0 hg11 hl11 b11 => ?_
    have k11 : w.heap.size ≤ g11 := by have := xx.size; have : w19.heap.size ≤ g11 := hg11; omega
    have z1 := b1.lt
    have z3 := b3.lt
    have z7 := b7.lt
    have z9 := b9.lt
    replace yv0 : Ext w19 Wv0 := (Ext.refl w19).dr.tr yv0
    replace hg11 : w19.heap.size ≤ g11 := hg11
    replace b1 := b1.ext yv0
    replace b3 := b3.ext yv0
    replace b7 := b7.ext yv0
    replace b9 := b9.ext yv0
    replace xx := xx.tr yv0
    refine kR2x0 b3 ?_
    refine Cl1 n_law04_is c_is fun Wv1 yv1 => ?_
    replace b1 := b1.ext yv1
    replace b3 := b3.ext yv1
    replace b7 := b7.ext yv1
    replace b9 := b9.ext yv1
    replace b11 := b11.ext yv1
    replace xx := xx.tr yv1
    refine kR2x0 b3 ?_
    refine Cl1 n_rational_Div (s_div0 (hT.ext xx)) fun Wv2 yv2 => ?_
    replace b1 := b1.ext yv2
    replace b3 := b3.ext yv2
    replace b7 := b7.ext yv2
    replace b9 := b9.ext yv2
    replace b11 := b11.ext yv2
    replace xx := xx.tr yv2
    refine ExP2 ?_
    refine stoR b11 fun wz oz b11 => ?_
    exact tail wz (oz.ext xx k11) (blkOwn b1 (show g1 ≠ g11 by omega) oz) (blkOwn b3 (show g3 ≠ g11 by omega) oz) (blkOwn b7 (show g7 ≠ g11 by omega) oz) (blkOwn b9 (show g9 ≠ g11 by omega) oz)
end Go.Proofs.YthpcmmfijelbaaaGreatDoor
