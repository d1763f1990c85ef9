/-
  Contracts of functions of the program, and plain lemmas on numbers and strings. By an AI agent.
-/
import Derived.Test.YthpcmmfijelbaaaGreatDoorQHelp
import Derived.Test.YthpcmmfijelbaaaGreatDoorEngT
set_option linter.unusedSimpArgs false
set_option linter.unusedVariables false
set_option linter.unusedSectionVars false
namespace Go.Proofs.YthpcmmfijelbaaaGreatDoor
open Go Go.Eng Go.Proofs Go.Num Go.RowKit
set_option maxRecDepth 100000
set_option linter.unusedVariables false
set_option linter.unusedSectionVars false
set_option maxHeartbeats 4000000 in
theorem field_false {p0 p1 p2 p3 y0 y1 y2 y3 z0 z1 : Int} {w : World} (rx0 : R64 p0) (rx1 : R64 p1) (rx2 : R64 p2) (rx3 : R64 p3) (ry0 : R64 y0) (ry1 : R64 y1) (ry2 : R64 y2) (ry3 : R64 y3) (rz0 : R64 z0) (rz1 : R64 z1) (hT : Tab w) (hM : MaxV w) :
    Calls Tryz.prog 8 #[.agg #[.int .i64 p0, .int .i64 p1, .int .i64 p2, .int .i64 p3], .agg #[.int .i64 y0, .int .i64 y1, .int .i64 y2, .int .i64 y3], .agg #[.int .i64 z0, .int .i64 z1], .bool false] w (Ret fun r w' => Ext w w' ∧ r = .bool true) := by
  have hz : RB (smallQ z0 z1) := (smallQ_SR z0 z1).rb (by decide) (by decide)
  have cz := fun w : World => c_Small (w := w) rz0 rz1
  obtain ⟨z, hze⟩ : ∃ z : Rat, z = smallQ z0 z1 := ⟨_, rfl⟩
  rw [← hze] at hz
  simp only [← hze] at cz
  clear hze
  apply e_law04_RationalField
  unfold s_law04_RationalField
  refine bxI4 fun g4 w1 x1 hg4 hl4 b4 => ?_
  have k4 : w.heap.size ≤ g4 := hg4
  have xx := x1
  clear hg4 hl4
  have z4 := b4.lt
  refine bxI4 fun g5 w2 x2 hg5 hl5 b5 => ?_
  have k5 : w.heap.size ≤ g5 := by have := xx.size; omega
  have n4x5 : g4 ≠ g5 := by omega
  clear z4
  replace b4 := b4.ext x2
  replace xx := xx.tr x2
  clear hg5 hl5
  have z4 := b4.lt
  have z5 := b5.lt
  refine bxI2 fun g6 w3 x3 hg6 hl6 b6 => ?_
  have k6 : w.heap.size ≤ g6 := by have := xx.size; omega
  have n4x6 : g4 ≠ g6 := by omega
  clear z4
  have n5x6 : g5 ≠ g6 := by omega
  clear z5
  replace b4 := b4.ext x3
  replace b5 := b5.ext x3
  replace xx := xx.tr x3
  clear hg6 hl6
  refine Cl1 n_law04_sane (c_sane (hT.ext xx) (hM.ext xx)) fun w4 x4 => ?_
  replace b4 := b4.ext x4
  replace b5 := b5.ext x4
  replace b6 := b6.ext x4
  replace xx := xx.tr x4
  refine iaI4x0 (lI4x0 b4 (iaI4x1 (lI4x1 b4 (bdI2 ?_))))
  refine Cl1 n_ref04_Small (c_Small rx0 rx1) fun w5 x5 => ?_
  replace b4 := b4.ext x5
  replace b5 := b5.ext x5
  replace b6 := b6.ext x5
  replace xx := xx.tr x5
  have z4 := b4.lt
  have z5 := b5.lt
  have z6 := b6.lt
  refine alR fun g10 w6 x6 hg10 hl10 b10 => ?_
  have k10 : w.heap.size ≤ g10 := by have := xx.size; omega
  have n4x10 : g4 ≠ g10 := by omega
  clear z4
  have n5x10 : g5 ≠ g10 := by omega
  clear z5
  have n6x10 : g6 ≠ g10 := by omega
  clear z6
  replace b4 := b4.ext x6
  replace b5 := b5.ext x6
  replace b6 := b6.ext x6
  replace xx := xx.tr x6
  clear hg10 hl10
  refine stoR b10 fun w7 o7 b10 => ?_
  replace b4 := blkOwn b4 n4x10 o7
  replace b5 := blkOwn b5 n5x10 o7
  replace b6 := blkOwn b6 n6x10 o7
  replace xx := o7.ext xx k10
  refine iaI4x0 (lI4x0 b5 (iaI4x1 (lI4x1 b5 (bdI2 ?_))))
  refine Cl1 n_ref04_Small (c_Small ry0 ry1) fun w8 x8 => ?_
  replace b4 := b4.ext x8
  replace b5 := b5.ext x8
  replace b6 := b6.ext x8
  replace b10 := b10.ext x8
  replace xx := xx.tr x8
  have z4 := b4.lt
  have z5 := b5.lt
  have z6 := b6.lt
  have z10 := b10.lt
  refine alR fun g11 w9 x9 hg11 hl11 b11 => ?_
  have k11 : w.heap.size ≤ g11 := by have := xx.size; omega
  have n4x11 : g4 ≠ g11 := by omega
  clear z4
  have n5x11 : g5 ≠ g11 := by omega
  clear z5
  have n6x11 : g6 ≠ g11 := by omega
  clear z6
  have n10x11 : g10 ≠ g11 := by omega
  clear z10
  replace b4 := b4.ext x9
  replace b5 := b5.ext x9
  replace b6 := b6.ext x9
  replace b10 := b10.ext x9
  replace xx := xx.tr x9
  clear hg11 hl11
  refine stoR b11 fun w10 o10 b11 => ?_
  replace b4 := blkOwn b4 n4x11 o10
  replace b5 := blkOwn b5 n5x11 o10
  replace b6 := blkOwn b6 n6x11 o10
  replace b10 := blkOwn b10 n10x11 o10
  replace xx := o10.ext xx k11
  refine ldI2 b6 ?_
  refine Cl1 n_ref04_Small (cz _) fun w11 x11 => ?_
  replace b4 := b4.ext x11
  replace b5 := b5.ext x11
  replace b6 := b6.ext x11
  replace b10 := b10.ext x11
  replace b11 := b11.ext x11
  replace xx := xx.tr x11
  have z4 := b4.lt
  have z5 := b5.lt
  have z6 := b6.lt
  have z10 := b10.lt
  have z11 := b11.lt
  refine alR fun g12 w12 x12 hg12 hl12 b12 => ?_
  have k12 : w.heap.size ≤ g12 := by have := xx.size; omega
  have n4x12 : g4 ≠ g12 := by omega
  clear z4
  have n5x12 : g5 ≠ g12 := by omega
  clear z5
  have n6x12 : g6 ≠ g12 := by omega
  clear z6
  have n10x12 : g10 ≠ g12 := by omega
  clear z10
  have n11x12 : g11 ≠ g12 := by omega
  clear z11
  replace b4 := b4.ext x12
  replace b5 := b5.ext x12
  replace b6 := b6.ext x12
  replace b10 := b10.ext x12
  replace b11 := b11.ext x12
  replace xx := xx.tr x12
  clear hg12 hl12
  refine stoR b12 fun w13 o13 b12 => ?_
  replace b4 := blkOwn b4 n4x12 o13
  replace b5 := blkOwn b5 n5x12 o13
  replace b6 := blkOwn b6 n6x12 o13
  replace b10 := blkOwn b10 n10x12 o13
  replace b11 := blkOwn b11 n11x12 o13
  replace xx := o13.ext xx k12
  refine Jn0.mk ?_
  intro K hK
  have main : ∀ (x y : Rat) (W : World), RB x → RB y → ((addQ x y).2.2 = 0 ∧ (mulQ x y).2.2 = 0 ∨ false = true) → Ext w W → Blk W g10 tR [str (Lib.itoa x.num), str (Lib.itoa (x.den : Int))] → Blk W g11 tR [str (Lib.itoa y.num), str (Lib.itoa (y.den : Int))] → Blk W g12 tR [str (Lib.itoa z.num), str (Lib.itoa (z.den : Int))] → K W := by
    clear b4 b5 b6 b10 b11 b12 xx
    intro x y W hx hy hsm xx b10 b11 b12
    have lx := rb_len hx
    have ly := rb_len hy
    have lz := rb_len hz
    obtain ⟨A, eA⟩ : ∃ t, t = ans2 addQ rBad (Lib.itoa x.num) (Lib.itoa (x.den : Int)) (Lib.itoa y.num) (Lib.itoa (y.den : Int)) := ⟨_, rfl⟩
    obtain ⟨B, eB⟩ : ∃ t, t = ans2 subQ rBad (Lib.itoa x.num) (Lib.itoa (x.den : Int)) (Lib.itoa y.num) (Lib.itoa (y.den : Int)) := ⟨_, rfl⟩
    obtain ⟨M, eM⟩ : ∃ t, t = ans2 mulQ rBad (Lib.itoa x.num) (Lib.itoa (x.den : Int)) (Lib.itoa y.num) (Lib.itoa (y.den : Int)) := ⟨_, rfl⟩
    obtain ⟨D, eD⟩ : ∃ t, t = ans2 divQ rBad (Lib.itoa x.num) (Lib.itoa (x.den : Int)) (Lib.itoa y.num) (Lib.itoa (y.den : Int)) := ⟨_, rfl⟩
    obtain ⟨S0, eS0⟩ : ∃ t, t = ans2 addQ rBad (Lib.itoa y.num) (Lib.itoa (y.den : Int)) (Lib.itoa x.num) (Lib.itoa (x.den : Int)) := ⟨_, rfl⟩
    obtain ⟨S1, eS1⟩ : ∃ t, t = ans2 subQ rBad (Lib.itoa y.num) (Lib.itoa (y.den : Int)) (Lib.itoa x.num) (Lib.itoa (x.den : Int)) := ⟨_, rfl⟩
    obtain ⟨S2, eS2⟩ : ∃ t, t = ans2 mulQ rBad (Lib.itoa y.num) (Lib.itoa (y.den : Int)) (Lib.itoa x.num) (Lib.itoa (x.den : Int)) := ⟨_, rfl⟩
    obtain ⟨S3, eS3⟩ : ∃ t, t = ans2 divQ rBad (Lib.itoa y.num) (Lib.itoa (y.den : Int)) (Lib.itoa x.num) (Lib.itoa (x.den : Int)) := ⟨_, rfl⟩
    obtain ⟨C0, eC0⟩ : ∃ t, t = ans2 addQ rBad (Lib.itoa y.num) (Lib.itoa (y.den : Int)) (Lib.itoa z.num) (Lib.itoa (z.den : Int)) := ⟨_, rfl⟩
    obtain ⟨C1, eC1⟩ : ∃ t, t = ans2 subQ rBad (Lib.itoa y.num) (Lib.itoa (y.den : Int)) (Lib.itoa z.num) (Lib.itoa (z.den : Int)) := ⟨_, rfl⟩
    obtain ⟨C2, eC2⟩ : ∃ t, t = ans2 mulQ rBad (Lib.itoa y.num) (Lib.itoa (y.den : Int)) (Lib.itoa z.num) (Lib.itoa (z.den : Int)) := ⟨_, rfl⟩
    obtain ⟨C3, eC3⟩ : ∃ t, t = ans2 divQ rBad (Lib.itoa y.num) (Lib.itoa (y.den : Int)) (Lib.itoa z.num) (Lib.itoa (z.den : Int)) := ⟨_, rfl⟩
    obtain ⟨E0, eE0⟩ : ∃ t, t = ans2 addQ rBad A.1 A.2.1 (Lib.itoa z.num) (Lib.itoa (z.den : Int)) := ⟨_, rfl⟩
    obtain ⟨E1, eE1⟩ : ∃ t, t = ans2 subQ rBad A.1 A.2.1 (Lib.itoa z.num) (Lib.itoa (z.den : Int)) := ⟨_, rfl⟩
    obtain ⟨E2, eE2⟩ : ∃ t, t = ans2 mulQ rBad A.1 A.2.1 (Lib.itoa z.num) (Lib.itoa (z.den : Int)) := ⟨_, rfl⟩
    obtain ⟨E3, eE3⟩ : ∃ t, t = ans2 divQ rBad A.1 A.2.1 (Lib.itoa z.num) (Lib.itoa (z.den : Int)) := ⟨_, rfl⟩
    obtain ⟨one, eone⟩ : ∃ t, t = ans2 addQ rBad (Lib.itoa x.num) (Lib.itoa (x.den : Int)) C0.1 C0.2.1 := ⟨_, rfl⟩
    obtain ⟨two, etwo⟩ : ∃ t, t = ans2 mulQ rBad (Lib.itoa x.num) (Lib.itoa (x.den : Int)) C2.1 C2.2.1 := ⟨_, rfl⟩
    obtain ⟨left, eleft⟩ : ∃ t, t = ans2 mulQ rBad M.1 M.2.1 (Lib.itoa z.num) (Lib.itoa (z.den : Int)) := ⟨_, rfl⟩
    obtain ⟨ac, eac⟩ : ∃ t, t = ans2 mulQ rBad (Lib.itoa x.num) (Lib.itoa (x.den : Int)) (Lib.itoa z.num) (Lib.itoa (z.den : Int)) := ⟨_, rfl⟩
    obtain ⟨sum, esum⟩ : ∃ t, t = ans2 addQ rBad ac.1 ac.2.1 C2.1 C2.2.1 := ⟨_, rfl⟩
    obtain ⟨whole, ewhole⟩ : ∃ t, t = ans2 mulQ rBad A.1 A.2.1 (Lib.itoa z.num) (Lib.itoa (z.den : Int)) := ⟨_, rfl⟩
    obtain ⟨back, eback⟩ : ∃ t, t = ans2 subQ rBad A.1 A.2.1 (Lib.itoa y.num) (Lib.itoa (y.den : Int)) := ⟨_, rfl⟩
    obtain ⟨again, eagain⟩ : ∃ t, t = ans2 mulQ rBad D.1 D.2.1 (Lib.itoa y.num) (Lib.itoa (y.den : Int)) := ⟨_, rfl⟩
    have lA : Short A := by rw [eA]; exact short_ans short_add _ _ _ _
    have lM : Short M := by rw [eM]; exact short_ans short_mul _ _ _ _
    have lD : Short D := by rw [eD]; exact short_ans short_div _ _ _ _
    have lC0 : Short C0 := by rw [eC0]; exact short_ans short_add _ _ _ _
    have lC2 : Short C2 := by rw [eC2]; exact short_ans short_mul _ _ _ _
    have lac : Short ac := by rw [eac]; exact short_ans short_mul _ _ _ _
    have F := fieldF (B := B) hx hy hz (eA.trans (ans2_ok hx hy)) (eM.trans (ans2_ok hx hy)) (eD.trans (ans2_ok hx hy)) (eS0.trans (ans2_ok hy hx)) (eS2.trans (ans2_ok hy hx)) (eC0.trans (ans2_ok hy hz)) (eC2.trans (ans2_ok hy hz)) eE0 eone etwo eleft (eac.trans (ans2_ok hx hz)) esum ewhole eback eagain
    have hsm' : A.2.2 = 0 ∧ M.2.2 = 0 ∨ false = true := by rw [eA, eM, ans2_ok hx hy, ans2_ok hx hy]; exact hsm
    have q4 := fun (w : World) (hT : Tab w) => k_four (w := w) lx ly eA eB eM eD hT
    have q4' := fun (w : World) (hT : Tab w) => k_four (w := w) ly lx eS0 eS1 eS2 eS3 hT
    have q4c := fun (w : World) (hT : Tab w) => k_four (w := w) ly lz eC0 eC1 eC2 eC3 hT
    have q4e := fun (w : World) (hT : Tab w) => k_four (w := w) lA lz eE0 eE1 eE2 eE3 hT
    have qone := fun (w : World) (hT : Tab w) => k_op (w := w) c_qAdd lx lC0 eone hT
    have qtwo := fun (w : World) (hT : Tab w) => k_op (w := w) c_qMul lx lC2 etwo hT
    have qleft := fun (w : World) (hT : Tab w) => k_op (w := w) c_qMul lM lz eleft hT
    have qac := fun (w : World) (hT : Tab w) => k_op (w := w) c_qMul lx lz eac hT
    have qsum := fun (w : World) (hT : Tab w) => k_op (w := w) c_qAdd lac lC2 esum hT
    have qwhole := fun (w : World) (hT : Tab w) => k_op (w := w) c_qMul lA lz ewhole hT
    have qback := fun (w : World) (hT : Tab w) => k_op (w := w) c_qSub lA ly eback hT
    have qagain := fun (w : World) (hT : Tab w) => k_op (w := w) c_qMul lD ly eagain hT
    clear hx hy hz hsm lx ly lz lA lM lD lC0 lC2 lac eA eB eM eD eS0 eS1 eS2 eS3 eC0 eC1 eC2 eC3 eE0 eE1 eE2 eE3 eone etwo eleft eac esum ewhole eback eagain
    obtain ⟨hs0, hs2, hsa, ham, hds, hbk, hag⟩ := F
    subst hs0
    subst hs2
    refine hK W ?_
    clear hK
    refine ldR b10 (ldR b11 ?_)
    refine Cl2 n_law04_four (q4 _ (hT.ext xx)) fun w14 x14 => ?_
    replace b10 := b10.ext x14
    replace b11 := b11.ext x14
    replace b12 := b12.ext x14
    replace xx := xx.tr x14
    have z10 := b10.lt
    have z11 := b11.lt
    have z12 := b12.lt
    refine alR4 fun g13 w15 x15 hg13 hl13 b13 => ?_
    have k13 : w.heap.size ≤ g13 := by have := xx.size; omega
    have n10x13 : g10 ≠ g13 := by omega
    clear z10
    have n11x13 : g11 ≠ g13 := by omega
    clear z11
    have n12x13 : g12 ≠ g13 := by omega
    clear z12
    replace b10 := b10.ext x15
    replace b11 := b11.ext x15
    replace b12 := b12.ext x15
    replace xx := xx.tr x15
    clear hg13 hl13
    have z10 := b10.lt
    have z11 := b11.lt
    have z12 := b12.lt
    have z13 := b13.lt
    refine alE4 fun g14 w16 x16 hg14 hl14 b14 => ?_
    have k14 : w.heap.size ≤ g14 := by have := xx.size; omega
    have n10x14 : g10 ≠ g14 := by omega
    clear z10
    have n11x14 : g11 ≠ g14 := by omega
    clear z11
    have n12x14 : g12 ≠ g14 := by omega
    clear z12
    have n13x14 : g13 ≠ g14 := by omega
    clear z13
    replace b10 := b10.ext x16
    replace b11 := b11.ext x16
    replace b12 := b12.ext x16
    replace b13 := b13.ext x16
    replace xx := xx.tr x16
    clear hg14 hl14
    refine stR4 b13 fun w17 o17 b13 => ?_
    replace b10 := blkOwn b10 n10x13 o17
    replace b11 := blkOwn b11 n11x13 o17
    replace b12 := blkOwn b12 n12x13 o17
    replace b14 := blkOwn b14 n13x14.symm o17
    replace xx := o17.ext xx k13
    refine stE4 b14 fun w18 o18 b14 => ?_
    replace b10 := blkOwn b10 n10x14 o18
    replace b11 := blkOwn b11 n11x14 o18
    replace b12 := blkOwn b12 n12x14 o18
    replace b13 := blkOwn b13 n13x14 o18
    replace xx := o18.ext xx k14
    refine ldR b11 (ldR b10 ?_)
    refine Cl2 n_law04_four (q4' _ (hT.ext xx)) fun w19 x19 => ?_
    replace b10 := b10.ext x19
    replace b11 := b11.ext x19
    replace b12 := b12.ext x19
    replace b13 := b13.ext x19
    replace b14 := b14.ext x19
    replace xx := xx.tr x19
    have z10 := b10.lt
    have z11 := b11.lt
    have z12 := b12.lt
    have z13 := b13.lt
    have z14 := b14.lt
    refine alR4 fun g15 w20 x20 hg15 hl15 b15 => ?_
    have k15 : w.heap.size ≤ g15 := by have := xx.size; omega
    have n10x15 : g10 ≠ g15 := by omega
    clear z10
    have n11x15 : g11 ≠ g15 := by omega
    clear z11
    have n12x15 : g12 ≠ g15 := by omega
    clear z12
    have n13x15 : g13 ≠ g15 := by omega
    clear z13
    have n14x15 : g14 ≠ g15 := by omega
    clear z14
    replace b10 := b10.ext x20
    replace b11 := b11.ext x20
    replace b12 := b12.ext x20
    replace b13 := b13.ext x20
    replace b14 := b14.ext x20
    replace xx := xx.tr x20
    clear hg15 hl15
    have z10 := b10.lt
    have z11 := b11.lt
    have z12 := b12.lt
    have z13 := b13.lt
    have z14 := b14.lt
    have z15 := b15.lt
    refine alE4 fun g16 w21 x21 hg16 hl16 b16 => ?_
    have k16 : w.heap.size ≤ g16 := by have := xx.size; omega
    have n10x16 : g10 ≠ g16 := by omega
    clear z10
    have n11x16 : g11 ≠ g16 := by omega
    clear z11
    have n12x16 : g12 ≠ g16 := by omega
    clear z12
    have n13x16 : g13 ≠ g16 := by omega
    clear z13
    have n14x16 : g14 ≠ g16 := by omega
    clear z14
    have n15x16 : g15 ≠ g16 := by omega
    clear z15
    replace b10 := b10.ext x21
    replace b11 := b11.ext x21
    replace b12 := b12.ext x21
    replace b13 := b13.ext x21
    replace b14 := b14.ext x21
    replace b15 := b15.ext x21
    replace xx := xx.tr x21
    clear hg16 hl16
    refine stR4 b15 fun w22 o22 b15 => ?_
    replace b10 := blkOwn b10 n10x15 o22
    replace b11 := blkOwn b11 n11x15 o22
    replace b12 := blkOwn b12 n12x15 o22
    replace b13 := blkOwn b13 n13x15 o22
    replace b14 := blkOwn b14 n14x15 o22
    replace b16 := blkOwn b16 n15x16.symm o22
    replace xx := o22.ext xx k15
    refine stE4 b16 fun w23 o23 b16 => ?_
    replace b10 := blkOwn b10 n10x16 o23
    replace b11 := blkOwn b11 n11x16 o23
    replace b12 := blkOwn b12 n12x16 o23
    replace b13 := blkOwn b13 n13x16 o23
    replace b14 := blkOwn b14 n14x16 o23
    replace b15 := blkOwn b15 n15x16 o23
    replace xx := o23.ext xx k16
    refine iaR4x0 (lR8x0 b13 (iaR4x0 (lR8x0 b15 (qNeF (same2 _ _) ?_))))
    refine Gd_F (iaR4x2 (Gd_F (lR8x4 b13 (Gd_F (iaR4x2 (Gd_F (lR8x4 b15 (Gd_F (qNeF (same2 _ _) (Pick_F ?_))))))))))
    refine Gd_F (iaE4x0 (Gd_F (lE4x0 b14 (Gd_F (iaE4x0 (Gd_F (lE4x0 b16 (Gd_F (Bn_neF rfl (Pick_F ?_))))))))))
    refine Gd_F (iaE4x2 (Gd_F (lE4x2 b14 (Gd_F (iaE4x2 (Gd_F (lE4x2 b16 (Gd_F (Bn_neF rfl (Pick_F ?_))))))))))
    have h0 : A.2.2 = 0 := (hsm'.resolve_right (by decide)).1
    have h2 : M.2.2 = 0 := (hsm'.resolve_right (by decide)).2
    refine Gd_F (Gd_F (Un_F (Gd_F ?_)))
    refine Gd_T (iaE4x0 (Gd_T (lE4x0 b14 (Gd_T (Bn_neF h0 (Gd_T ?_))))))
    refine Gd_F (iaE4x2 (Gd_F (lE4x2 b14 (Gd_F (Bn_neF h2 (Gd_T (Pick_F (Gd_F (Pick_T (Pick_F (If_F ?_)))))))))))
    refine ldR b11 (ldR b12 ?_)
    refine Cl2 n_law04_four (q4c _ (hT.ext xx)) fun w24 x24 => ?_
    replace b10 := b10.ext x24
    replace b11 := b11.ext x24
    replace b12 := b12.ext x24
    replace b13 := b13.ext x24
    replace b14 := b14.ext x24
    replace b15 := b15.ext x24
    replace b16 := b16.ext x24
    replace xx := xx.tr x24
    have z10 := b10.lt
    have z11 := b11.lt
    have z12 := b12.lt
    have z13 := b13.lt
    have z14 := b14.lt
    have z15 := b15.lt
    have z16 := b16.lt
    refine alR4 fun g17 w25 x25 hg17 hl17 b17 => ?_
    have k17 : w.heap.size ≤ g17 := by have := xx.size; omega
    have n10x17 : g10 ≠ g17 := by omega
    clear z10
    have n11x17 : g11 ≠ g17 := by omega
    clear z11
    have n12x17 : g12 ≠ g17 := by omega
    clear z12
    have n13x17 : g13 ≠ g17 := by omega
    clear z13
    have n14x17 : g14 ≠ g17 := by omega
    clear z14
    have n15x17 : g15 ≠ g17 := by omega
    clear z15
    have n16x17 : g16 ≠ g17 := by omega
    clear z16
    replace b10 := b10.ext x25
    replace b11 := b11.ext x25
    replace b12 := b12.ext x25
    replace b13 := b13.ext x25
    replace b14 := b14.ext x25
    replace b15 := b15.ext x25
    replace b16 := b16.ext x25
    replace xx := xx.tr x25
    clear hg17 hl17
    have z10 := b10.lt
    have z11 := b11.lt
    have z12 := b12.lt
    have z13 := b13.lt
    have z14 := b14.lt
    have z15 := b15.lt
    have z16 := b16.lt
    have z17 := b17.lt
    refine alE4 fun g18 w26 x26 hg18 hl18 b18 => ?_
    have k18 : w.heap.size ≤ g18 := by have := xx.size; omega
    have n10x18 : g10 ≠ g18 := by omega
    clear z10
    have n11x18 : g11 ≠ g18 := by omega
    clear z11
    have n12x18 : g12 ≠ g18 := by omega
    clear z12
    have n13x18 : g13 ≠ g18 := by omega
    clear z13
    have n14x18 : g14 ≠ g18 := by omega
    clear z14
    have n15x18 : g15 ≠ g18 := by omega
    clear z15
    have n16x18 : g16 ≠ g18 := by omega
    clear z16
    have n17x18 : g17 ≠ g18 := by omega
    clear z17
    replace b10 := b10.ext x26
    replace b11 := b11.ext x26
    replace b12 := b12.ext x26
    replace b13 := b13.ext x26
    replace b14 := b14.ext x26
    replace b15 := b15.ext x26
    replace b16 := b16.ext x26
    replace b17 := b17.ext x26
    replace xx := xx.tr x26
    clear hg18 hl18
    refine stR4 b17 fun w27 o27 b17 => ?_
    replace b10 := blkOwn b10 n10x17 o27
    replace b11 := blkOwn b11 n11x17 o27
    replace b12 := blkOwn b12 n12x17 o27
    replace b13 := blkOwn b13 n13x17 o27
    replace b14 := blkOwn b14 n14x17 o27
    replace b15 := blkOwn b15 n15x17 o27
    replace b16 := blkOwn b16 n16x17 o27
    replace b18 := blkOwn b18 n17x18.symm o27
    replace xx := o27.ext xx k17
    refine stE4 b18 fun w28 o28 b18 => ?_
    replace b10 := blkOwn b10 n10x18 o28
    replace b11 := blkOwn b11 n11x18 o28
    replace b12 := blkOwn b12 n12x18 o28
    replace b13 := blkOwn b13 n13x18 o28
    replace b14 := blkOwn b14 n14x18 o28
    replace b15 := blkOwn b15 n15x18 o28
    replace b16 := blkOwn b16 n16x18 o28
    replace b17 := blkOwn b17 n17x18 o28
    replace xx := o28.ext xx k18
    refine iaR4x0 (lR8x0 b13 (ldR b12 ?_))
    refine Cl2 n_law04_four (q4e _ (hT.ext xx)) fun w29 x29 => ?_
    replace b10 := b10.ext x29
    replace b11 := b11.ext x29
    replace b12 := b12.ext x29
    replace b13 := b13.ext x29
    replace b14 := b14.ext x29
    replace b15 := b15.ext x29
    replace b16 := b16.ext x29
    replace b17 := b17.ext x29
    replace b18 := b18.ext x29
    replace xx := xx.tr x29
    have z10 := b10.lt
    have z11 := b11.lt
    have z12 := b12.lt
    have z13 := b13.lt
    have z14 := b14.lt
    have z15 := b15.lt
    have z16 := b16.lt
    have z17 := b17.lt
    have z18 := b18.lt
    refine alR4 fun g19 w30 x30 hg19 hl19 b19 => ?_
    have k19 : w.heap.size ≤ g19 := by have := xx.size; omega
    have n10x19 : g10 ≠ g19 := by omega
    clear z10
    have n11x19 : g11 ≠ g19 := by omega
    clear z11
    have n12x19 : g12 ≠ g19 := by omega
    clear z12
    have n13x19 : g13 ≠ g19 := by omega
    clear z13
    have n14x19 : g14 ≠ g19 := by omega
    clear z14
    have n15x19 : g15 ≠ g19 := by omega
    clear z15
    have n16x19 : g16 ≠ g19 := by omega
    clear z16
    have n17x19 : g17 ≠ g19 := by omega
    clear z17
    have n18x19 : g18 ≠ g19 := by omega
    clear z18
    replace b10 := b10.ext x30
    replace b11 := b11.ext x30
    replace b12 := b12.ext x30
    replace b13 := b13.ext x30
    replace b14 := b14.ext x30
    replace b15 := b15.ext x30
    replace b16 := b16.ext x30
    replace b17 := b17.ext x30
    replace b18 := b18.ext x30
    replace xx := xx.tr x30
    clear hg19 hl19
    have z10 := b10.lt
    have z11 := b11.lt
    have z12 := b12.lt
    have z13 := b13.lt
    have z14 := b14.lt
    have z15 := b15.lt
    have z16 := b16.lt
    have z17 := b17.lt
    have z18 := b18.lt
    have z19 := b19.lt
    refine alE4 fun g20 w31 x31 hg20 hl20 b20 => ?_
    have k20 : w.heap.size ≤ g20 := by have := xx.size; omega
    have n10x20 : g10 ≠ g20 := by omega
    clear z10
    have n11x20 : g11 ≠ g20 := by omega
    clear z11
    have n12x20 : g12 ≠ g20 := by omega
    clear z12
    have n13x20 : g13 ≠ g20 := by omega
    clear z13
    have n14x20 : g14 ≠ g20 := by omega
    clear z14
    have n15x20 : g15 ≠ g20 := by omega
    clear z15
    have n16x20 : g16 ≠ g20 := by omega
    clear z16
    have n17x20 : g17 ≠ g20 := by omega
    clear z17
    have n18x20 : g18 ≠ g20 := by omega
    clear z18
    have n19x20 : g19 ≠ g20 := by omega
    clear z19
    replace b10 := b10.ext x31
    replace b11 := b11.ext x31
    replace b12 := b12.ext x31
    replace b13 := b13.ext x31
    replace b14 := b14.ext x31
    replace b15 := b15.ext x31
    replace b16 := b16.ext x31
    replace b17 := b17.ext x31
    replace b18 := b18.ext x31
    replace b19 := b19.ext x31
    replace xx := xx.tr x31
    clear hg20 hl20
    refine stR4 b19 fun w32 o32 b19 => ?_
    replace b10 := blkOwn b10 n10x19 o32
    replace b11 := blkOwn b11 n11x19 o32
    replace b12 := blkOwn b12 n12x19 o32
    replace b13 := blkOwn b13 n13x19 o32
    replace b14 := blkOwn b14 n14x19 o32
    replace b15 := blkOwn b15 n15x19 o32
    replace b16 := blkOwn b16 n16x19 o32
    replace b17 := blkOwn b17 n17x19 o32
    replace b18 := blkOwn b18 n18x19 o32
    replace b20 := blkOwn b20 n19x20.symm o32
    replace xx := o32.ext xx k19
    refine stE4 b20 fun w33 o33 b20 => ?_
    replace b10 := blkOwn b10 n10x20 o33
    replace b11 := blkOwn b11 n11x20 o33
    replace b12 := blkOwn b12 n12x20 o33
    replace b13 := blkOwn b13 n13x20 o33
    replace b14 := blkOwn b14 n14x20 o33
    replace b15 := blkOwn b15 n15x20 o33
    replace b16 := blkOwn b16 n16x20 o33
    replace b17 := blkOwn b17 n17x20 o33
    replace b18 := blkOwn b18 n18x20 o33
    replace b19 := blkOwn b19 n19x20 o33
    replace xx := o33.ext xx k20
    refine ldR b10 (iaR4x0 (lR8x0 b17 ?_))
    refine Cl2 n_rational_Add (qone _ (hT.ext xx)) fun w34 x34 => ?_
    replace b10 := b10.ext x34
    replace b11 := b11.ext x34
    replace b12 := b12.ext x34
    replace b13 := b13.ext x34
    replace b14 := b14.ext x34
    replace b15 := b15.ext x34
    replace b16 := b16.ext x34
    replace b17 := b17.ext x34
    replace b18 := b18.ext x34
    replace b19 := b19.ext x34
    replace b20 := b20.ext x34
    replace xx := xx.tr x34
    have z10 := b10.lt
    have z11 := b11.lt
    have z12 := b12.lt
    have z13 := b13.lt
    have z14 := b14.lt
    have z15 := b15.lt
    have z16 := b16.lt
    have z17 := b17.lt
    have z18 := b18.lt
    have z19 := b19.lt
    have z20 := b20.lt
    refine alR fun g21 w35 x35 hg21 hl21 b21 => ?_
    have k21 : w.heap.size ≤ g21 := by have := xx.size; omega
    have n10x21 : g10 ≠ g21 := by omega
    clear z10
    have n11x21 : g11 ≠ g21 := by omega
    clear z11
    have n12x21 : g12 ≠ g21 := by omega
    clear z12
    have n13x21 : g13 ≠ g21 := by omega
    clear z13
    have n14x21 : g14 ≠ g21 := by omega
    clear z14
    have n15x21 : g15 ≠ g21 := by omega
    clear z15
    have n16x21 : g16 ≠ g21 := by omega
    clear z16
    have n17x21 : g17 ≠ g21 := by omega
    clear z17
    have n18x21 : g18 ≠ g21 := by omega
    clear z18
    have n19x21 : g19 ≠ g21 := by omega
    clear z19
    have n20x21 : g20 ≠ g21 := by omega
    clear z20
    replace b10 := b10.ext x35
    replace b11 := b11.ext x35
    replace b12 := b12.ext x35
    replace b13 := b13.ext x35
    replace b14 := b14.ext x35
    replace b15 := b15.ext x35
    replace b16 := b16.ext x35
    replace b17 := b17.ext x35
    replace b18 := b18.ext x35
    replace b19 := b19.ext x35
    replace b20 := b20.ext x35
    replace xx := xx.tr x35
    clear hg21 hl21
    refine stoR b21 fun w36 o36 b21 => ?_
    replace b10 := blkOwn b10 n10x21 o36
    replace b11 := blkOwn b11 n11x21 o36
    replace b12 := blkOwn b12 n12x21 o36
    replace b13 := blkOwn b13 n13x21 o36
    replace b14 := blkOwn b14 n14x21 o36
    replace b15 := blkOwn b15 n15x21 o36
    replace b16 := blkOwn b16 n16x21 o36
    replace b17 := blkOwn b17 n17x21 o36
    replace b18 := blkOwn b18 n18x21 o36
    replace b19 := blkOwn b19 n19x21 o36
    replace b20 := blkOwn b20 n20x21 o36
    replace xx := o36.ext xx k21
    refine iaE4x0 (lE4x0 b14 (eqD rfl ?_))
    refine and3 (fun _ K1 hK1 => iaE4x0 (lE4x0 b18 (eqD rfl hK1))) rfl ?_
    refine and3 (fun _ K1 hK1 => iaE4x0 (lE4x0 b20 (eqD rfl hK1))) rfl ?_
    refine and2 (fun _ K1 hK1 => eqD rfl hK1) rfl ?_
    refine and4 (fun _ K1 hK1 => iaR4x0 (lR8x0 b19 (ldR b21 (qNeD rfl hK1)))) rfl ?_
    refine IfSF ?_ ?_
    · by_cases a1 : A.2.2 = 0 <;> by_cases a2 : C0.2.2 = 0 <;> by_cases a3 : E0.2.2 = 0 <;> by_cases a4 : one.2.2 = 0 <;> simp only [a1, a2, a3, a4, decide_true, decide_false, Bool.true_and, Bool.false_and, Bool.and_false]
      exact dec_same _ _ _ _ (hsa a1 a2 a3 a4)
    refine ldR b10 (iaR4x2 (lR8x4 b17 ?_))
    refine Cl2 n_rational_Mul (qtwo _ (hT.ext xx)) fun w37 x37 => ?_
    replace b10 := b10.ext x37
    replace b11 := b11.ext x37
    replace b12 := b12.ext x37
    replace b13 := b13.ext x37
    replace b14 := b14.ext x37
    replace b15 := b15.ext x37
    replace b16 := b16.ext x37
    replace b17 := b17.ext x37
    replace b18 := b18.ext x37
    replace b19 := b19.ext x37
    replace b20 := b20.ext x37
    replace b21 := b21.ext x37
    replace xx := xx.tr x37
    have z10 := b10.lt
    have z11 := b11.lt
    have z12 := b12.lt
    have z13 := b13.lt
    have z14 := b14.lt
    have z15 := b15.lt
    have z16 := b16.lt
    have z17 := b17.lt
    have z18 := b18.lt
    have z19 := b19.lt
    have z20 := b20.lt
    have z21 := b21.lt
    refine alR fun g23 w38 x38 hg23 hl23 b23 => ?_
    have k23 : w.heap.size ≤ g23 := by have := xx.size; omega
    have n10x23 : g10 ≠ g23 := by omega
    clear z10
    have n11x23 : g11 ≠ g23 := by omega
    clear z11
    have n12x23 : g12 ≠ g23 := by omega
    clear z12
    have n13x23 : g13 ≠ g23 := by omega
    clear z13
    have n14x23 : g14 ≠ g23 := by omega
    clear z14
    have n15x23 : g15 ≠ g23 := by omega
    clear z15
    have n16x23 : g16 ≠ g23 := by omega
    clear z16
    have n17x23 : g17 ≠ g23 := by omega
    clear z17
    have n18x23 : g18 ≠ g23 := by omega
    clear z18
    have n19x23 : g19 ≠ g23 := by omega
    clear z19
    have n20x23 : g20 ≠ g23 := by omega
    clear z20
    have n21x23 : g21 ≠ g23 := by omega
    clear z21
    replace b10 := b10.ext x38
    replace b11 := b11.ext x38
    replace b12 := b12.ext x38
    replace b13 := b13.ext x38
    replace b14 := b14.ext x38
    replace b15 := b15.ext x38
    replace b16 := b16.ext x38
    replace b17 := b17.ext x38
    replace b18 := b18.ext x38
    replace b19 := b19.ext x38
    replace b20 := b20.ext x38
    replace b21 := b21.ext x38
    replace xx := xx.tr x38
    clear hg23 hl23
    refine stoR b23 fun w39 o39 b23 => ?_
    replace b10 := blkOwn b10 n10x23 o39
    replace b11 := blkOwn b11 n11x23 o39
    replace b12 := blkOwn b12 n12x23 o39
    replace b13 := blkOwn b13 n13x23 o39
    replace b14 := blkOwn b14 n14x23 o39
    replace b15 := blkOwn b15 n15x23 o39
    replace b16 := blkOwn b16 n16x23 o39
    replace b17 := blkOwn b17 n17x23 o39
    replace b18 := blkOwn b18 n18x23 o39
    replace b19 := blkOwn b19 n19x23 o39
    replace b20 := blkOwn b20 n20x23 o39
    replace b21 := blkOwn b21 n21x23 o39
    replace xx := o39.ext xx k23
    refine iaR4x2 (lR8x4 b13 (ldR b12 ?_))
    refine Cl2 n_rational_Mul (qleft _ (hT.ext xx)) fun w40 x40 => ?_
    replace b10 := b10.ext x40
    replace b11 := b11.ext x40
    replace b12 := b12.ext x40
    replace b13 := b13.ext x40
    replace b14 := b14.ext x40
    replace b15 := b15.ext x40
    replace b16 := b16.ext x40
    replace b17 := b17.ext x40
    replace b18 := b18.ext x40
    replace b19 := b19.ext x40
    replace b20 := b20.ext x40
    replace b21 := b21.ext x40
    replace b23 := b23.ext x40
    replace xx := xx.tr x40
    have z10 := b10.lt
    have z11 := b11.lt
    have z12 := b12.lt
    have z13 := b13.lt
    have z14 := b14.lt
    have z15 := b15.lt
    have z16 := b16.lt
    have z17 := b17.lt
    have z18 := b18.lt
    have z19 := b19.lt
    have z20 := b20.lt
    have z21 := b21.lt
    have z23 := b23.lt
    refine alR fun g25 w41 x41 hg25 hl25 b25 => ?_
    have k25 : w.heap.size ≤ g25 := by have := xx.size; omega
    have n10x25 : g10 ≠ g25 := by omega
    clear z10
    have n11x25 : g11 ≠ g25 := by omega
    clear z11
    have n12x25 : g12 ≠ g25 := by omega
    clear z12
    have n13x25 : g13 ≠ g25 := by omega
    clear z13
    have n14x25 : g14 ≠ g25 := by omega
    clear z14
    have n15x25 : g15 ≠ g25 := by omega
    clear z15
    have n16x25 : g16 ≠ g25 := by omega
    clear z16
    have n17x25 : g17 ≠ g25 := by omega
    clear z17
    have n18x25 : g18 ≠ g25 := by omega
    clear z18
    have n19x25 : g19 ≠ g25 := by omega
    clear z19
    have n20x25 : g20 ≠ g25 := by omega
    clear z20
    have n21x25 : g21 ≠ g25 := by omega
    clear z21
    have n23x25 : g23 ≠ g25 := by omega
    clear z23
    replace b10 := b10.ext x41
    replace b11 := b11.ext x41
    replace b12 := b12.ext x41
    replace b13 := b13.ext x41
    replace b14 := b14.ext x41
    replace b15 := b15.ext x41
    replace b16 := b16.ext x41
    replace b17 := b17.ext x41
    replace b18 := b18.ext x41
    replace b19 := b19.ext x41
    replace b20 := b20.ext x41
    replace b21 := b21.ext x41
    replace b23 := b23.ext x41
    replace xx := xx.tr x41
    clear hg25 hl25
    refine stoR b25 fun w42 o42 b25 => ?_
    replace b10 := blkOwn b10 n10x25 o42
    replace b11 := blkOwn b11 n11x25 o42
    replace b12 := blkOwn b12 n12x25 o42
    replace b13 := blkOwn b13 n13x25 o42
    replace b14 := blkOwn b14 n14x25 o42
    replace b15 := blkOwn b15 n15x25 o42
    replace b16 := blkOwn b16 n16x25 o42
    replace b17 := blkOwn b17 n17x25 o42
    replace b18 := blkOwn b18 n18x25 o42
    replace b19 := blkOwn b19 n19x25 o42
    replace b20 := blkOwn b20 n20x25 o42
    replace b21 := blkOwn b21 n21x25 o42
    replace b23 := blkOwn b23 n23x25 o42
    replace xx := o42.ext xx k25
    refine iaE4x2 (lE4x2 b14 (eqD rfl ?_))
    refine and3 (fun _ K1 hK1 => iaE4x2 (lE4x2 b18 (eqD rfl hK1))) rfl ?_
    refine and2 (fun _ K1 hK1 => eqD rfl hK1) rfl ?_
    refine and2 (fun _ K1 hK1 => eqD rfl hK1) rfl ?_
    refine and3 (fun _ K1 hK1 => ldR b23 (ldR b25 (qNeD rfl hK1))) rfl ?_
    refine IfSF ?_ ?_
    · by_cases a1 : M.2.2 = 0 <;> by_cases a2 : C2.2.2 = 0 <;> by_cases a3 : two.2.2 = 0 <;> by_cases a4 : left.2.2 = 0 <;> simp only [a1, a2, a3, a4, decide_true, decide_false, Bool.true_and, Bool.false_and, Bool.and_false]
      exact dec_same _ _ _ _ (ham a1 a2 a3 a4)
    refine ldR b10 (ldR b12 ?_)
    refine Cl2 n_rational_Mul (qac _ (hT.ext xx)) fun w43 x43 => ?_
    replace b10 := b10.ext x43
    replace b11 := b11.ext x43
    replace b12 := b12.ext x43
    replace b13 := b13.ext x43
    replace b14 := b14.ext x43
    replace b15 := b15.ext x43
    replace b16 := b16.ext x43
    replace b17 := b17.ext x43
    replace b18 := b18.ext x43
    replace b19 := b19.ext x43
    replace b20 := b20.ext x43
    replace b21 := b21.ext x43
    replace b23 := b23.ext x43
    replace b25 := b25.ext x43
    replace xx := xx.tr x43
    have z10 := b10.lt
    have z11 := b11.lt
    have z12 := b12.lt
    have z13 := b13.lt
    have z14 := b14.lt
    have z15 := b15.lt
    have z16 := b16.lt
    have z17 := b17.lt
    have z18 := b18.lt
    have z19 := b19.lt
    have z20 := b20.lt
    have z21 := b21.lt
    have z23 := b23.lt
    have z25 := b25.lt
    refine alR fun g27 w44 x44 hg27 hl27 b27 => ?_
    have k27 : w.heap.size ≤ g27 := by have := xx.size; omega
    have n10x27 : g10 ≠ g27 := by omega
    clear z10
    have n11x27 : g11 ≠ g27 := by omega
    clear z11
    have n12x27 : g12 ≠ g27 := by omega
    clear z12
    have n13x27 : g13 ≠ g27 := by omega
    clear z13
    have n14x27 : g14 ≠ g27 := by omega
    clear z14
    have n15x27 : g15 ≠ g27 := by omega
    clear z15
    have n16x27 : g16 ≠ g27 := by omega
    clear z16
    have n17x27 : g17 ≠ g27 := by omega
    clear z17
    have n18x27 : g18 ≠ g27 := by omega
    clear z18
    have n19x27 : g19 ≠ g27 := by omega
    clear z19
    have n20x27 : g20 ≠ g27 := by omega
    clear z20
    have n21x27 : g21 ≠ g27 := by omega
    clear z21
    have n23x27 : g23 ≠ g27 := by omega
    clear z23
    have n25x27 : g25 ≠ g27 := by omega
    clear z25
    replace b10 := b10.ext x44
    replace b11 := b11.ext x44
    replace b12 := b12.ext x44
    replace b13 := b13.ext x44
    replace b14 := b14.ext x44
    replace b15 := b15.ext x44
    replace b16 := b16.ext x44
    replace b17 := b17.ext x44
    replace b18 := b18.ext x44
    replace b19 := b19.ext x44
    replace b20 := b20.ext x44
    replace b21 := b21.ext x44
    replace b23 := b23.ext x44
    replace b25 := b25.ext x44
    replace xx := xx.tr x44
    clear hg27 hl27
    refine stoR b27 fun w45 o45 b27 => ?_
    replace b10 := blkOwn b10 n10x27 o45
    replace b11 := blkOwn b11 n11x27 o45
    replace b12 := blkOwn b12 n12x27 o45
    replace b13 := blkOwn b13 n13x27 o45
    replace b14 := blkOwn b14 n14x27 o45
    replace b15 := blkOwn b15 n15x27 o45
    replace b16 := blkOwn b16 n16x27 o45
    replace b17 := blkOwn b17 n17x27 o45
    replace b18 := blkOwn b18 n18x27 o45
    replace b19 := blkOwn b19 n19x27 o45
    replace b20 := blkOwn b20 n20x27 o45
    replace b21 := blkOwn b21 n21x27 o45
    replace b23 := blkOwn b23 n23x27 o45
    replace b25 := blkOwn b25 n25x27 o45
    replace xx := o45.ext xx k27
    refine ldR b27 (iaR4x2 (lR8x4 b17 ?_))
    refine Cl2 n_rational_Add (qsum _ (hT.ext xx)) fun w46 x46 => ?_
    replace b10 := b10.ext x46
    replace b11 := b11.ext x46
    replace b12 := b12.ext x46
    replace b13 := b13.ext x46
    replace b14 := b14.ext x46
    replace b15 := b15.ext x46
    replace b16 := b16.ext x46
    replace b17 := b17.ext x46
    replace b18 := b18.ext x46
    replace b19 := b19.ext x46
    replace b20 := b20.ext x46
    replace b21 := b21.ext x46
    replace b23 := b23.ext x46
    replace b25 := b25.ext x46
    replace b27 := b27.ext x46
    replace xx := xx.tr x46
    have z10 := b10.lt
    have z11 := b11.lt
    have z12 := b12.lt
    have z13 := b13.lt
    have z14 := b14.lt
    have z15 := b15.lt
    have z16 := b16.lt
    have z17 := b17.lt
    have z18 := b18.lt
    have z19 := b19.lt
    have z20 := b20.lt
    have z21 := b21.lt
    have z23 := b23.lt
    have z25 := b25.lt
    have z27 := b27.lt
    refine alR fun g29 w47 x47 hg29 hl29 b29 => ?_
    have k29 : w.heap.size ≤ g29 := by have := xx.size; omega
    have n10x29 : g10 ≠ g29 := by omega
    clear z10
    have n11x29 : g11 ≠ g29 := by omega
    clear z11
    have n12x29 : g12 ≠ g29 := by omega
    clear z12
    have n13x29 : g13 ≠ g29 := by omega
    clear z13
    have n14x29 : g14 ≠ g29 := by omega
    clear z14
    have n15x29 : g15 ≠ g29 := by omega
    clear z15
    have n16x29 : g16 ≠ g29 := by omega
    clear z16
    have n17x29 : g17 ≠ g29 := by omega
    clear z17
    have n18x29 : g18 ≠ g29 := by omega
    clear z18
    have n19x29 : g19 ≠ g29 := by omega
    clear z19
    have n20x29 : g20 ≠ g29 := by omega
    clear z20
    have n21x29 : g21 ≠ g29 := by omega
    clear z21
    have n23x29 : g23 ≠ g29 := by omega
    clear z23
    have n25x29 : g25 ≠ g29 := by omega
    clear z25
    have n27x29 : g27 ≠ g29 := by omega
    clear z27
    replace b10 := b10.ext x47
    replace b11 := b11.ext x47
    replace b12 := b12.ext x47
    replace b13 := b13.ext x47
    replace b14 := b14.ext x47
    replace b15 := b15.ext x47
    replace b16 := b16.ext x47
    replace b17 := b17.ext x47
    replace b18 := b18.ext x47
    replace b19 := b19.ext x47
    replace b20 := b20.ext x47
    replace b21 := b21.ext x47
    replace b23 := b23.ext x47
    replace b25 := b25.ext x47
    replace b27 := b27.ext x47
    replace xx := xx.tr x47
    clear hg29 hl29
    refine stoR b29 fun w48 o48 b29 => ?_
    replace b10 := blkOwn b10 n10x29 o48
    replace b11 := blkOwn b11 n11x29 o48
    replace b12 := blkOwn b12 n12x29 o48
    replace b13 := blkOwn b13 n13x29 o48
    replace b14 := blkOwn b14 n14x29 o48
    replace b15 := blkOwn b15 n15x29 o48
    replace b16 := blkOwn b16 n16x29 o48
    replace b17 := blkOwn b17 n17x29 o48
    replace b18 := blkOwn b18 n18x29 o48
    replace b19 := blkOwn b19 n19x29 o48
    replace b20 := blkOwn b20 n20x29 o48
    replace b21 := blkOwn b21 n21x29 o48
    replace b23 := blkOwn b23 n23x29 o48
    replace b25 := blkOwn b25 n25x29 o48
    replace b27 := blkOwn b27 n27x29 o48
    replace xx := o48.ext xx k29
    refine iaR4x0 (lR8x0 b13 (ldR b12 ?_))
    refine Cl2 n_rational_Mul (qwhole _ (hT.ext xx)) fun w49 x49 => ?_
    replace b10 := b10.ext x49
    replace b11 := b11.ext x49
    replace b12 := b12.ext x49
    replace b13 := b13.ext x49
    replace b14 := b14.ext x49
    replace b15 := b15.ext x49
    replace b16 := b16.ext x49
    replace b17 := b17.ext x49
    replace b18 := b18.ext x49
    replace b19 := b19.ext x49
    replace b20 := b20.ext x49
    replace b21 := b21.ext x49
    replace b23 := b23.ext x49
    replace b25 := b25.ext x49
    replace b27 := b27.ext x49
    replace b29 := b29.ext x49
    replace xx := xx.tr x49
    have z10 := b10.lt
    have z11 := b11.lt
    have z12 := b12.lt
    have z13 := b13.lt
    have z14 := b14.lt
    have z15 := b15.lt
    have z16 := b16.lt
    have z17 := b17.lt
    have z18 := b18.lt
    have z19 := b19.lt
    have z20 := b20.lt
    have z21 := b21.lt
    have z23 := b23.lt
    have z25 := b25.lt
    have z27 := b27.lt
    have z29 := b29.lt
    refine alR fun g31 w50 x50 hg31 hl31 b31 => ?_
    have k31 : w.heap.size ≤ g31 := by have := xx.size; omega
    have n10x31 : g10 ≠ g31 := by omega
    clear z10
    have n11x31 : g11 ≠ g31 := by omega
    clear z11
    have n12x31 : g12 ≠ g31 := by omega
    clear z12
    have n13x31 : g13 ≠ g31 := by omega
    clear z13
    have n14x31 : g14 ≠ g31 := by omega
    clear z14
    have n15x31 : g15 ≠ g31 := by omega
    clear z15
    have n16x31 : g16 ≠ g31 := by omega
    clear z16
    have n17x31 : g17 ≠ g31 := by omega
    clear z17
    have n18x31 : g18 ≠ g31 := by omega
    clear z18
    have n19x31 : g19 ≠ g31 := by omega
    clear z19
    have n20x31 : g20 ≠ g31 := by omega
    clear z20
    have n21x31 : g21 ≠ g31 := by omega
    clear z21
    have n23x31 : g23 ≠ g31 := by omega
    clear z23
    have n25x31 : g25 ≠ g31 := by omega
    clear z25
    have n27x31 : g27 ≠ g31 := by omega
    clear z27
    have n29x31 : g29 ≠ g31 := by omega
    clear z29
    replace b10 := b10.ext x50
    replace b11 := b11.ext x50
    replace b12 := b12.ext x50
    replace b13 := b13.ext x50
    replace b14 := b14.ext x50
    replace b15 := b15.ext x50
    replace b16 := b16.ext x50
    replace b17 := b17.ext x50
    replace b18 := b18.ext x50
    replace b19 := b19.ext x50
    replace b20 := b20.ext x50
    replace b21 := b21.ext x50
    replace b23 := b23.ext x50
    replace b25 := b25.ext x50
    replace b27 := b27.ext x50
    replace b29 := b29.ext x50
    replace xx := xx.tr x50
    clear hg31 hl31
    refine stoR b31 fun w51 o51 b31 => ?_
    replace b10 := blkOwn b10 n10x31 o51
    replace b11 := blkOwn b11 n11x31 o51
    replace b12 := blkOwn b12 n12x31 o51
    replace b13 := blkOwn b13 n13x31 o51
    replace b14 := blkOwn b14 n14x31 o51
    replace b15 := blkOwn b15 n15x31 o51
    replace b16 := blkOwn b16 n16x31 o51
    replace b17 := blkOwn b17 n17x31 o51
    replace b18 := blkOwn b18 n18x31 o51
    replace b19 := blkOwn b19 n19x31 o51
    replace b20 := blkOwn b20 n20x31 o51
    replace b21 := blkOwn b21 n21x31 o51
    replace b23 := blkOwn b23 n23x31 o51
    replace b25 := blkOwn b25 n25x31 o51
    replace b27 := blkOwn b27 n27x31 o51
    replace b29 := blkOwn b29 n29x31 o51
    replace xx := o51.ext xx k31
    refine iaE4x0 (lE4x0 b14 (eqD rfl ?_))
    refine and2 (fun _ K1 hK1 => eqD rfl hK1) rfl ?_
    refine and3 (fun _ K1 hK1 => iaE4x2 (lE4x2 b18 (eqD rfl hK1))) rfl ?_
    refine and2 (fun _ K1 hK1 => eqD rfl hK1) rfl ?_
    refine and2 (fun _ K1 hK1 => eqD rfl hK1) rfl ?_
    refine and3 (fun _ K1 hK1 => ldR b29 (ldR b31 (qNeD rfl hK1))) rfl ?_
    refine IfSF ?_ ?_
    · by_cases a1 : A.2.2 = 0 <;> by_cases a2 : ac.2.2 = 0 <;> by_cases a3 : C2.2.2 = 0 <;> by_cases a4 : sum.2.2 = 0 <;> by_cases a5 : whole.2.2 = 0 <;> simp only [a1, a2, a3, a4, a5, decide_true, decide_false, Bool.true_and, Bool.false_and, Bool.and_false]
      exact dec_same _ _ _ _ (hds a1 a2 a3 a4 a5)
    refine iaR4x0 (lR8x0 b13 (ldR b11 ?_))
    refine Cl2 n_rational_Sub (qback _ (hT.ext xx)) fun w52 x52 => ?_
    replace b10 := b10.ext x52
    replace b11 := b11.ext x52
    replace b12 := b12.ext x52
    replace b13 := b13.ext x52
    replace b14 := b14.ext x52
    replace b15 := b15.ext x52
    replace b16 := b16.ext x52
    replace b17 := b17.ext x52
    replace b18 := b18.ext x52
    replace b19 := b19.ext x52
    replace b20 := b20.ext x52
    replace b21 := b21.ext x52
    replace b23 := b23.ext x52
    replace b25 := b25.ext x52
    replace b27 := b27.ext x52
    replace b29 := b29.ext x52
    replace b31 := b31.ext x52
    replace xx := xx.tr x52
    have z10 := b10.lt
    have z11 := b11.lt
    have z12 := b12.lt
    have z13 := b13.lt
    have z14 := b14.lt
    have z15 := b15.lt
    have z16 := b16.lt
    have z17 := b17.lt
    have z18 := b18.lt
    have z19 := b19.lt
    have z20 := b20.lt
    have z21 := b21.lt
    have z23 := b23.lt
    have z25 := b25.lt
    have z27 := b27.lt
    have z29 := b29.lt
    have z31 := b31.lt
    refine alR fun g33 w53 x53 hg33 hl33 b33 => ?_
    have k33 : w.heap.size ≤ g33 := by have := xx.size; omega
    have n10x33 : g10 ≠ g33 := by omega
    clear z10
    have n11x33 : g11 ≠ g33 := by omega
    clear z11
    have n12x33 : g12 ≠ g33 := by omega
    clear z12
    have n13x33 : g13 ≠ g33 := by omega
    clear z13
    have n14x33 : g14 ≠ g33 := by omega
    clear z14
    have n15x33 : g15 ≠ g33 := by omega
    clear z15
    have n16x33 : g16 ≠ g33 := by omega
    clear z16
    have n17x33 : g17 ≠ g33 := by omega
    clear z17
    have n18x33 : g18 ≠ g33 := by omega
    clear z18
    have n19x33 : g19 ≠ g33 := by omega
    clear z19
    have n20x33 : g20 ≠ g33 := by omega
    clear z20
    have n21x33 : g21 ≠ g33 := by omega
    clear z21
    have n23x33 : g23 ≠ g33 := by omega
    clear z23
    have n25x33 : g25 ≠ g33 := by omega
    clear z25
    have n27x33 : g27 ≠ g33 := by omega
    clear z27
    have n29x33 : g29 ≠ g33 := by omega
    clear z29
    have n31x33 : g31 ≠ g33 := by omega
    clear z31
    replace b10 := b10.ext x53
    replace b11 := b11.ext x53
    replace b12 := b12.ext x53
    replace b13 := b13.ext x53
    replace b14 := b14.ext x53
    replace b15 := b15.ext x53
    replace b16 := b16.ext x53
    replace b17 := b17.ext x53
    replace b18 := b18.ext x53
    replace b19 := b19.ext x53
    replace b20 := b20.ext x53
    replace b21 := b21.ext x53
    replace b23 := b23.ext x53
    replace b25 := b25.ext x53
    replace b27 := b27.ext x53
    replace b29 := b29.ext x53
    replace b31 := b31.ext x53
    replace xx := xx.tr x53
    clear hg33 hl33
    refine stoR b33 fun w54 o54 b33 => ?_
    replace b10 := blkOwn b10 n10x33 o54
    replace b11 := blkOwn b11 n11x33 o54
    replace b12 := blkOwn b12 n12x33 o54
    replace b13 := blkOwn b13 n13x33 o54
    replace b14 := blkOwn b14 n14x33 o54
    replace b15 := blkOwn b15 n15x33 o54
    replace b16 := blkOwn b16 n16x33 o54
    replace b17 := blkOwn b17 n17x33 o54
    replace b18 := blkOwn b18 n18x33 o54
    replace b19 := blkOwn b19 n19x33 o54
    replace b20 := blkOwn b20 n20x33 o54
    replace b21 := blkOwn b21 n21x33 o54
    replace b23 := blkOwn b23 n23x33 o54
    replace b25 := blkOwn b25 n25x33 o54
    replace b27 := blkOwn b27 n27x33 o54
    replace b29 := blkOwn b29 n29x33 o54
    replace b31 := blkOwn b31 n31x33 o54
    replace xx := o54.ext xx k33
    refine iaR4x3 (lR8x6 b13 (ldR b11 ?_))
    refine Cl2 n_rational_Mul (qagain _ (hT.ext xx)) fun w55 x55 => ?_
    replace b10 := b10.ext x55
    replace b11 := b11.ext x55
    replace b12 := b12.ext x55
    replace b13 := b13.ext x55
    replace b14 := b14.ext x55
    replace b15 := b15.ext x55
    replace b16 := b16.ext x55
    replace b17 := b17.ext x55
    replace b18 := b18.ext x55
    replace b19 := b19.ext x55
    replace b20 := b20.ext x55
    replace b21 := b21.ext x55
    replace b23 := b23.ext x55
    replace b25 := b25.ext x55
    replace b27 := b27.ext x55
    replace b29 := b29.ext x55
    replace b31 := b31.ext x55
    replace b33 := b33.ext x55
    replace xx := xx.tr x55
    have z10 := b10.lt
    have z11 := b11.lt
    have z12 := b12.lt
    have z13 := b13.lt
    have z14 := b14.lt
    have z15 := b15.lt
    have z16 := b16.lt
    have z17 := b17.lt
    have z18 := b18.lt
    have z19 := b19.lt
    have z20 := b20.lt
    have z21 := b21.lt
    have z23 := b23.lt
    have z25 := b25.lt
    have z27 := b27.lt
    have z29 := b29.lt
    have z31 := b31.lt
    have z33 := b33.lt
    refine alR fun g35 w56 x56 hg35 hl35 b35 => ?_
    have k35 : w.heap.size ≤ g35 := by have := xx.size; omega
    have n10x35 : g10 ≠ g35 := by omega
    clear z10
    have n11x35 : g11 ≠ g35 := by omega
    clear z11
    have n12x35 : g12 ≠ g35 := by omega
    clear z12
    have n13x35 : g13 ≠ g35 := by omega
    clear z13
    have n14x35 : g14 ≠ g35 := by omega
    clear z14
    have n15x35 : g15 ≠ g35 := by omega
    clear z15
    have n16x35 : g16 ≠ g35 := by omega
    clear z16
    have n17x35 : g17 ≠ g35 := by omega
    clear z17
    have n18x35 : g18 ≠ g35 := by omega
    clear z18
    have n19x35 : g19 ≠ g35 := by omega
    clear z19
    have n20x35 : g20 ≠ g35 := by omega
    clear z20
    have n21x35 : g21 ≠ g35 := by omega
    clear z21
    have n23x35 : g23 ≠ g35 := by omega
    clear z23
    have n25x35 : g25 ≠ g35 := by omega
    clear z25
    have n27x35 : g27 ≠ g35 := by omega
    clear z27
    have n29x35 : g29 ≠ g35 := by omega
    clear z29
    have n31x35 : g31 ≠ g35 := by omega
    clear z31
    have n33x35 : g33 ≠ g35 := by omega
    clear z33
    replace b10 := b10.ext x56
    replace b11 := b11.ext x56
    replace b12 := b12.ext x56
    replace b13 := b13.ext x56
    replace b14 := b14.ext x56
    replace b15 := b15.ext x56
    replace b16 := b16.ext x56
    replace b17 := b17.ext x56
    replace b18 := b18.ext x56
    replace b19 := b19.ext x56
    replace b20 := b20.ext x56
    replace b21 := b21.ext x56
    replace b23 := b23.ext x56
    replace b25 := b25.ext x56
    replace b27 := b27.ext x56
    replace b29 := b29.ext x56
    replace b31 := b31.ext x56
    replace b33 := b33.ext x56
    replace xx := xx.tr x56
    clear hg35 hl35
    refine stoR b35 fun w57 o57 b35 => ?_
    replace b10 := blkOwn b10 n10x35 o57
    replace b11 := blkOwn b11 n11x35 o57
    replace b12 := blkOwn b12 n12x35 o57
    replace b13 := blkOwn b13 n13x35 o57
    replace b14 := blkOwn b14 n14x35 o57
    replace b15 := blkOwn b15 n15x35 o57
    replace b16 := blkOwn b16 n16x35 o57
    replace b17 := blkOwn b17 n17x35 o57
    replace b18 := blkOwn b18 n18x35 o57
    replace b19 := blkOwn b19 n19x35 o57
    replace b20 := blkOwn b20 n20x35 o57
    replace b21 := blkOwn b21 n21x35 o57
    replace b23 := blkOwn b23 n23x35 o57
    replace b25 := blkOwn b25 n25x35 o57
    replace b27 := blkOwn b27 n27x35 o57
    replace b29 := blkOwn b29 n29x35 o57
    replace b31 := blkOwn b31 n31x35 o57
    replace b33 := blkOwn b33 n33x35 o57
    replace xx := o57.ext xx k35
    refine Gd_T (iaE4x0 (Gd_T (lE4x0 b14 (Gd_T (neD rfl (Gd_T ?_))))))
    refine org2 (fun _ K1 hK1 => neD rfl hK1) rfl ?_
    refine Gd_T ?_
    refine org3 (fun _ K1 hK1 => ldR b33 (ldR b10 (qEqD rfl hK1))) (v := true) ?_ (Pick_T ?_)
    · by_cases a1 : A.2.2 = 0 <;> by_cases a2 : back.2.2 = 0 <;> simp only [a1, a2, ne_eq, not_true_eq_false, not_false_eq_true, decide_true, decide_false, Bool.true_or, Bool.or_true, Bool.false_or]
      obtain ⟨u1, u2⟩ := hbk a1 a2
      rw [u1, u2]; exact same2 _ _
    refine Gd_T (iaE4x3 (Gd_T (lE4x3 b14 (Gd_T (neD rfl (Gd_T ?_))))))
    refine org2 (fun _ K1 hK1 => neD rfl hK1) rfl ?_
    refine Gd_T ?_
    refine org3 (fun _ K1 hK1 => ldR b35 (ldR b10 (qEqD rfl hK1))) (v := true) ?_ (Pick_T ?_)
    · by_cases a1 : D.2.2 = 0 <;> by_cases a2 : again.2.2 = 0 <;> simp only [a1, a2, ne_eq, not_true_eq_false, not_false_eq_true, decide_true, decide_false, Bool.true_or, Bool.or_true, Bool.false_or]
      obtain ⟨u1, u2⟩ := hag a1 a2
      rw [u1, u2]; exact same2 _ _
    exact Ret.mk ⟨xx, rfl⟩
  refine If_F ?_
  have sx := smallQ_SR p0 p1
  have sy := smallQ_SR y0 y1
  exact main _ _ _ (sx.rb (by decide) (by decide)) (sy.rb (by decide) (by decide)) (.inl ⟨by rw [qadd_ok sx sy (k := 5) (by decide) (by decide) (by decide) (by decide)]; rfl, by rw [qmul_ok sx sy (by decide) (by decide)]; rfl⟩) xx b10 b11 b12
set_option maxHeartbeats 4000000 in
theorem field_true {p0 p1 p2 p3 y0 y1 y2 y3 z0 z1 : Int} {w : World} (rx0 : R64 p0) (rx1 : R64 p1) (rx2 : R64 p2) (rx3 : R64 p3) (ry0 : R64 y0) (ry1 : R64 y1) (ry2 : R64 y2) (ry3 : R64 y3) (rz0 : R64 z0) (rz1 : R64 z1) (hT : Tab w) (hM : MaxV w) :
    Calls Tryz.prog 8 #[.agg #[.int .i64 p0, .int .i64 p1, .int .i64 p2, .int .i64 p3], .agg #[.int .i64 y0, .int .i64 y1, .int .i64 y2, .int .i64 y3], .agg #[.int .i64 z0, .int .i64 z1], .bool true] w (Ret fun r w' => Ext w w' ∧ r = .bool true) := by
  have hz : RB (smallQ z0 z1) := (smallQ_SR z0 z1).rb (by decide) (by decide)
  have cz := fun w : World => c_Small (w := w) rz0 rz1
  obtain ⟨z, hze⟩ : ∃ z : Rat, z = smallQ z0 z1 := ⟨_, rfl⟩
  rw [← hze] at hz
  simp only [← hze] at cz
  clear hze
  apply e_law04_RationalField
  unfold s_law04_RationalField
  refine bxI4 fun g4 w1 x1 hg4 hl4 b4 => ?_
  have k4 : w.heap.size ≤ g4 := hg4
  have xx := x1
  clear hg4 hl4
  have z4 := b4.lt
  refine bxI4 fun g5 w2 x2 hg5 hl5 b5 => ?_
  have k5 : w.heap.size ≤ g5 := by have := xx.size; omega
  have n4x5 : g4 ≠ g5 := by omega
  clear z4
  replace b4 := b4.ext x2
  replace xx := xx.tr x2
  clear hg5 hl5
  have z4 := b4.lt
  have z5 := b5.lt
  refine bxI2 fun g6 w3 x3 hg6 hl6 b6 => ?_
  have k6 : w.heap.size ≤ g6 := by have := xx.size; omega
  have n4x6 : g4 ≠ g6 := by omega
  clear z4
  have n5x6 : g5 ≠ g6 := by omega
  clear z5
  replace b4 := b4.ext x3
  replace b5 := b5.ext x3
  replace xx := xx.tr x3
  clear hg6 hl6
  refine Cl1 n_law04_sane (c_sane (hT.ext xx) (hM.ext xx)) fun w4 x4 => ?_
  replace b4 := b4.ext x4
  replace b5 := b5.ext x4
  replace b6 := b6.ext x4
  replace xx := xx.tr x4
  refine iaI4x0 (lI4x0 b4 (iaI4x1 (lI4x1 b4 (bdI2 ?_))))
  refine Cl1 n_ref04_Small (c_Small rx0 rx1) fun w5 x5 => ?_
  replace b4 := b4.ext x5
  replace b5 := b5.ext x5
  replace b6 := b6.ext x5
  replace xx := xx.tr x5
  have z4 := b4.lt
  have z5 := b5.lt
  have z6 := b6.lt
  refine alR fun g10 w6 x6 hg10 hl10 b10 => ?_
  have k10 : w.heap.size ≤ g10 := by have := xx.size; omega
  have n4x10 : g4 ≠ g10 := by omega
  clear z4
  have n5x10 : g5 ≠ g10 := by omega
  clear z5
  have n6x10 : g6 ≠ g10 := by omega
  clear z6
  replace b4 := b4.ext x6
  replace b5 := b5.ext x6
  replace b6 := b6.ext x6
  replace xx := xx.tr x6
  clear hg10 hl10
  refine stoR b10 fun w7 o7 b10 => ?_
  replace b4 := blkOwn b4 n4x10 o7
  replace b5 := blkOwn b5 n5x10 o7
  replace b6 := blkOwn b6 n6x10 o7
  replace xx := o7.ext xx k10
  refine iaI4x0 (lI4x0 b5 (iaI4x1 (lI4x1 b5 (bdI2 ?_))))
  refine Cl1 n_ref04_Small (c_Small ry0 ry1) fun w8 x8 => ?_
  replace b4 := b4.ext x8
  replace b5 := b5.ext x8
  replace b6 := b6.ext x8
  replace b10 := b10.ext x8
  replace xx := xx.tr x8
  have z4 := b4.lt
  have z5 := b5.lt
  have z6 := b6.lt
  have z10 := b10.lt
  refine alR fun g11 w9 x9 hg11 hl11 b11 => ?_
  have k11 : w.heap.size ≤ g11 := by have := xx.size; omega
  have n4x11 : g4 ≠ g11 := by omega
  clear z4
  have n5x11 : g5 ≠ g11 := by omega
  clear z5
  have n6x11 : g6 ≠ g11 := by omega
  clear z6
  have n10x11 : g10 ≠ g11 := by omega
  clear z10
  replace b4 := b4.ext x9
  replace b5 := b5.ext x9
  replace b6 := b6.ext x9
  replace b10 := b10.ext x9
  replace xx := xx.tr x9
  clear hg11 hl11
  refine stoR b11 fun w10 o10 b11 => ?_
  replace b4 := blkOwn b4 n4x11 o10
  replace b5 := blkOwn b5 n5x11 o10
  replace b6 := blkOwn b6 n6x11 o10
  replace b10 := blkOwn b10 n10x11 o10
  replace xx := o10.ext xx k11
  refine ldI2 b6 ?_
  refine Cl1 n_ref04_Small (cz _) fun w11 x11 => ?_
  replace b4 := b4.ext x11
  replace b5 := b5.ext x11
  replace b6 := b6.ext x11
  replace b10 := b10.ext x11
  replace b11 := b11.ext x11
  replace xx := xx.tr x11
  have z4 := b4.lt
  have z5 := b5.lt
  have z6 := b6.lt
  have z10 := b10.lt
  have z11 := b11.lt
  refine alR fun g12 w12 x12 hg12 hl12 b12 => ?_
  have k12 : w.heap.size ≤ g12 := by have := xx.size; omega
  have n4x12 : g4 ≠ g12 := by omega
  clear z4
  have n5x12 : g5 ≠ g12 := by omega
  clear z5
  have n6x12 : g6 ≠ g12 := by omega
  clear z6
  have n10x12 : g10 ≠ g12 := by omega
  clear z10
  have n11x12 : g11 ≠ g12 := by omega
  clear z11
  replace b4 := b4.ext x12
  replace b5 := b5.ext x12
  replace b6 := b6.ext x12
  replace b10 := b10.ext x12
  replace b11 := b11.ext x12
  replace xx := xx.tr x12
  clear hg12 hl12
  refine stoR b12 fun w13 o13 b12 => ?_
  replace b4 := blkOwn b4 n4x12 o13
  replace b5 := blkOwn b5 n5x12 o13
  replace b6 := blkOwn b6 n6x12 o13
  replace b10 := blkOwn b10 n10x12 o13
  replace b11 := blkOwn b11 n11x12 o13
  replace xx := o13.ext xx k12
  refine Jn0.mk ?_
  intro K hK
  have main : ∀ (x y : Rat) (W : World), RB x → RB y → ((addQ x y).2.2 = 0 ∧ (mulQ x y).2.2 = 0 ∨ true = true) → Ext w W → Blk W g10 tR [str (Lib.itoa x.num), str (Lib.itoa (x.den : Int))] → Blk W g11 tR [str (Lib.itoa y.num), str (Lib.itoa (y.den : Int))] → Blk W g12 tR [str (Lib.itoa z.num), str (Lib.itoa (z.den : Int))] → K W := by
    clear b4 b5 b6 b10 b11 b12 xx
    intro x y W hx hy hsm xx b10 b11 b12
    have lx := rb_len hx
    have ly := rb_len hy
    have lz := rb_len hz
    obtain ⟨A, eA⟩ : ∃ t, t = ans2 addQ rBad (Lib.itoa x.num) (Lib.itoa (x.den : Int)) (Lib.itoa y.num) (Lib.itoa (y.den : Int)) := ⟨_, rfl⟩
    obtain ⟨B, eB⟩ : ∃ t, t = ans2 subQ rBad (Lib.itoa x.num) (Lib.itoa (x.den : Int)) (Lib.itoa y.num) (Lib.itoa (y.den : Int)) := ⟨_, rfl⟩
    obtain ⟨M, eM⟩ : ∃ t, t = ans2 mulQ rBad (Lib.itoa x.num) (Lib.itoa (x.den : Int)) (Lib.itoa y.num) (Lib.itoa (y.den : Int)) := ⟨_, rfl⟩
    obtain ⟨D, eD⟩ : ∃ t, t = ans2 divQ rBad (Lib.itoa x.num) (Lib.itoa (x.den : Int)) (Lib.itoa y.num) (Lib.itoa (y.den : Int)) := ⟨_, rfl⟩
    obtain ⟨S0, eS0⟩ : ∃ t, t = ans2 addQ rBad (Lib.itoa y.num) (Lib.itoa (y.den : Int)) (Lib.itoa x.num) (Lib.itoa (x.den : Int)) := ⟨_, rfl⟩
    obtain ⟨S1, eS1⟩ : ∃ t, t = ans2 subQ rBad (Lib.itoa y.num) (Lib.itoa (y.den : Int)) (Lib.itoa x.num) (Lib.itoa (x.den : Int)) := ⟨_, rfl⟩
    obtain ⟨S2, eS2⟩ : ∃ t, t = ans2 mulQ rBad (Lib.itoa y.num) (Lib.itoa (y.den : Int)) (Lib.itoa x.num) (Lib.itoa (x.den : Int)) := ⟨_, rfl⟩
    obtain ⟨S3, eS3⟩ : ∃ t, t = ans2 divQ rBad (Lib.itoa y.num) (Lib.itoa (y.den : Int)) (Lib.itoa x.num) (Lib.itoa (x.den : Int)) := ⟨_, rfl⟩
    obtain ⟨C0, eC0⟩ : ∃ t, t = ans2 addQ rBad (Lib.itoa y.num) (Lib.itoa (y.den : Int)) (Lib.itoa z.num) (Lib.itoa (z.den : Int)) := ⟨_, rfl⟩
    obtain ⟨C1, eC1⟩ : ∃ t, t = ans2 subQ rBad (Lib.itoa y.num) (Lib.itoa (y.den : Int)) (Lib.itoa z.num) (Lib.itoa (z.den : Int)) := ⟨_, rfl⟩
    obtain ⟨C2, eC2⟩ : ∃ t, t = ans2 mulQ rBad (Lib.itoa y.num) (Lib.itoa (y.den : Int)) (Lib.itoa z.num) (Lib.itoa (z.den : Int)) := ⟨_, rfl⟩
    obtain ⟨C3, eC3⟩ : ∃ t, t = ans2 divQ rBad (Lib.itoa y.num) (Lib.itoa (y.den : Int)) (Lib.itoa z.num) (Lib.itoa (z.den : Int)) := ⟨_, rfl⟩
    obtain ⟨E0, eE0⟩ : ∃ t, t = ans2 addQ rBad A.1 A.2.1 (Lib.itoa z.num) (Lib.itoa (z.den : Int)) := ⟨_, rfl⟩
    obtain ⟨E1, eE1⟩ : ∃ t, t = ans2 subQ rBad A.1 A.2.1 (Lib.itoa z.num) (Lib.itoa (z.den : Int)) := ⟨_, rfl⟩
    obtain ⟨E2, eE2⟩ : ∃ t, t = ans2 mulQ rBad A.1 A.2.1 (Lib.itoa z.num) (Lib.itoa (z.den : Int)) := ⟨_, rfl⟩
    obtain ⟨E3, eE3⟩ : ∃ t, t = ans2 divQ rBad A.1 A.2.1 (Lib.itoa z.num) (Lib.itoa (z.den : Int)) := ⟨_, rfl⟩
    obtain ⟨one, eone⟩ : ∃ t, t = ans2 addQ rBad (Lib.itoa x.num) (Lib.itoa (x.den : Int)) C0.1 C0.2.1 := ⟨_, rfl⟩
    obtain ⟨two, etwo⟩ : ∃ t, t = ans2 mulQ rBad (Lib.itoa x.num) (Lib.itoa (x.den : Int)) C2.1 C2.2.1 := ⟨_, rfl⟩
    obtain ⟨left, eleft⟩ : ∃ t, t = ans2 mulQ rBad M.1 M.2.1 (Lib.itoa z.num) (Lib.itoa (z.den : Int)) := ⟨_, rfl⟩
    obtain ⟨ac, eac⟩ : ∃ t, t = ans2 mulQ rBad (Lib.itoa x.num) (Lib.itoa (x.den : Int)) (Lib.itoa z.num) (Lib.itoa (z.den : Int)) := ⟨_, rfl⟩
    obtain ⟨sum, esum⟩ : ∃ t, t = ans2 addQ rBad ac.1 ac.2.1 C2.1 C2.2.1 := ⟨_, rfl⟩
    obtain ⟨whole, ewhole⟩ : ∃ t, t = ans2 mulQ rBad A.1 A.2.1 (Lib.itoa z.num) (Lib.itoa (z.den : Int)) := ⟨_, rfl⟩
    obtain ⟨back, eback⟩ : ∃ t, t = ans2 subQ rBad A.1 A.2.1 (Lib.itoa y.num) (Lib.itoa (y.den : Int)) := ⟨_, rfl⟩
    obtain ⟨again, eagain⟩ : ∃ t, t = ans2 mulQ rBad D.1 D.2.1 (Lib.itoa y.num) (Lib.itoa (y.den : Int)) := ⟨_, rfl⟩
    have lA : Short A := by rw [eA]; exact short_ans short_add _ _ _ _
    have lM : Short M := by rw [eM]; exact short_ans short_mul _ _ _ _
    have lD : Short D := by rw [eD]; exact short_ans short_div _ _ _ _
    have lC0 : Short C0 := by rw [eC0]; exact short_ans short_add _ _ _ _
    have lC2 : Short C2 := by rw [eC2]; exact short_ans short_mul _ _ _ _
    have lac : Short ac := by rw [eac]; exact short_ans short_mul _ _ _ _
    have F := fieldF (B := B) hx hy hz (eA.trans (ans2_ok hx hy)) (eM.trans (ans2_ok hx hy)) (eD.trans (ans2_ok hx hy)) (eS0.trans (ans2_ok hy hx)) (eS2.trans (ans2_ok hy hx)) (eC0.trans (ans2_ok hy hz)) (eC2.trans (ans2_ok hy hz)) eE0 eone etwo eleft (eac.trans (ans2_ok hx hz)) esum ewhole eback eagain
    have hsm' : A.2.2 = 0 ∧ M.2.2 = 0 ∨ true = true := by rw [eA, eM, ans2_ok hx hy, ans2_ok hx hy]; exact hsm
    have q4 := fun (w : World) (hT : Tab w) => k_four (w := w) lx ly eA eB eM eD hT
    have q4' := fun (w : World) (hT : Tab w) => k_four (w := w) ly lx eS0 eS1 eS2 eS3 hT
    have q4c := fun (w : World) (hT : Tab w) => k_four (w := w) ly lz eC0 eC1 eC2 eC3 hT
    have q4e := fun (w : World) (hT : Tab w) => k_four (w := w) lA lz eE0 eE1 eE2 eE3 hT
    have qone := fun (w : World) (hT : Tab w) => k_op (w := w) c_qAdd lx lC0 eone hT
    have qtwo := fun (w : World) (hT : Tab w) => k_op (w := w) c_qMul lx lC2 etwo hT
    have qleft := fun (w : World) (hT : Tab w) => k_op (w := w) c_qMul lM lz eleft hT
    have qac := fun (w : World) (hT : Tab w) => k_op (w := w) c_qMul lx lz eac hT
    have qsum := fun (w : World) (hT : Tab w) => k_op (w := w) c_qAdd lac lC2 esum hT
    have qwhole := fun (w : World) (hT : Tab w) => k_op (w := w) c_qMul lA lz ewhole hT
    have qback := fun (w : World) (hT : Tab w) => k_op (w := w) c_qSub lA ly eback hT
    have qagain := fun (w : World) (hT : Tab w) => k_op (w := w) c_qMul lD ly eagain hT
    clear hx hy hz hsm lx ly lz lA lM lD lC0 lC2 lac eA eB eM eD eS0 eS1 eS2 eS3 eC0 eC1 eC2 eC3 eE0 eE1 eE2 eE3 eone etwo eleft eac esum ewhole eback eagain
    obtain ⟨hs0, hs2, hsa, ham, hds, hbk, hag⟩ := F
    subst hs0
    subst hs2
    refine hK W ?_
    clear hK
    refine ldR b10 (ldR b11 ?_)
    refine Cl2 n_law04_four (q4 _ (hT.ext xx)) fun w14 x14 => ?_
    replace b10 := b10.ext x14
    replace b11 := b11.ext x14
    replace b12 := b12.ext x14
    replace xx := xx.tr x14
    have z10 := b10.lt
    have z11 := b11.lt
    have z12 := b12.lt
    refine alR4 fun g13 w15 x15 hg13 hl13 b13 => ?_
    have k13 : w.heap.size ≤ g13 := by have := xx.size; omega
    have n10x13 : g10 ≠ g13 := by omega
    clear z10
    have n11x13 : g11 ≠ g13 := by omega
    clear z11
    have n12x13 : g12 ≠ g13 := by omega
    clear z12
    replace b10 := b10.ext x15
    replace b11 := b11.ext x15
    replace b12 := b12.ext x15
    replace xx := xx.tr x15
    clear hg13 hl13
    have z10 := b10.lt
    have z11 := b11.lt
    have z12 := b12.lt
    have z13 := b13.lt
    refine alE4 fun g14 w16 x16 hg14 hl14 b14 => ?_
    have k14 : w.heap.size ≤ g14 := by have := xx.size; omega
    have n10x14 : g10 ≠ g14 := by omega
    clear z10
    have n11x14 : g11 ≠ g14 := by omega
    clear z11
    have n12x14 : g12 ≠ g14 := by omega
    clear z12
    have n13x14 : g13 ≠ g14 := by omega
    clear z13
    replace b10 := b10.ext x16
    replace b11 := b11.ext x16
    replace b12 := b12.ext x16
    replace b13 := b13.ext x16
    replace xx := xx.tr x16
    clear hg14 hl14
    refine stR4 b13 fun w17 o17 b13 => ?_
    replace b10 := blkOwn b10 n10x13 o17
    replace b11 := blkOwn b11 n11x13 o17
    replace b12 := blkOwn b12 n12x13 o17
    replace b14 := blkOwn b14 n13x14.symm o17
    replace xx := o17.ext xx k13
    refine stE4 b14 fun w18 o18 b14 => ?_
    replace b10 := blkOwn b10 n10x14 o18
    replace b11 := blkOwn b11 n11x14 o18
    replace b12 := blkOwn b12 n12x14 o18
    replace b13 := blkOwn b13 n13x14 o18
    replace xx := o18.ext xx k14
    refine ldR b11 (ldR b10 ?_)
    refine Cl2 n_law04_four (q4' _ (hT.ext xx)) fun w19 x19 => ?_
    replace b10 := b10.ext x19
    replace b11 := b11.ext x19
    replace b12 := b12.ext x19
    replace b13 := b13.ext x19
    replace b14 := b14.ext x19
    replace xx := xx.tr x19
    have z10 := b10.lt
    have z11 := b11.lt
    have z12 := b12.lt
    have z13 := b13.lt
    have z14 := b14.lt
    refine alR4 fun g15 w20 x20 hg15 hl15 b15 => ?_
    have k15 : w.heap.size ≤ g15 := by have := xx.size; omega
    have n10x15 : g10 ≠ g15 := by omega
    clear z10
    have n11x15 : g11 ≠ g15 := by omega
    clear z11
    have n12x15 : g12 ≠ g15 := by omega
    clear z12
    have n13x15 : g13 ≠ g15 := by omega
    clear z13
    have n14x15 : g14 ≠ g15 := by omega
    clear z14
    replace b10 := b10.ext x20
    replace b11 := b11.ext x20
    replace b12 := b12.ext x20
    replace b13 := b13.ext x20
    replace b14 := b14.ext x20
    replace xx := xx.tr x20
    clear hg15 hl15
    have z10 := b10.lt
    have z11 := b11.lt
    have z12 := b12.lt
    have z13 := b13.lt
    have z14 := b14.lt
    have z15 := b15.lt
    refine alE4 fun g16 w21 x21 hg16 hl16 b16 => ?_
    have k16 : w.heap.size ≤ g16 := by have := xx.size; omega
    have n10x16 : g10 ≠ g16 := by omega
    clear z10
    have n11x16 : g11 ≠ g16 := by omega
    clear z11
    have n12x16 : g12 ≠ g16 := by omega
    clear z12
    have n13x16 : g13 ≠ g16 := by omega
    clear z13
    have n14x16 : g14 ≠ g16 := by omega
    clear z14
    have n15x16 : g15 ≠ g16 := by omega
    clear z15
    replace b10 := b10.ext x21
    replace b11 := b11.ext x21
    replace b12 := b12.ext x21
    replace b13 := b13.ext x21
    replace b14 := b14.ext x21
    replace b15 := b15.ext x21
    replace xx := xx.tr x21
    clear hg16 hl16
    refine stR4 b15 fun w22 o22 b15 => ?_
    replace b10 := blkOwn b10 n10x15 o22
    replace b11 := blkOwn b11 n11x15 o22
    replace b12 := blkOwn b12 n12x15 o22
    replace b13 := blkOwn b13 n13x15 o22
    replace b14 := blkOwn b14 n14x15 o22
    replace b16 := blkOwn b16 n15x16.symm o22
    replace xx := o22.ext xx k15
    refine stE4 b16 fun w23 o23 b16 => ?_
    replace b10 := blkOwn b10 n10x16 o23
    replace b11 := blkOwn b11 n11x16 o23
    replace b12 := blkOwn b12 n12x16 o23
    replace b13 := blkOwn b13 n13x16 o23
    replace b14 := blkOwn b14 n14x16 o23
    replace b15 := blkOwn b15 n15x16 o23
    replace xx := o23.ext xx k16
    refine iaR4x0 (lR8x0 b13 (iaR4x0 (lR8x0 b15 (qNeF (same2 _ _) ?_))))
    refine Gd_F (iaR4x2 (Gd_F (lR8x4 b13 (Gd_F (iaR4x2 (Gd_F (lR8x4 b15 (Gd_F (qNeF (same2 _ _) (Pick_F ?_))))))))))
    refine Gd_F (iaE4x0 (Gd_F (lE4x0 b14 (Gd_F (iaE4x0 (Gd_F (lE4x0 b16 (Gd_F (Bn_neF rfl (Pick_F ?_))))))))))
    refine Gd_F (iaE4x2 (Gd_F (lE4x2 b14 (Gd_F (iaE4x2 (Gd_F (lE4x2 b16 (Gd_F (Bn_neF rfl (Pick_F ?_))))))))))
    refine Gd_F (Gd_F (Un_T (Gd_F ?_)))
    refine Gd_FT (Gd_FT (Gd_FT (Gd_FT (Gd_U (Gd_U (Gd_U (Gd_FT (Gd_F (Pick_F (Pick_F (If_F ?_)))))))))))
    refine ldR b11 (ldR b12 ?_)
    refine Cl2 n_law04_four (q4c _ (hT.ext xx)) fun w24 x24 => ?_
    replace b10 := b10.ext x24
    replace b11 := b11.ext x24
    replace b12 := b12.ext x24
    replace b13 := b13.ext x24
    replace b14 := b14.ext x24
    replace b15 := b15.ext x24
    replace b16 := b16.ext x24
    replace xx := xx.tr x24
    have z10 := b10.lt
    have z11 := b11.lt
    have z12 := b12.lt
    have z13 := b13.lt
    have z14 := b14.lt
    have z15 := b15.lt
    have z16 := b16.lt
    refine alR4 fun g17 w25 x25 hg17 hl17 b17 => ?_
    have k17 : w.heap.size ≤ g17 := by have := xx.size; omega
    have n10x17 : g10 ≠ g17 := by omega
    clear z10
    have n11x17 : g11 ≠ g17 := by omega
    clear z11
    have n12x17 : g12 ≠ g17 := by omega
    clear z12
    have n13x17 : g13 ≠ g17 := by omega
    clear z13
    have n14x17 : g14 ≠ g17 := by omega
    clear z14
    have n15x17 : g15 ≠ g17 := by omega
    clear z15
    have n16x17 : g16 ≠ g17 := by omega
    clear z16
    replace b10 := b10.ext x25
    replace b11 := b11.ext x25
    replace b12 := b12.ext x25
    replace b13 := b13.ext x25
    replace b14 := b14.ext x25
    replace b15 := b15.ext x25
    replace b16 := b16.ext x25
    replace xx := xx.tr x25
    clear hg17 hl17
    have z10 := b10.lt
    have z11 := b11.lt
    have z12 := b12.lt
    have z13 := b13.lt
    have z14 := b14.lt
    have z15 := b15.lt
    have z16 := b16.lt
    have z17 := b17.lt
    refine alE4 fun g18 w26 x26 hg18 hl18 b18 => ?_
    have k18 : w.heap.size ≤ g18 := by have := xx.size; omega
    have n10x18 : g10 ≠ g18 := by omega
    clear z10
    have n11x18 : g11 ≠ g18 := by omega
    clear z11
    have n12x18 : g12 ≠ g18 := by omega
    clear z12
    have n13x18 : g13 ≠ g18 := by omega
    clear z13
    have n14x18 : g14 ≠ g18 := by omega
    clear z14
    have n15x18 : g15 ≠ g18 := by omega
    clear z15
    have n16x18 : g16 ≠ g18 := by omega
    clear z16
    have n17x18 : g17 ≠ g18 := by omega
    clear z17
    replace b10 := b10.ext x26
    replace b11 := b11.ext x26
    replace b12 := b12.ext x26
    replace b13 := b13.ext x26
    replace b14 := b14.ext x26
    replace b15 := b15.ext x26
    replace b16 := b16.ext x26
    replace b17 := b17.ext x26
    replace xx := xx.tr x26
    clear hg18 hl18
    refine stR4 b17 fun w27 o27 b17 => ?_
    replace b10 := blkOwn b10 n10x17 o27
    replace b11 := blkOwn b11 n11x17 o27
    replace b12 := blkOwn b12 n12x17 o27
    replace b13 := blkOwn b13 n13x17 o27
    replace b14 := blkOwn b14 n14x17 o27
    replace b15 := blkOwn b15 n15x17 o27
    replace b16 := blkOwn b16 n16x17 o27
    replace b18 := blkOwn b18 n17x18.symm o27
    replace xx := o27.ext xx k17
    refine stE4 b18 fun w28 o28 b18 => ?_
    replace b10 := blkOwn b10 n10x18 o28
    replace b11 := blkOwn b11 n11x18 o28
    replace b12 := blkOwn b12 n12x18 o28
    replace b13 := blkOwn b13 n13x18 o28
    replace b14 := blkOwn b14 n14x18 o28
    replace b15 := blkOwn b15 n15x18 o28
    replace b16 := blkOwn b16 n16x18 o28
    replace b17 := blkOwn b17 n17x18 o28
    replace xx := o28.ext xx k18
    refine iaR4x0 (lR8x0 b13 (ldR b12 ?_))
    refine Cl2 n_law04_four (q4e _ (hT.ext xx)) fun w29 x29 => ?_
    replace b10 := b10.ext x29
    replace b11 := b11.ext x29
    replace b12 := b12.ext x29
    replace b13 := b13.ext x29
    replace b14 := b14.ext x29
    replace b15 := b15.ext x29
    replace b16 := b16.ext x29
    replace b17 := b17.ext x29
    replace b18 := b18.ext x29
    replace xx := xx.tr x29
    have z10 := b10.lt
    have z11 := b11.lt
    have z12 := b12.lt
    have z13 := b13.lt
    have z14 := b14.lt
    have z15 := b15.lt
    have z16 := b16.lt
    have z17 := b17.lt
    have z18 := b18.lt
    refine alR4 fun g19 w30 x30 hg19 hl19 b19 => ?_
    have k19 : w.heap.size ≤ g19 := by have := xx.size; omega
    have n10x19 : g10 ≠ g19 := by omega
    clear z10
    have n11x19 : g11 ≠ g19 := by omega
    clear z11
    have n12x19 : g12 ≠ g19 := by omega
    clear z12
    have n13x19 : g13 ≠ g19 := by omega
    clear z13
    have n14x19 : g14 ≠ g19 := by omega
    clear z14
    have n15x19 : g15 ≠ g19 := by omega
    clear z15
    have n16x19 : g16 ≠ g19 := by omega
    clear z16
    have n17x19 : g17 ≠ g19 := by omega
    clear z17
    have n18x19 : g18 ≠ g19 := by omega
    clear z18
    replace b10 := b10.ext x30
    replace b11 := b11.ext x30
    replace b12 := b12.ext x30
    replace b13 := b13.ext x30
    replace b14 := b14.ext x30
    replace b15 := b15.ext x30
    replace b16 := b16.ext x30
    replace b17 := b17.ext x30
    replace b18 := b18.ext x30
    replace xx := xx.tr x30
    clear hg19 hl19
    have z10 := b10.lt
    have z11 := b11.lt
    have z12 := b12.lt
    have z13 := b13.lt
    have z14 := b14.lt
    have z15 := b15.lt
    have z16 := b16.lt
    have z17 := b17.lt
    have z18 := b18.lt
    have z19 := b19.lt
    refine alE4 fun g20 w31 x31 hg20 hl20 b20 => ?_
    have k20 : w.heap.size ≤ g20 := by have := xx.size; omega
    have n10x20 : g10 ≠ g20 := by omega
    clear z10
    have n11x20 : g11 ≠ g20 := by omega
    clear z11
    have n12x20 : g12 ≠ g20 := by omega
    clear z12
    have n13x20 : g13 ≠ g20 := by omega
    clear z13
    have n14x20 : g14 ≠ g20 := by omega
    clear z14
    have n15x20 : g15 ≠ g20 := by omega
    clear z15
    have n16x20 : g16 ≠ g20 := by omega
    clear z16
    have n17x20 : g17 ≠ g20 := by omega
    clear z17
    have n18x20 : g18 ≠ g20 := by omega
    clear z18
    have n19x20 : g19 ≠ g20 := by omega
    clear z19
    replace b10 := b10.ext x31
    replace b11 := b11.ext x31
    replace b12 := b12.ext x31
    replace b13 := b13.ext x31
    replace b14 := b14.ext x31
    replace b15 := b15.ext x31
    replace b16 := b16.ext x31
    replace b17 := b17.ext x31
    replace b18 := b18.ext x31
    replace b19 := b19.ext x31
    replace xx := xx.tr x31
    clear hg20 hl20
    refine stR4 b19 fun w32 o32 b19 => ?_
    replace b10 := blkOwn b10 n10x19 o32
    replace b11 := blkOwn b11 n11x19 o32
    replace b12 := blkOwn b12 n12x19 o32
    replace b13 := blkOwn b13 n13x19 o32
    replace b14 := blkOwn b14 n14x19 o32
    replace b15 := blkOwn b15 n15x19 o32
    replace b16 := blkOwn b16 n16x19 o32
    replace b17 := blkOwn b17 n17x19 o32
    replace b18 := blkOwn b18 n18x19 o32
    replace b20 := blkOwn b20 n19x20.symm o32
    replace xx := o32.ext xx k19
    refine stE4 b20 fun w33 o33 b20 => ?_
    replace b10 := blkOwn b10 n10x20 o33
    replace b11 := blkOwn b11 n11x20 o33
    replace b12 := blkOwn b12 n12x20 o33
    replace b13 := blkOwn b13 n13x20 o33
    replace b14 := blkOwn b14 n14x20 o33
    replace b15 := blkOwn b15 n15x20 o33
    replace b16 := blkOwn b16 n16x20 o33
    replace b17 := blkOwn b17 n17x20 o33
    replace b18 := blkOwn b18 n18x20 o33
    replace b19 := blkOwn b19 n19x20 o33
    replace xx := o33.ext xx k20
    refine ldR b10 (iaR4x0 (lR8x0 b17 ?_))
    refine Cl2 n_rational_Add (qone _ (hT.ext xx)) fun w34 x34 => ?_
    replace b10 := b10.ext x34
    replace b11 := b11.ext x34
    replace b12 := b12.ext x34
    replace b13 := b13.ext x34
    replace b14 := b14.ext x34
    replace b15 := b15.ext x34
    replace b16 := b16.ext x34
    replace b17 := b17.ext x34
    replace b18 := b18.ext x34
    replace b19 := b19.ext x34
    replace b20 := b20.ext x34
    replace xx := xx.tr x34
    have z10 := b10.lt
    have z11 := b11.lt
    have z12 := b12.lt
    have z13 := b13.lt
    have z14 := b14.lt
    have z15 := b15.lt
    have z16 := b16.lt
    have z17 := b17.lt
    have z18 := b18.lt
    have z19 := b19.lt
    have z20 := b20.lt
    refine alR fun g21 w35 x35 hg21 hl21 b21 => ?_
    have k21 : w.heap.size ≤ g21 := by have := xx.size; omega
    have n10x21 : g10 ≠ g21 := by omega
    clear z10
    have n11x21 : g11 ≠ g21 := by omega
    clear z11
    have n12x21 : g12 ≠ g21 := by omega
    clear z12
    have n13x21 : g13 ≠ g21 := by omega
    clear z13
    have n14x21 : g14 ≠ g21 := by omega
    clear z14
    have n15x21 : g15 ≠ g21 := by omega
    clear z15
    have n16x21 : g16 ≠ g21 := by omega
    clear z16
    have n17x21 : g17 ≠ g21 := by omega
    clear z17
    have n18x21 : g18 ≠ g21 := by omega
    clear z18
    have n19x21 : g19 ≠ g21 := by omega
    clear z19
    have n20x21 : g20 ≠ g21 := by omega
    clear z20
    replace b10 := b10.ext x35
    replace b11 := b11.ext x35
    replace b12 := b12.ext x35
    replace b13 := b13.ext x35
    replace b14 := b14.ext x35
    replace b15 := b15.ext x35
    replace b16 := b16.ext x35
    replace b17 := b17.ext x35
    replace b18 := b18.ext x35
    replace b19 := b19.ext x35
    replace b20 := b20.ext x35
    replace xx := xx.tr x35
    clear hg21 hl21
    refine stoR b21 fun w36 o36 b21 => ?_
    replace b10 := blkOwn b10 n10x21 o36
    replace b11 := blkOwn b11 n11x21 o36
    replace b12 := blkOwn b12 n12x21 o36
    replace b13 := blkOwn b13 n13x21 o36
    replace b14 := blkOwn b14 n14x21 o36
    replace b15 := blkOwn b15 n15x21 o36
    replace b16 := blkOwn b16 n16x21 o36
    replace b17 := blkOwn b17 n17x21 o36
    replace b18 := blkOwn b18 n18x21 o36
    replace b19 := blkOwn b19 n19x21 o36
    replace b20 := blkOwn b20 n20x21 o36
    replace xx := o36.ext xx k21
    refine iaE4x0 (lE4x0 b14 (eqD rfl ?_))
    refine and3 (fun _ K1 hK1 => iaE4x0 (lE4x0 b18 (eqD rfl hK1))) rfl ?_
    refine and3 (fun _ K1 hK1 => iaE4x0 (lE4x0 b20 (eqD rfl hK1))) rfl ?_
    refine and2 (fun _ K1 hK1 => eqD rfl hK1) rfl ?_
    refine and4 (fun _ K1 hK1 => iaR4x0 (lR8x0 b19 (ldR b21 (qNeD rfl hK1)))) rfl ?_
    refine IfSF ?_ ?_
    · by_cases a1 : A.2.2 = 0 <;> by_cases a2 : C0.2.2 = 0 <;> by_cases a3 : E0.2.2 = 0 <;> by_cases a4 : one.2.2 = 0 <;> simp only [a1, a2, a3, a4, decide_true, decide_false, Bool.true_and, Bool.false_and, Bool.and_false]
      exact dec_same _ _ _ _ (hsa a1 a2 a3 a4)
    refine ldR b10 (iaR4x2 (lR8x4 b17 ?_))
    refine Cl2 n_rational_Mul (qtwo _ (hT.ext xx)) fun w37 x37 => ?_
    replace b10 := b10.ext x37
    replace b11 := b11.ext x37
    replace b12 := b12.ext x37
    replace b13 := b13.ext x37
    replace b14 := b14.ext x37
    replace b15 := b15.ext x37
    replace b16 := b16.ext x37
    replace b17 := b17.ext x37
    replace b18 := b18.ext x37
    replace b19 := b19.ext x37
    replace b20 := b20.ext x37
    replace b21 := b21.ext x37
    replace xx := xx.tr x37
    have z10 := b10.lt
    have z11 := b11.lt
    have z12 := b12.lt
    have z13 := b13.lt
    have z14 := b14.lt
    have z15 := b15.lt
    have z16 := b16.lt
    have z17 := b17.lt
    have z18 := b18.lt
    have z19 := b19.lt
    have z20 := b20.lt
    have z21 := b21.lt
    refine alR fun g23 w38 x38 hg23 hl23 b23 => ?_
    have k23 : w.heap.size ≤ g23 := by have := xx.size; omega
    have n10x23 : g10 ≠ g23 := by omega
    clear z10
    have n11x23 : g11 ≠ g23 := by omega
    clear z11
    have n12x23 : g12 ≠ g23 := by omega
    clear z12
    have n13x23 : g13 ≠ g23 := by omega
    clear z13
    have n14x23 : g14 ≠ g23 := by omega
    clear z14
    have n15x23 : g15 ≠ g23 := by omega
    clear z15
    have n16x23 : g16 ≠ g23 := by omega
    clear z16
    have n17x23 : g17 ≠ g23 := by omega
    clear z17
    have n18x23 : g18 ≠ g23 := by omega
    clear z18
    have n19x23 : g19 ≠ g23 := by omega
    clear z19
    have n20x23 : g20 ≠ g23 := by omega
    clear z20
    have n21x23 : g21 ≠ g23 := by omega
    clear z21
    replace b10 := b10.ext x38
    replace b11 := b11.ext x38
    replace b12 := b12.ext x38
    replace b13 := b13.ext x38
    replace b14 := b14.ext x38
    replace b15 := b15.ext x38
    replace b16 := b16.ext x38
    replace b17 := b17.ext x38
    replace b18 := b18.ext x38
    replace b19 := b19.ext x38
    replace b20 := b20.ext x38
    replace b21 := b21.ext x38
    replace xx := xx.tr x38
    clear hg23 hl23
    refine stoR b23 fun w39 o39 b23 => ?_
    replace b10 := blkOwn b10 n10x23 o39
    replace b11 := blkOwn b11 n11x23 o39
    replace b12 := blkOwn b12 n12x23 o39
    replace b13 := blkOwn b13 n13x23 o39
    replace b14 := blkOwn b14 n14x23 o39
    replace b15 := blkOwn b15 n15x23 o39
    replace b16 := blkOwn b16 n16x23 o39
    replace b17 := blkOwn b17 n17x23 o39
    replace b18 := blkOwn b18 n18x23 o39
    replace b19 := blkOwn b19 n19x23 o39
    replace b20 := blkOwn b20 n20x23 o39
    replace b21 := blkOwn b21 n21x23 o39
    replace xx := o39.ext xx k23
    refine iaR4x2 (lR8x4 b13 (ldR b12 ?_))
    refine Cl2 n_rational_Mul (qleft _ (hT.ext xx)) fun w40 x40 => ?_
    replace b10 := b10.ext x40
    replace b11 := b11.ext x40
    replace b12 := b12.ext x40
    replace b13 := b13.ext x40
    replace b14 := b14.ext x40
    replace b15 := b15.ext x40
    replace b16 := b16.ext x40
    replace b17 := b17.ext x40
    replace b18 := b18.ext x40
    replace b19 := b19.ext x40
    replace b20 := b20.ext x40
    replace b21 := b21.ext x40
    replace b23 := b23.ext x40
    replace xx := xx.tr x40
    have z10 := b10.lt
    have z11 := b11.lt
    have z12 := b12.lt
    have z13 := b13.lt
    have z14 := b14.lt
    have z15 := b15.lt
    have z16 := b16.lt
    have z17 := b17.lt
    have z18 := b18.lt
    have z19 := b19.lt
    have z20 := b20.lt
    have z21 := b21.lt
    have z23 := b23.lt
    refine alR fun g25 w41 x41 hg25 hl25 b25 => ?_
    have k25 : w.heap.size ≤ g25 := by have := xx.size; omega
    have n10x25 : g10 ≠ g25 := by omega
    clear z10
    have n11x25 : g11 ≠ g25 := by omega
    clear z11
    have n12x25 : g12 ≠ g25 := by omega
    clear z12
    have n13x25 : g13 ≠ g25 := by omega
    clear z13
    have n14x25 : g14 ≠ g25 := by omega
    clear z14
    have n15x25 : g15 ≠ g25 := by omega
    clear z15
    have n16x25 : g16 ≠ g25 := by omega
    clear z16
    have n17x25 : g17 ≠ g25 := by omega
    clear z17
    have n18x25 : g18 ≠ g25 := by omega
    clear z18
    have n19x25 : g19 ≠ g25 := by omega
    clear z19
    have n20x25 : g20 ≠ g25 := by omega
    clear z20
    have n21x25 : g21 ≠ g25 := by omega
    clear z21
    have n23x25 : g23 ≠ g25 := by omega
    clear z23
    replace b10 := b10.ext x41
    replace b11 := b11.ext x41
    replace b12 := b12.ext x41
    replace b13 := b13.ext x41
    replace b14 := b14.ext x41
    replace b15 := b15.ext x41
    replace b16 := b16.ext x41
    replace b17 := b17.ext x41
    replace b18 := b18.ext x41
    replace b19 := b19.ext x41
    replace b20 := b20.ext x41
    replace b21 := b21.ext x41
    replace b23 := b23.ext x41
    replace xx := xx.tr x41
    clear hg25 hl25
    refine stoR b25 fun w42 o42 b25 => ?_
    replace b10 := blkOwn b10 n10x25 o42
    replace b11 := blkOwn b11 n11x25 o42
    replace b12 := blkOwn b12 n12x25 o42
    replace b13 := blkOwn b13 n13x25 o42
    replace b14 := blkOwn b14 n14x25 o42
    replace b15 := blkOwn b15 n15x25 o42
    replace b16 := blkOwn b16 n16x25 o42
    replace b17 := blkOwn b17 n17x25 o42
    replace b18 := blkOwn b18 n18x25 o42
    replace b19 := blkOwn b19 n19x25 o42
    replace b20 := blkOwn b20 n20x25 o42
    replace b21 := blkOwn b21 n21x25 o42
    replace b23 := blkOwn b23 n23x25 o42
    replace xx := o42.ext xx k25
    refine iaE4x2 (lE4x2 b14 (eqD rfl ?_))
    refine and3 (fun _ K1 hK1 => iaE4x2 (lE4x2 b18 (eqD rfl hK1))) rfl ?_
    refine and2 (fun _ K1 hK1 => eqD rfl hK1) rfl ?_
    refine and2 (fun _ K1 hK1 => eqD rfl hK1) rfl ?_
    refine and3 (fun _ K1 hK1 => ldR b23 (ldR b25 (qNeD rfl hK1))) rfl ?_
    refine IfSF ?_ ?_
    · by_cases a1 : M.2.2 = 0 <;> by_cases a2 : C2.2.2 = 0 <;> by_cases a3 : two.2.2 = 0 <;> by_cases a4 : left.2.2 = 0 <;> simp only [a1, a2, a3, a4, decide_true, decide_false, Bool.true_and, Bool.false_and, Bool.and_false]
      exact dec_same _ _ _ _ (ham a1 a2 a3 a4)
    refine ldR b10 (ldR b12 ?_)
    refine Cl2 n_rational_Mul (qac _ (hT.ext xx)) fun w43 x43 => ?_
    replace b10 := b10.ext x43
    replace b11 := b11.ext x43
    replace b12 := b12.ext x43
    replace b13 := b13.ext x43
    replace b14 := b14.ext x43
    replace b15 := b15.ext x43
    replace b16 := b16.ext x43
    replace b17 := b17.ext x43
    replace b18 := b18.ext x43
    replace b19 := b19.ext x43
    replace b20 := b20.ext x43
    replace b21 := b21.ext x43
    replace b23 := b23.ext x43
    replace b25 := b25.ext x43
    replace xx := xx.tr x43
    have z10 := b10.lt
    have z11 := b11.lt
    have z12 := b12.lt
    have z13 := b13.lt
    have z14 := b14.lt
    have z15 := b15.lt
    have z16 := b16.lt
    have z17 := b17.lt
    have z18 := b18.lt
    have z19 := b19.lt
    have z20 := b20.lt
    have z21 := b21.lt
    have z23 := b23.lt
    have z25 := b25.lt
    refine alR fun g27 w44 x44 hg27 hl27 b27 => ?_
    have k27 : w.heap.size ≤ g27 := by have := xx.size; omega
    have n10x27 : g10 ≠ g27 := by omega
    clear z10
    have n11x27 : g11 ≠ g27 := by omega
    clear z11
    have n12x27 : g12 ≠ g27 := by omega
    clear z12
    have n13x27 : g13 ≠ g27 := by omega
    clear z13
    have n14x27 : g14 ≠ g27 := by omega
    clear z14
    have n15x27 : g15 ≠ g27 := by omega
    clear z15
    have n16x27 : g16 ≠ g27 := by omega
    clear z16
    have n17x27 : g17 ≠ g27 := by omega
    clear z17
    have n18x27 : g18 ≠ g27 := by omega
    clear z18
    have n19x27 : g19 ≠ g27 := by omega
    clear z19
    have n20x27 : g20 ≠ g27 := by omega
    clear z20
    have n21x27 : g21 ≠ g27 := by omega
    clear z21
    have n23x27 : g23 ≠ g27 := by omega
    clear z23
    have n25x27 : g25 ≠ g27 := by omega
    clear z25
    replace b10 := b10.ext x44
    replace b11 := b11.ext x44
    replace b12 := b12.ext x44
    replace b13 := b13.ext x44
    replace b14 := b14.ext x44
    replace b15 := b15.ext x44
    replace b16 := b16.ext x44
    replace b17 := b17.ext x44
    replace b18 := b18.ext x44
    replace b19 := b19.ext x44
    replace b20 := b20.ext x44
    replace b21 := b21.ext x44
    replace b23 := b23.ext x44
    replace b25 := b25.ext x44
    replace xx := xx.tr x44
    clear hg27 hl27
    refine stoR b27 fun w45 o45 b27 => ?_
    replace b10 := blkOwn b10 n10x27 o45
    replace b11 := blkOwn b11 n11x27 o45
    replace b12 := blkOwn b12 n12x27 o45
    replace b13 := blkOwn b13 n13x27 o45
    replace b14 := blkOwn b14 n14x27 o45
    replace b15 := blkOwn b15 n15x27 o45
    replace b16 := blkOwn b16 n16x27 o45
    replace b17 := blkOwn b17 n17x27 o45
    replace b18 := blkOwn b18 n18x27 o45
    replace b19 := blkOwn b19 n19x27 o45
    replace b20 := blkOwn b20 n20x27 o45
    replace b21 := blkOwn b21 n21x27 o45
    replace b23 := blkOwn b23 n23x27 o45
    replace b25 := blkOwn b25 n25x27 o45
    replace xx := o45.ext xx k27
    refine ldR b27 (iaR4x2 (lR8x4 b17 ?_))
    refine Cl2 n_rational_Add (qsum _ (hT.ext xx)) fun w46 x46 => ?_
    replace b10 := b10.ext x46
    replace b11 := b11.ext x46
    replace b12 := b12.ext x46
    replace b13 := b13.ext x46
    replace b14 := b14.ext x46
    replace b15 := b15.ext x46
    replace b16 := b16.ext x46
    replace b17 := b17.ext x46
    replace b18 := b18.ext x46
    replace b19 := b19.ext x46
    replace b20 := b20.ext x46
    replace b21 := b21.ext x46
    replace b23 := b23.ext x46
    replace b25 := b25.ext x46
    replace b27 := b27.ext x46
    replace xx := xx.tr x46
    have z10 := b10.lt
    have z11 := b11.lt
    have z12 := b12.lt
    have z13 := b13.lt
    have z14 := b14.lt
    have z15 := b15.lt
    have z16 := b16.lt
    have z17 := b17.lt
    have z18 := b18.lt
    have z19 := b19.lt
    have z20 := b20.lt
    have z21 := b21.lt
    have z23 := b23.lt
    have z25 := b25.lt
    have z27 := b27.lt
    refine alR fun g29 w47 x47 hg29 hl29 b29 => ?_
    have k29 : w.heap.size ≤ g29 := by have := xx.size; omega
    have n10x29 : g10 ≠ g29 := by omega
    clear z10
    have n11x29 : g11 ≠ g29 := by omega
    clear z11
    have n12x29 : g12 ≠ g29 := by omega
    clear z12
    have n13x29 : g13 ≠ g29 := by omega
    clear z13
    have n14x29 : g14 ≠ g29 := by omega
    clear z14
    have n15x29 : g15 ≠ g29 := by omega
    clear z15
    have n16x29 : g16 ≠ g29 := by omega
    clear z16
    have n17x29 : g17 ≠ g29 := by omega
    clear z17
    have n18x29 : g18 ≠ g29 := by omega
    clear z18
    have n19x29 : g19 ≠ g29 := by omega
    clear z19
    have n20x29 : g20 ≠ g29 := by omega
    clear z20
    have n21x29 : g21 ≠ g29 := by omega
    clear z21
    have n23x29 : g23 ≠ g29 := by omega
    clear z23
    have n25x29 : g25 ≠ g29 := by omega
    clear z25
    have n27x29 : g27 ≠ g29 := by omega
    clear z27
    replace b10 := b10.ext x47
    replace b11 := b11.ext x47
    replace b12 := b12.ext x47
    replace b13 := b13.ext x47
    replace b14 := b14.ext x47
    replace b15 := b15.ext x47
    replace b16 := b16.ext x47
    replace b17 := b17.ext x47
    replace b18 := b18.ext x47
    replace b19 := b19.ext x47
    replace b20 := b20.ext x47
    replace b21 := b21.ext x47
    replace b23 := b23.ext x47
    replace b25 := b25.ext x47
    replace b27 := b27.ext x47
    replace xx := xx.tr x47
    clear hg29 hl29
    refine stoR b29 fun w48 o48 b29 => ?_
    replace b10 := blkOwn b10 n10x29 o48
    replace b11 := blkOwn b11 n11x29 o48
    replace b12 := blkOwn b12 n12x29 o48
    replace b13 := blkOwn b13 n13x29 o48
    replace b14 := blkOwn b14 n14x29 o48
    replace b15 := blkOwn b15 n15x29 o48
    replace b16 := blkOwn b16 n16x29 o48
    replace b17 := blkOwn b17 n17x29 o48
    replace b18 := blkOwn b18 n18x29 o48
    replace b19 := blkOwn b19 n19x29 o48
    replace b20 := blkOwn b20 n20x29 o48
    replace b21 := blkOwn b21 n21x29 o48
    replace b23 := blkOwn b23 n23x29 o48
    replace b25 := blkOwn b25 n25x29 o48
    replace b27 := blkOwn b27 n27x29 o48
    replace xx := o48.ext xx k29
    refine iaR4x0 (lR8x0 b13 (ldR b12 ?_))
    refine Cl2 n_rational_Mul (qwhole _ (hT.ext xx)) fun w49 x49 => ?_
    replace b10 := b10.ext x49
    replace b11 := b11.ext x49
    replace b12 := b12.ext x49
    replace b13 := b13.ext x49
    replace b14 := b14.ext x49
    replace b15 := b15.ext x49
    replace b16 := b16.ext x49
    replace b17 := b17.ext x49
    replace b18 := b18.ext x49
    replace b19 := b19.ext x49
    replace b20 := b20.ext x49
    replace b21 := b21.ext x49
    replace b23 := b23.ext x49
    replace b25 := b25.ext x49
    replace b27 := b27.ext x49
    replace b29 := b29.ext x49
    replace xx := xx.tr x49
    have z10 := b10.lt
    have z11 := b11.lt
    have z12 := b12.lt
    have z13 := b13.lt
    have z14 := b14.lt
    have z15 := b15.lt
    have z16 := b16.lt
    have z17 := b17.lt
    have z18 := b18.lt
    have z19 := b19.lt
    have z20 := b20.lt
    have z21 := b21.lt
    have z23 := b23.lt
    have z25 := b25.lt
    have z27 := b27.lt
    have z29 := b29.lt
    refine alR fun g31 w50 x50 hg31 hl31 b31 => ?_
    have k31 : w.heap.size ≤ g31 := by have := xx.size; omega
    have n10x31 : g10 ≠ g31 := by omega
    clear z10
    have n11x31 : g11 ≠ g31 := by omega
    clear z11
    have n12x31 : g12 ≠ g31 := by omega
    clear z12
    have n13x31 : g13 ≠ g31 := by omega
    clear z13
    have n14x31 : g14 ≠ g31 := by omega
    clear z14
    have n15x31 : g15 ≠ g31 := by omega
    clear z15
    have n16x31 : g16 ≠ g31 := by omega
    clear z16
    have n17x31 : g17 ≠ g31 := by omega
    clear z17
    have n18x31 : g18 ≠ g31 := by omega
    clear z18
    have n19x31 : g19 ≠ g31 := by omega
    clear z19
    have n20x31 : g20 ≠ g31 := by omega
    clear z20
    have n21x31 : g21 ≠ g31 := by omega
    clear z21
    have n23x31 : g23 ≠ g31 := by omega
    clear z23
    have n25x31 : g25 ≠ g31 := by omega
    clear z25
    have n27x31 : g27 ≠ g31 := by omega
    clear z27
    have n29x31 : g29 ≠ g31 := by omega
    clear z29
    replace b10 := b10.ext x50
    replace b11 := b11.ext x50
    replace b12 := b12.ext x50
    replace b13 := b13.ext x50
    replace b14 := b14.ext x50
    replace b15 := b15.ext x50
    replace b16 := b16.ext x50
    replace b17 := b17.ext x50
    replace b18 := b18.ext x50
    replace b19 := b19.ext x50
    replace b20 := b20.ext x50
    replace b21 := b21.ext x50
    replace b23 := b23.ext x50
    replace b25 := b25.ext x50
    replace b27 := b27.ext x50
    replace b29 := b29.ext x50
    replace xx := xx.tr x50
    clear hg31 hl31
    refine stoR b31 fun w51 o51 b31 => ?_
    replace b10 := blkOwn b10 n10x31 o51
    replace b11 := blkOwn b11 n11x31 o51
    replace b12 := blkOwn b12 n12x31 o51
    replace b13 := blkOwn b13 n13x31 o51
    replace b14 := blkOwn b14 n14x31 o51
    replace b15 := blkOwn b15 n15x31 o51
    replace b16 := blkOwn b16 n16x31 o51
    replace b17 := blkOwn b17 n17x31 o51
    replace b18 := blkOwn b18 n18x31 o51
    replace b19 := blkOwn b19 n19x31 o51
    replace b20 := blkOwn b20 n20x31 o51
    replace b21 := blkOwn b21 n21x31 o51
    replace b23 := blkOwn b23 n23x31 o51
    replace b25 := blkOwn b25 n25x31 o51
    replace b27 := blkOwn b27 n27x31 o51
    replace b29 := blkOwn b29 n29x31 o51
    replace xx := o51.ext xx k31
    refine iaE4x0 (lE4x0 b14 (eqD rfl ?_))
    refine and2 (fun _ K1 hK1 => eqD rfl hK1) rfl ?_
    refine and3 (fun _ K1 hK1 => iaE4x2 (lE4x2 b18 (eqD rfl hK1))) rfl ?_
    refine and2 (fun _ K1 hK1 => eqD rfl hK1) rfl ?_
    refine and2 (fun _ K1 hK1 => eqD rfl hK1) rfl ?_
    refine and3 (fun _ K1 hK1 => ldR b29 (ldR b31 (qNeD rfl hK1))) rfl ?_
    refine IfSF ?_ ?_
    · by_cases a1 : A.2.2 = 0 <;> by_cases a2 : ac.2.2 = 0 <;> by_cases a3 : C2.2.2 = 0 <;> by_cases a4 : sum.2.2 = 0 <;> by_cases a5 : whole.2.2 = 0 <;> simp only [a1, a2, a3, a4, a5, decide_true, decide_false, Bool.true_and, Bool.false_and, Bool.and_false]
      exact dec_same _ _ _ _ (hds a1 a2 a3 a4 a5)
    refine iaR4x0 (lR8x0 b13 (ldR b11 ?_))
    refine Cl2 n_rational_Sub (qback _ (hT.ext xx)) fun w52 x52 => ?_
    replace b10 := b10.ext x52
    replace b11 := b11.ext x52
    replace b12 := b12.ext x52
    replace b13 := b13.ext x52
    replace b14 := b14.ext x52
    replace b15 := b15.ext x52
    replace b16 := b16.ext x52
    replace b17 := b17.ext x52
    replace b18 := b18.ext x52
    replace b19 := b19.ext x52
    replace b20 := b20.ext x52
    replace b21 := b21.ext x52
    replace b23 := b23.ext x52
    replace b25 := b25.ext x52
    replace b27 := b27.ext x52
    replace b29 := b29.ext x52
    replace b31 := b31.ext x52
    replace xx := xx.tr x52
    have z10 := b10.lt
    have z11 := b11.lt
    have z12 := b12.lt
    have z13 := b13.lt
    have z14 := b14.lt
    have z15 := b15.lt
    have z16 := b16.lt
    have z17 := b17.lt
    have z18 := b18.lt
    have z19 := b19.lt
    have z20 := b20.lt
    have z21 := b21.lt
    have z23 := b23.lt
    have z25 := b25.lt
    have z27 := b27.lt
    have z29 := b29.lt
    have z31 := b31.lt
    refine alR fun g33 w53 x53 hg33 hl33 b33 => ?_
    have k33 : w.heap.size ≤ g33 := by have := xx.size; omega
    have n10x33 : g10 ≠ g33 := by omega
    clear z10
    have n11x33 : g11 ≠ g33 := by omega
    clear z11
    have n12x33 : g12 ≠ g33 := by omega
    clear z12
    have n13x33 : g13 ≠ g33 := by omega
    clear z13
    have n14x33 : g14 ≠ g33 := by omega
    clear z14
    have n15x33 : g15 ≠ g33 := by omega
    clear z15
    have n16x33 : g16 ≠ g33 := by omega
    clear z16
    have n17x33 : g17 ≠ g33 := by omega
    clear z17
    have n18x33 : g18 ≠ g33 := by omega
    clear z18
    have n19x33 : g19 ≠ g33 := by omega
    clear z19
    have n20x33 : g20 ≠ g33 := by omega
    clear z20
    have n21x33 : g21 ≠ g33 := by omega
    clear z21
    have n23x33 : g23 ≠ g33 := by omega
    clear z23
    have n25x33 : g25 ≠ g33 := by omega
    clear z25
    have n27x33 : g27 ≠ g33 := by omega
    clear z27
    have n29x33 : g29 ≠ g33 := by omega
    clear z29
    have n31x33 : g31 ≠ g33 := by omega
    clear z31
    replace b10 := b10.ext x53
    replace b11 := b11.ext x53
    replace b12 := b12.ext x53
    replace b13 := b13.ext x53
    replace b14 := b14.ext x53
    replace b15 := b15.ext x53
    replace b16 := b16.ext x53
    replace b17 := b17.ext x53
    replace b18 := b18.ext x53
    replace b19 := b19.ext x53
    replace b20 := b20.ext x53
    replace b21 := b21.ext x53
    replace b23 := b23.ext x53
    replace b25 := b25.ext x53
    replace b27 := b27.ext x53
    replace b29 := b29.ext x53
    replace b31 := b31.ext x53
    replace xx := xx.tr x53
    clear hg33 hl33
    refine stoR b33 fun w54 o54 b33 => ?_
    replace b10 := blkOwn b10 n10x33 o54
    replace b11 := blkOwn b11 n11x33 o54
    replace b12 := blkOwn b12 n12x33 o54
    replace b13 := blkOwn b13 n13x33 o54
    replace b14 := blkOwn b14 n14x33 o54
    replace b15 := blkOwn b15 n15x33 o54
    replace b16 := blkOwn b16 n16x33 o54
    replace b17 := blkOwn b17 n17x33 o54
    replace b18 := blkOwn b18 n18x33 o54
    replace b19 := blkOwn b19 n19x33 o54
    replace b20 := blkOwn b20 n20x33 o54
    replace b21 := blkOwn b21 n21x33 o54
    replace b23 := blkOwn b23 n23x33 o54
    replace b25 := blkOwn b25 n25x33 o54
    replace b27 := blkOwn b27 n27x33 o54
    replace b29 := blkOwn b29 n29x33 o54
    replace b31 := blkOwn b31 n31x33 o54
    replace xx := o54.ext xx k33
    refine iaR4x3 (lR8x6 b13 (ldR b11 ?_))
    refine Cl2 n_rational_Mul (qagain _ (hT.ext xx)) fun w55 x55 => ?_
    replace b10 := b10.ext x55
    replace b11 := b11.ext x55
    replace b12 := b12.ext x55
    replace b13 := b13.ext x55
    replace b14 := b14.ext x55
    replace b15 := b15.ext x55
    replace b16 := b16.ext x55
    replace b17 := b17.ext x55
    replace b18 := b18.ext x55
    replace b19 := b19.ext x55
    replace b20 := b20.ext x55
    replace b21 := b21.ext x55
    replace b23 := b23.ext x55
    replace b25 := b25.ext x55
    replace b27 := b27.ext x55
    replace b29 := b29.ext x55
    replace b31 := b31.ext x55
    replace b33 := b33.ext x55
    replace xx := xx.tr x55
    have z10 := b10.lt
    have z11 := b11.lt
    have z12 := b12.lt
    have z13 := b13.lt
    have z14 := b14.lt
    have z15 := b15.lt
    have z16 := b16.lt
    have z17 := b17.lt
    have z18 := b18.lt
    have z19 := b19.lt
    have z20 := b20.lt
    have z21 := b21.lt
    have z23 := b23.lt
    have z25 := b25.lt
    have z27 := b27.lt
    have z29 := b29.lt
    have z31 := b31.lt
    have z33 := b33.lt
    refine alR fun g35 w56 x56 hg35 hl35 b35 => ?_
    have k35 : w.heap.size ≤ g35 := by have := xx.size; omega
    have n10x35 : g10 ≠ g35 := by omega
    clear z10
    have n11x35 : g11 ≠ g35 := by omega
    clear z11
    have n12x35 : g12 ≠ g35 := by omega
    clear z12
    have n13x35 : g13 ≠ g35 := by omega
    clear z13
    have n14x35 : g14 ≠ g35 := by omega
    clear z14
    have n15x35 : g15 ≠ g35 := by omega
    clear z15
    have n16x35 : g16 ≠ g35 := by omega
    clear z16
    have n17x35 : g17 ≠ g35 := by omega
    clear z17
    have n18x35 : g18 ≠ g35 := by omega
    clear z18
    have n19x35 : g19 ≠ g35 := by omega
    clear z19
    have n20x35 : g20 ≠ g35 := by omega
    clear z20
    have n21x35 : g21 ≠ g35 := by omega
    clear z21
    have n23x35 : g23 ≠ g35 := by omega
    clear z23
    have n25x35 : g25 ≠ g35 := by omega
    clear z25
    have n27x35 : g27 ≠ g35 := by omega
    clear z27
    have n29x35 : g29 ≠ g35 := by omega
    clear z29
    have n31x35 : g31 ≠ g35 := by omega
    clear z31
    have n33x35 : g33 ≠ g35 := by omega
    clear z33
    replace b10 := b10.ext x56
    replace b11 := b11.ext x56
    replace b12 := b12.ext x56
    replace b13 := b13.ext x56
    replace b14 := b14.ext x56
    replace b15 := b15.ext x56
    replace b16 := b16.ext x56
    replace b17 := b17.ext x56
    replace b18 := b18.ext x56
    replace b19 := b19.ext x56
    replace b20 := b20.ext x56
    replace b21 := b21.ext x56
    replace b23 := b23.ext x56
    replace b25 := b25.ext x56
    replace b27 := b27.ext x56
    replace b29 := b29.ext x56
    replace b31 := b31.ext x56
    replace b33 := b33.ext x56
    replace xx := xx.tr x56
    clear hg35 hl35
    refine stoR b35 fun w57 o57 b35 => ?_
    replace b10 := blkOwn b10 n10x35 o57
    replace b11 := blkOwn b11 n11x35 o57
    replace b12 := blkOwn b12 n12x35 o57
    replace b13 := blkOwn b13 n13x35 o57
    replace b14 := blkOwn b14 n14x35 o57
    replace b15 := blkOwn b15 n15x35 o57
    replace b16 := blkOwn b16 n16x35 o57
    replace b17 := blkOwn b17 n17x35 o57
    replace b18 := blkOwn b18 n18x35 o57
    replace b19 := blkOwn b19 n19x35 o57
    replace b20 := blkOwn b20 n20x35 o57
    replace b21 := blkOwn b21 n21x35 o57
    replace b23 := blkOwn b23 n23x35 o57
    replace b25 := blkOwn b25 n25x35 o57
    replace b27 := blkOwn b27 n27x35 o57
    replace b29 := blkOwn b29 n29x35 o57
    replace b31 := blkOwn b31 n31x35 o57
    replace b33 := blkOwn b33 n33x35 o57
    replace xx := o57.ext xx k35
    refine Gd_T (iaE4x0 (Gd_T (lE4x0 b14 (Gd_T (neD rfl (Gd_T ?_))))))
    refine org2 (fun _ K1 hK1 => neD rfl hK1) rfl ?_
    refine Gd_T ?_
    refine org3 (fun _ K1 hK1 => ldR b33 (ldR b10 (qEqD rfl hK1))) (v := true) ?_ (Pick_T ?_)
    · by_cases a1 : A.2.2 = 0 <;> by_cases a2 : back.2.2 = 0 <;> simp only [a1, a2, ne_eq, not_true_eq_false, not_false_eq_true, decide_true, decide_false, Bool.true_or, Bool.or_true, Bool.false_or]
      obtain ⟨u1, u2⟩ := hbk a1 a2
      rw [u1, u2]; exact same2 _ _
    refine Gd_T (iaE4x3 (Gd_T (lE4x3 b14 (Gd_T (neD rfl (Gd_T ?_))))))
    refine org2 (fun _ K1 hK1 => neD rfl hK1) rfl ?_
    refine Gd_T ?_
    refine org3 (fun _ K1 hK1 => ldR b35 (ldR b10 (qEqD rfl hK1))) (v := true) ?_ (Pick_T ?_)
    · by_cases a1 : D.2.2 = 0 <;> by_cases a2 : again.2.2 = 0 <;> simp only [a1, a2, ne_eq, not_true_eq_false, not_false_eq_true, decide_true, decide_false, Bool.true_or, Bool.or_true, Bool.false_or]
      obtain ⟨u1, u2⟩ := hag a1 a2
      rw [u1, u2]; exact same2 _ _
    exact Ret.mk ⟨xx, rfl⟩
  refine If_T (ldI4 b4 ?_)
  refine Cl_i n_ref04_Long (i_Long rx0 rx1 rx2 rx3) ?_
  rintro _ w14 ⟨x14, x, hx, rfl⟩
  replace b4 := b4.ext x14
  replace b5 := b5.ext x14
  replace b6 := b6.ext x14
  replace b10 := b10.ext x14
  replace b11 := b11.ext x14
  replace b12 := b12.ext x14
  replace xx := xx.tr x14
  refine stoR b10 fun w15 o15 b10 => ?_
  replace b4 := blkOwn b4 n4x10 o15
  replace b5 := blkOwn b5 n5x10 o15
  replace b6 := blkOwn b6 n6x10 o15
  replace b11 := blkOwn b11 n10x11.symm o15
  replace b12 := blkOwn b12 n10x12.symm o15
  replace xx := o15.ext xx k10
  refine ldI4 b5 ?_
  refine Cl_i n_ref04_Long (i_Long ry0 ry1 ry2 ry3) ?_
  rintro _ w16 ⟨x16, y, hy, rfl⟩
  replace b4 := b4.ext x16
  replace b5 := b5.ext x16
  replace b6 := b6.ext x16
  replace b10 := b10.ext x16
  replace b11 := b11.ext x16
  replace b12 := b12.ext x16
  replace xx := xx.tr x16
  refine stoR b11 fun w17 o17 b11 => ?_
  replace b4 := blkOwn b4 n4x11 o17
  replace b5 := blkOwn b5 n5x11 o17
  replace b6 := blkOwn b6 n6x11 o17
  replace b10 := blkOwn b10 n10x11 o17
  replace b12 := blkOwn b12 n11x12.symm o17
  replace xx := o17.ext xx k11
  exact main x y _ (hx.rb (by decide) (by decide)) (hy.rb (by decide) (by decide)) (.inr rfl) xx b10 b11 b12
theorem i_Field {p0 p1 p2 p3 y0 y1 y2 y3 z0 z1 : Int} {sg : Bool} {w : World} (rx0 : R64 p0) (rx1 : R64 p1) (rx2 : R64 p2) (rx3 : R64 p3) (ry0 : R64 y0) (ry1 : R64 y1) (ry2 : R64 y2) (ry3 : R64 y3) (rz0 : R64 z0) (rz1 : R64 z1) (hT : Tab w) (hM : MaxV w) :
    Calls Tryz.prog 8 #[.agg #[.int .i64 p0, .int .i64 p1, .int .i64 p2, .int .i64 p3], .agg #[.int .i64 y0, .int .i64 y1, .int .i64 y2, .int .i64 y3], .agg #[.int .i64 z0, .int .i64 z1], .bool sg] w (Ret fun r w' => Ext w w' ∧ r = .bool true) := by
  cases sg
  · exact field_false rx0 rx1 rx2 rx3 ry0 ry1 ry2 ry3 rz0 rz1 hT hM
  · exact field_true rx0 rx1 rx2 rx3 ry0 ry1 ry2 ry3 rz0 rz1 hT hM
end Go.Proofs.YthpcmmfijelbaaaGreatDoor
