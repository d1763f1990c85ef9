/-
  Contracts of functions of the program, and plain lemmas on numbers and strings. By an AI agent.
-/
import Derived.Test.YthpcmmfijelbaaaGreatDoorQMem
set_option linter.unusedSimpArgs false
set_option linter.unusedVariables false
set_option linter.unusedSectionVars false
namespace Go.Proofs.YthpcmmfijelbaaaGreatDoor
open Go Go.Eng Go.Proofs Go.Num Go.RowKit
set_option maxRecDepth 100000
set_option linter.unusedVariables false
set_option linter.unusedSectionVars false
def pickZ (c n : Int) : Int := if c < 0 then (-(c + 1)) % n else c % n
theorem pickZ_bd {c n : Int} (hn : 0 < n) : 0 ≤ pickZ c n ∧ pickZ c n < n := by
  unfold pickZ
  split
  · exact ⟨Int.emod_nonneg _ (by omega), Int.emod_lt_of_pos _ hn⟩
  · exact ⟨Int.emod_nonneg _ (by omega), Int.emod_lt_of_pos _ hn⟩
section
variable {c n : Int} {w : World} (h0 : -9223372036854775808 ≤ c) (h1 : c ≤ 9223372036854775807) (hn : 0 < n)
include h0 h1 hn
theorem c_pick : Calls Tryz.prog 18 #[.int .i64 c, .int .i64 n] w (Ret fun r w' => Ext w w' ∧ r = .int .i64 (pickZ c n)) := by
  apply e_law04_pick
  unfold s_law04_pick
  by_cases h : c < 0
  · have e : pickZ c n = (-(c + 1)) % n := by unfold pickZ; rw [if_pos h]
    rw [e]
    refine Bn_ltT h ?_
    refine If_T ?_
    refine Bn_ad (by omega) (by omega) ?_
    refine Un_ng (by omega) (by omega) ?_
    refine Bn_rm (by omega) hn ?_
    exact Ret.mk ⟨.refl _, rfl⟩
  · have e : pickZ c n = c % n := by unfold pickZ; rw [if_neg h]
    rw [e]
    refine Bn_ltF (by omega) ?_
    refine If_F ?_
    refine Bn_rm (by omega) hn ?_
    exact Ret.mk ⟨.refl _, rfl⟩
theorem c_fpick : Calls Tryz.prog 46 #[.int .i64 c, .int .i64 n] w (Ret fun r w' => Ext w w' ∧ r = .int .i64 (pickZ c n)) := by
  apply e_ref04_pick
  unfold s_ref04_pick
  by_cases h : c < 0
  · have e : pickZ c n = (-(c + 1)) % n := by unfold pickZ; rw [if_pos h]
    rw [e]
    refine Bn_ltT h ?_
    refine If_T ?_
    refine Bn_ad (by omega) (by omega) ?_
    refine Un_ng (by omega) (by omega) ?_
    refine Bn_rm (by omega) hn ?_
    exact Ret.mk ⟨.refl _, rfl⟩
  · have e : pickZ c n = c % n := by unfold pickZ; rw [if_neg h]
    rw [e]
    refine Bn_ltF (by omega) ?_
    refine If_F ?_
    refine Bn_rm (by omega) hn ?_
    exact Ret.mk ⟨.refl _, rfl⟩
end
theorem c_is {a b : List UInt8} {w : World} : Calls Tryz.prog 24 #[str a, str b] w (Ret fun r w' => Ext w w' ∧ r = .agg #[str a, str b]) := by
  apply e_law04_is
  unfold s_law04_is
  refine alR fun g w1 x1 hg _ b1 => ?_
  refine bdR ?_
  refine stoRc b1 fun w2 o2 => ?_
  exact Ret.mk ⟨o2.ext x1 hg, rfl⟩
theorem cutTo (s : List UInt8) {m : Int} {k : Nat} (h : m = k) : (ByteArray.mk s.toArray).extract 0 (min (s.length : Int) m).toNat = ⟨(s.take k).toArray⟩ := by
  subst h
  apply ByteArray.ext
  apply Array.toList_inj.1
  rw [Lib.extract_data]
  simp only [List.drop_zero, Nat.sub_zero]
  rcases Nat.le_total s.length k with h | h
  · rw [List.take_of_length_le (show s.length ≤ (min (s.length : Int) (k : Int)).toNat by omega), List.take_of_length_le h]
  · rw [show (min (s.length : Int) (k : Int)).toNat = k from by omega]
theorem dvCut {l : List UInt8} {k : Nat} {w : World} {KP : Value → Prop} (hk : KP (str (l.take k))) :
    Dv Tryz.prog true (bV .len #[9] 3 #[str l]) w fun t7 => Dv Tryz.prog true (bV .min #[3, 3] 3 #[t7, (.int .i64 (k : Int))]) w fun t8 => Dv Tryz.prog true (Instr.sliceAt 9 (str l) none (some t8) none) w KP := by
  have e := cutTo l (m := (k : Int)) (k := k) rfl
  ((try simp -dsimp [go_sem, size_str, e]); repeat (simp -dsimp (disch := omega) only [gL, it_t, it_f, dit_t, dit_f]; try simp -dsimp [go_sem, size_str, e]))
  exact hk
theorem c_cut {n d : List UInt8} {w : World} : Calls Tryz.prog 13 #[.agg #[str n, str d]] w (Ret fun r w' => Ext w w' ∧ r = .agg #[str (n.take 210), str (d.take 210)]) := by
  apply e_law04_cut
  unfold s_law04_cut
  refine bxR fun g1 w1 x1 hg1 _ b1 => ?_
  refine alR fun g2 w2 x2 hg2 _ b2 => ?_
  replace b1 := b1.ext x2
  refine dF0 (dS2x0 (w := w2.drew) b1 ?_)
  refine dF0 (dS2x0 (w := w2.drew) b1 ?_)
  refine dvCut (k := 210) ?_
  refine dF1 (dS2x1 (w := w2.drew) b1 ?_)
  refine dF1 (dS2x1 (w := w2.drew) b1 ?_)
  refine dvCut (k := 210) ?_
  refine dBd ?_
  refine stoRc (w := w2.drew) b2 fun w3 o3 => ?_
  exact Ret.mk ⟨o3.ext (w := w2.drew) (x1.tr x2).dr (by have := x1.size; omega), rfl⟩
end Go.Proofs.YthpcmmfijelbaaaGreatDoor
namespace Go.Proofs.YthpcmmfijelbaaaGreatDoor
open Go Go.Eng Go.Proofs Go.Num Go.RowKit
set_option maxRecDepth 100000
set_option linter.unusedVariables false
set_option linter.unusedSectionVars false
theorem endSm {w0 w : World} {g2 g3 : Nat} {a b a2 b2 a3 b3 : List UInt8} (h2 : Blk w g2 tR [str a2, str b2]) (h3 : Blk w g3 tR [str a3, str b3]) (hne : g2 ≠ g3) (xx : Ext w0 w) (k2 : w0.heap.size ≤ g2) (k3 : w0.heap.size ≤ g3) :
    Sto Tryz.prog tR (pt g3) (.agg #[str a, str b]) w fun w => Ld Tryz.prog tR (pt g3) w fun t w => Sto Tryz.prog tR (pt g2) t w fun w => Rc Tryz.prog tR (pt g2) w fun r0 => Ret (fun r w' => Ext w0 w' ∧ r = .agg #[str a, str b]) (.returned r0) w := by
  refine stoR h3 fun w1 o1 h3 => ?_
  refine ldR h3 ?_
  refine stoRc (blkOwn h2 hne o1) fun w2 o2 => ?_
  exact Ret.mk ⟨o2.ext (o1.ext xx k3) k2, rfl⟩
def smallQ (a b : Int) : Rat := ((pickZ a 1999 - 999 : Int) : Rat) / ((1 + pickZ b 60 : Int) : Rat)
theorem smallQ_SR (a b : Int) : SR 3 2 (smallQ a b) := by
  have h1 := pickZ_bd (c := a) (n := 1999) (by decide)
  have h2 := pickZ_bd (c := b) (n := 60) (by decide)
  refine .of ?_ ?_ (by omega)
  · unfold Sz; omega
  · unfold Sz; omega
section
variable {a b : Int} {w : World} (ha : -9223372036854775808 ≤ a ∧ a ≤ 9223372036854775807) (hb : -9223372036854775808 ≤ b ∧ b ≤ 9223372036854775807)
include ha hb
theorem c_Small : Calls Tryz.prog 28 #[.agg #[.int .i64 a, .int .i64 b]] w (Ret fun r w' => Ext w w' ∧ r = fq (smallQ a b)) := by
  have h1 := pickZ_bd (c := a) (n := 1999) (by decide)
  have h2 := pickZ_bd (c := b) (n := 60) (by decide)
  have p1 := fun w : World => c_fpick (w := w) ha.1 ha.2 (n := 1999) (by decide)
  have p2 := fun w : World => c_fpick (w := w) hb.1 hb.2 (n := 60) (by decide)
  obtain ⟨u, hu⟩ : ∃ u, u = pickZ a 1999 := ⟨_, rfl⟩
  obtain ⟨v, hv⟩ : ∃ v, v = pickZ b 60 := ⟨_, rfl⟩
  rw [← hu] at h1
  rw [← hv] at h2
  simp only [← hu] at p1
  simp only [← hv] at p2
  have e : smallQ a b = ((u - 999 : Int) : Rat) / ((1 + v : Int) : Rat) := by unfold smallQ; rw [hu, hv]
  rw [e]
  have cO := fun w : World => c_fOf (w := w) (x := u - 999) (y := 1 + v) (by omega) (by omega) (by omega) (by omega)
  have em : makeQ (u - 999) (1 + v) = rQ (((u - 999 : Int) : Rat) / ((1 + v : Int) : Rat)) := by unfold makeQ; rw [if_neg (by omega)]
  rw [em] at cO
  clear em e hu hv ha hb
  obtain ⟨z, hz⟩ : ∃ z : Rat, z = ((u - 999 : Int) : Rat) / ((1 + v : Int) : Rat) := ⟨_, rfl⟩
  rw [← hz] at cO ⊢
  clear hz
  apply e_ref04_Small
  unfold s_ref04_Small
  refine bxI2 fun g1 w1 x1 hg1 _ b1 => ?_
  refine alR fun g2 w2 x2 hg2 hg2' b2 => ?_
  have xx := x1.tr x2
  have k2 : w.heap.size ≤ g2 := by have := x1.size; omega
  replace b1 := b1.ext x2
  clear x1 x2 hg1 hg2
  refine daI2x0 (dI2x0 (w := w2.drew) b1 ?_)
  refine daI2x1 (dI2x1 (w := w2.drew) b1 ?_)
  refine ⟨?_, ?_⟩
  · refine Cl1 n_ref04_pick (p1 w2.drew) fun w3 x3 => ?_
    replace x3 : Ext w2 w3 := (Ext.refl w2).dr.tr x3
    replace b1 := b1.ext x3
    replace b2 := b2.ext x3
    replace xx := xx.tr x3
    refine kI2x1 b1 ?_
    refine Dv_su (by omega) (by omega) ?_
    refine ⟨?_, ?_⟩
    · refine Cl1 n_ref04_pick (p2 w3) fun w4 x4 => ?_
      replace b1 := b1.ext x4
      replace b2 := b2.ext x4
      replace xx := xx.tr x4
      refine Dv_ad (by omega) (by omega) ?_
      refine ⟨?_, ?_⟩
      · refine Cl1 n_ref04_Of (cO w4) fun w5 x5 => ?_
        refine ExP2 ?_
        refine alR fun g3 w6 x6 hg3 hg3' b3 => ?_
        replace b1 := (b1.ext x5).ext x6
        replace b2 := b2.ext x5
        have hne := b2.lt
        refine kI2x0 b1 (kI2x1 b1 ?_)
        have xs := (xx.tr x5).size
        exact endSm (b2.ext x6) b3 (by omega) ((xx.tr x5).tr x6) k2 (by omega)
      · refine alR fun g3 w6 x6 hg3 hg3' b3 => ?_
        replace b1 := b1.ext x6
        have hne := b2.lt
        refine kI2x0 b1 (kI2x1 b1 ?_)
        refine Cl1 n_ref04_Of (cO w6) fun w5 x5 => ?_
        refine ExP2 ?_
        have xs := xx.size
        exact endSm ((b2.ext x6).ext x5) (b3.ext x5) (by omega) ((xx.tr x6).tr x5) k2 (by omega)
    · refine alR fun g3 w6 x6 hg3 hg3' b3 => ?_
      replace b1 := b1.ext x6
      have hne := b2.lt
      refine kI2x0 b1 (kI2x1 b1 ?_)
      refine Cl1 n_ref04_pick (p2 w6) fun w4 x4 => ?_
      refine Dv_ad (by omega) (by omega) ?_
      refine Cl1 n_ref04_Of (cO w4) fun w5 x5 => ?_
      refine ExP2 ?_
      have xs := xx.size
      exact endSm (((b2.ext x6).ext x4).ext x5) ((b3.ext x4).ext x5) (by omega) (((xx.tr x6).tr x4).tr x5) k2 (by omega)
  · refine alR fun g3 w6 x6 hg3 hg3' b3 => ?_
    replace x6 : Ext w2 w6 := (Ext.refl w2).dr.tr x6
    replace b1 := b1.ext x6
    have hne := b2.lt
    replace hg3 : w2.heap.size ≤ g3 := hg3
    refine kI2x0 b1 (kI2x1 b1 ?_)
    refine Cl1 n_ref04_pick (p1 w6) fun w3 x3 => ?_
    refine kI2x1 (b1.ext x3) ?_
    refine Dv_su (by omega) (by omega) ?_
    refine Cl1 n_ref04_pick (p2 w3) fun w4 x4 => ?_
    refine Dv_ad (by omega) (by omega) ?_
    refine Cl1 n_ref04_Of (cO w4) fun w5 x5 => ?_
    refine ExP2 ?_
    have xs := xx.size
    exact endSm ((((b2.ext x6).ext x3).ext x4).ext x5) (((b3.ext x3).ext x4).ext x5) (by omega) ((((xx.tr x6).tr x3).tr x4).tr x5) k2 (by omega)
end
end Go.Proofs.YthpcmmfijelbaaaGreatDoor
namespace Go.Proofs.YthpcmmfijelbaaaGreatDoor
open Go Go.Eng Go.Proofs Go.Num Go.RowKit
set_option maxRecDepth 100000
set_option linter.unusedVariables false
set_option linter.unusedSectionVars false
theorem strB {b : UInt8} {w : World} {K : Value → World → Prop} (hk : ∀ w', Ext w w' → K (str [b]) w') :
    Bs Tryz.prog 35 1 [(0, .int .u8 b.toNat)] w fun t40 w => Cv Tryz.prog 35 9 t40 w K := by
  refine Bs_own sliB rfl (Nat.le_refl _) fun v W ho hg _ => ?_
  have hs : SlAt W v ([b].map bv) := ho.slAt
  rw [Cv_x, cv_str hs]
  exact hk W (World.grownBy.ext hg)
theorem cvD {d : Int} {w : World} {K : Value → World → Prop} (h0 : 0 ≤ d) (h1 : d < 10) (hk : K (.int .u8 (dch d).toNat) w) : Cv Tryz.prog 3 5 (.int .i64 (48 + d)) w K := by
  have e := wu8 (x := 48 + d) (by omega) (by omega)
  rw [dch_toNat ⟨h0, h1⟩, show ((48 + d.toNat : Nat) : Int) = 48 + d from by omega] at hk
  ((try simp -dsimp [go_sem, e]); repeat (simp -dsimp (disch := omega) only [gL, it_t, it_f, dit_t, dit_f]; try simp -dsimp [go_sem, e]))
  exact hk
theorem dch_isD {d : Int} (h0 : 0 ≤ d) (h1 : d < 10) : isD (dch d) := by
  have := dch_toNat ⟨h0, h1⟩
  unfold isD; omega
theorem dv_lt10 {l : List UInt8} (h : ∀ b ∈ l, isD b) : dv l < 10 ^ l.length := by
  induction l with
  | nil => simp [dv]
  | cons b r ih =>
    have hb := h b (by simp)
    have := ih (fun x hx => h x (by simp [hx]))
    unfold isD at hb
    rw [dv_cons, List.length_cons, Nat.pow_succ]
    have : (b.toNat - 48) * 10 ^ r.length ≤ 9 * 10 ^ r.length := Nat.mul_le_mul_right _ (by omega)
    omega
theorem digits_itoa {s : List UInt8} (h : ∀ b ∈ s, isD b) (hne : s ≠ []) (hh : s.length = 1 ∨ s.head? ≠ some 48) : Lib.itoa (dv s : Int) = s := by
  refine lit_pos _ ?_ rfl
  unfold canon
  simp only [Bool.and_eq_true, Bool.or_eq_true, List.all_eq_true, decide_eq_true_eq, beq_iff_eq, bne_iff_ne, Bool.not_eq_true', List.isEmpty_eq_false_iff]
  exact ⟨⟨hne, h⟩, hh⟩
theorem at4 {g : Nat} {ty : TypeId} {x0 x1 x2 x3 i : Int} {w : World} {K : Value → World → Prop} (h : Blk w g ty [.int .i64 x0, .int .i64 x1, .int .i64 x2, .int .i64 x3]) (h0 : 0 ≤ i) (h1 : i < 4)
    (hk : ∀ x, x = x0 ∨ x = x1 ∨ x = x2 ∨ x = x3 → K (.int .i64 x) w) : Ia Tryz.prog 24 (pt g) (.int .i64 i) w fun a w => Ld Tryz.prog 3 a w K := by
  rcases (show i = 0 ∨ i = 1 ∨ i = 2 ∨ i = 3 by omega) with rfl | rfl | rfl | rfl
  · exact iaI4x0 (lI4x0 h (hk _ (by simp)))
  · exact iaI4x1 (lI4x1 h (hk _ (by simp)))
  · exact iaI4x2 (lI4x2 h (hk _ (by simp)))
  · exact iaI4x3 (lI4x3 h (hk _ (by simp)))
def Gd100 (s : List UInt8) : Prop := ∃ z : Int, 0 ≤ z ∧ Sz 100 z ∧ s = Lib.itoa z
theorem sto2 {g : Nat} {s0 s1 s : List UInt8} {i : Int} {w : World} {KW : World → Prop} (h : Blk w g 64 [str s0, str s1]) (h0 : 0 ≤ i) (h1 : i < 2)
    (hk : ∀ w1, Own g w w1 → Blk w1 g 64 [str (if i = 0 then s else s0), str (if i = 1 then s else s1)] → KW w1) : Ia Tryz.prog 64 (pt g) (.int .i64 i) w fun a w => Sto Tryz.prog 9 a (str s) w KW := by
  rcases (show i = 0 ∨ i = 1 by omega) with rfl | rfl
  · exact iaS2x0 (sS2x0 h hk)
  · exact iaS2x1 (sS2x1 h hk)
theorem ixH {b : UInt8} {l : List UInt8} {w : World} {K : Value → World → Prop} (hl : (b :: l).length ≤ 1000000) (hk : K (.int .u8 b.toNat) w) : Ix Tryz.prog 9 (str (b :: l)) (.int .i64 0) w K :=
  Ix_s (j := 0) rfl rfl hl hk
theorem i_Long {x0 x1 x2 x3 : Int} {w : World} (r0 : -9223372036854775808 ≤ x0 ∧ x0 ≤ 9223372036854775807) (r1 : -9223372036854775808 ≤ x1 ∧ x1 ≤ 9223372036854775807) (r2 : -9223372036854775808 ≤ x2 ∧ x2 ≤ 9223372036854775807) (r3 : -9223372036854775808 ≤ x3 ∧ x3 ≤ 9223372036854775807) :
    Calls Tryz.prog 12 #[.agg #[.int .i64 x0, .int .i64 x1, .int .i64 x2, .int .i64 x3]] w (Ret fun r w' => Ext w w' ∧ ∃ x : Rat, SR 100 100 x ∧ r = fq x) := by
  have hS : Tryz.prog.underlying 9 = some .string := Tryz.underlying9
  have rg : ∀ x, x = x0 ∨ x = x1 ∨ x = x2 ∨ x = x3 → -9223372036854775808 ≤ x ∧ x ≤ 9223372036854775807 := by
    rintro x (rfl | rfl | rfl | rfl) <;> assumption
  apply e_ref04_Long
  unfold s_ref04_Long
  refine bxI4 fun g1 w1 y1 hg1 hg1' b1 => ?_
  refine alR fun g2 w2 y2 hg2 hg2' b2 => ?_
  refine alS2 fun g3 w3 y3 hg3 hg3' b3 => ?_
  replace b1 := (b1.ext y2).ext y3
  replace b2 := b2.ext y3
  have xx := (y1.tr y2).tr y3
  have n13 : g1 ≠ g3 := by omega
  have n23 : g2 ≠ g3 := by omega
  have k2 : w.heap.size ≤ g2 := by have := y1.size; omega
  have k3 : w.heap.size ≤ g3 := by have := y1.size; have := y2.size; omega
  clear y1 y2 y3 hg1 hg1' hg2 hg2' hg3 hg3'
  obtain ⟨S, hS0⟩ : ∃ S : Value → World → Prop, S = (fun r w' => Ext w w' ∧ ∃ x : Rat, SR 100 100 x ∧ r = fq x) := ⟨_, rfl⟩
  rw [← hS0]
  obtain ⟨I, hI⟩ : ∃ I : Value → World → Prop, I = (fun i W => ∃ (j : Nat) (s0 s1 : List UInt8), j ≤ 2 ∧ i = .int .i64 j ∧ (1 ≤ j → Gd100 s0) ∧ (2 ≤ j → Gd100 s1) ∧ Ext w W ∧
    Blk W g1 24 [.int .i64 x0, .int .i64 x1, .int .i64 x2, .int .i64 x3] ∧ Blk W g2 tR [str [], str []] ∧ Blk W g3 64 [str s0, str s1]) := ⟨_, rfl⟩
  obtain ⟨μ, hμ⟩ : ∃ μ : Value → World → Nat, μ = (fun i _ => match i with | .int _ i' => 2 - i'.toNat | _ => 0) := ⟨_, rfl⟩
  refine Lp1.mk I μ (by rw [hI]; exact ⟨0, [], [], by omega, rfl, by omega, by omega, xx, b1, b2, b3⟩) ?_
  clear b1 b2 b3 xx
  intro i W hh
  have hh' := hh
  rw [hI] at hh'
  obtain ⟨j, s0, s1, hj, rfl, d0, d1, xx, b1, b2, b3⟩ := hh'
  by_cases hj2 : j < 2
  · refine Bn_ltT (by omega) ?_
    refine If_T ?_
    refine Bn_mu (by omega) (by omega) ?_
    refine Bn_ad (by omega) (by omega) ?_
    refine at4 b1 (by omega) (by omega) fun xa hxa => ?_
    have ra := rg xa hxa
    refine Cl1 n_ref04_pick (c_fpick (w := W) ra.1 ra.2 (n := 100) (by decide)) fun w4 y4 => ?_
    have ha := pickZ_bd (c := xa) (n := 100) (by decide)
    obtain ⟨a, hae⟩ : ∃ a, a = pickZ xa 100 := ⟨_, rfl⟩
    rw [← hae] at ha ⊢
    replace b1 := b1.ext y4
    replace b2 := b2.ext y4
    replace b3 := b3.ext y4
    replace xx := xx.tr y4
    refine Bn_ad (by omega) (by omega) ?_
    refine Bn_mu (by omega) (by omega) ?_
    refine at4 b1 (by omega) (by omega) fun xb hxb => ?_
    have rb := rg xb hxb
    refine Cl1 n_ref04_pick (c_fpick (w := w4) rb.1 rb.2 (n := 1000000007) (by decide)) fun w5 y5 => ?_
    have hb := pickZ_bd (c := xb) (n := 1000000007) (by decide)
    obtain ⟨c, hce⟩ : ∃ c, c = pickZ xb 1000000007 := ⟨_, rfl⟩
    rw [← hce] at hb ⊢
    replace b1 := b1.ext y5
    replace b2 := b2.ext y5
    replace b3 := b3.ext y5
    replace xx := xx.tr y5
    clear hce hae ra rb hxa hxb y4 y5
    obtain ⟨n, hn⟩ : ∃ n : Nat, (n : Int) = 1 + a := ⟨(1 + a).toNat, by omega⟩
    obtain ⟨I2, hI2⟩ : ∃ I2 : Value → Value → World → Prop, I2 = (fun s i W' => ∃ (l : List UInt8) (c : Int), s = str l ∧ i = .int .i64 c ∧ 0 ≤ c ∧ c < 2147483647 ∧ l.length ≤ n ∧ (∀ b ∈ l, isD b) ∧ Ext w5 W') := ⟨_, rfl⟩
    obtain ⟨μ2, hμ2⟩ : ∃ μ2 : Value → Value → World → Nat, μ2 = (fun s _ _ => match s with | .string b => n - b.data.toList.length | _ => 0) := ⟨_, rfl⟩
    refine Lp2.mk I2 μ2 (by rw [hI2]; exact ⟨[], c, rfl, rfl, by omega, by omega, by simp, by simp, .refl _⟩) ?_
    intro s i W' hh
    rw [hI2] at hh
    obtain ⟨l, c, rfl, rfl, hc0, hc1, hl, hD, y6⟩ := hh
    have hlM : l.length ≤ 200 := by omega
    refine Bt_lenS hS ?_
    by_cases hln : l.length < n
    · refine Bn_ltT (by omega) ?_
      refine If_T ?_
      refine Bn_mu (by omega) (by omega) ?_
      refine Bn_ad (by omega) (by omega) ?_
      refine Bn_rm (by omega) (by omega) ?_
      have e1 := Int.emod_nonneg (c * 48271 + 11) (b := 2147483647) (by omega)
      have e2 := Int.emod_lt_of_pos (c * 48271 + 11) (b := 2147483647) (by omega)
      obtain ⟨c', hc'⟩ : ∃ c', c' = (c * 48271 + 11) % 2147483647 := ⟨_, rfl⟩
      rw [← hc'] at e1 e2 ⊢
      refine Bn_qu (by omega) (by omega) (by omega) ?_
      refine Bn_rm (by omega) (by omega) ?_
      have f1 := Int.emod_nonneg (c' / 65536) (b := 10) (by omega)
      have f2 := Int.emod_lt_of_pos (c' / 65536) (b := 10) (by omega)
      obtain ⟨d, hd⟩ : ∃ d, d = c' / 65536 % 10 := ⟨_, rfl⟩
      rw [← hd] at f1 f2 ⊢
      refine Bn_ad (by omega) (by omega) ?_
      refine cvD f1 f2 ?_
      refine strB fun W2 y7 => ?_
      refine Bn_cat (by simp; omega) ?_
      rw [hI2, hμ2]
      refine ⟨⟨l ++ [dch d], c', rfl, rfl, e1, e2, by simp; omega, ?_, y6.tr y7⟩, ?_⟩
      · intro b hb
        rcases List.mem_append.1 hb with h | h
        · exact hD b h
        · simp at h; subst h; exact dch_isD f1 f2
      · show n - (l ++ [dch d]).length < n - l.length
        simp; omega
    · refine Bn_ltF (by omega) ?_
      refine If_F ?_
      clear hI2 hμ2 I2 μ2 hc0 hc1 hb
      have hlne : l ≠ [] := by intro h; subst h; simp at hln; omega
      replace b1 := b1.ext y6
      replace b2 := b2.ext y6
      replace b3 := b3.ext y6
      replace xx := xx.tr y6
      obtain ⟨I3, hI3⟩ : ∃ I3 : Value → World → Prop, I3 = (fun s W3 => ∃ l : List UInt8, s = str l ∧ l.length ≤ n ∧ l ≠ [] ∧ (∀ b ∈ l, isD b) ∧ W3 = W') := ⟨_, rfl⟩
      obtain ⟨μ3, hμ3⟩ : ∃ μ3 : Value → World → Nat, μ3 = (fun s _ => match s with | .string b => b.data.toList.length | _ => 0) := ⟨_, rfl⟩
      refine Lp1.mk I3 μ3 (by rw [hI3]; exact ⟨l, rfl, hl, hlne, hD, rfl⟩) ?_
      clear hlne hD hl hln hlM
      intro s W3 hh
      rw [hI3] at hh
      obtain ⟨l, rfl, hl, hlne, hD, rfl⟩ := hh
      have fin : l.length = 1 ∨ l.head? ≠ some 48 → Ia Tryz.prog 64 (pt g3) (.int .i64 j) W3 fun t55 w_1 => Sto Tryz.prog 9 t55 (str l) w_1 fun w_1 =>
          Bn Tryz.prog .add 3 true (.int .i64 j) (.int .i64 1) w_1 fun t13 w_1 => I t13 w_1 ∧ μ t13 w_1 < μ (.int .i64 j) W := by
        intro hcan
        have hit := digits_itoa hD hlne hcan
        have hlt := dv_lt10 hD
        have hg : Gd100 l := ⟨(dv l : Int), by omega, by
          unfold Sz
          have : (10 : Nat) ^ l.length ≤ 10 ^ 100 := Nat.pow_le_pow_right (by decide) (by omega)
          simp only [Int.natAbs_natCast]; omega, hit.symm⟩
        refine sto2 b3 (by omega) (by omega) fun w6 o6 b3' => ?_
        refine Bn_ad (by omega) (by omega) ?_
        rw [hI, hμ]
        refine ⟨⟨j + 1, _, _, by omega, rfl, ?_, ?_, o6.ext xx k3, blkOwn b1 n13 o6, blkOwn b2 n23 o6, b3'⟩, ?_⟩
        · intro _
          by_cases hj0 : (j : Int) = 0
          · rw [if_pos hj0]; exact hg
          · rw [if_neg hj0]; exact d0 (by omega)
        · intro hj1
          rw [if_pos (by omega)]; exact hg
        · show 2 - ((j : Int) + 1).toNat < 2 - (j : Int).toNat
          omega
      refine Bt_lenS hS ?_
      cases l with
      | nil => exact absurd rfl hlne
      | cons b r =>
        by_cases hr : r = []
        · subst hr
          refine Bn_gtF (by simp) ?_
          ((with_reducible refine Gd_FT ?_); (with_reducible refine Gd_FT ?_); (with_reducible refine Gd_FT ?_); (with_reducible refine Pick_F ?_); (with_reducible refine If_F ?_))
          exact fin (.inl rfl)
        · have hrl : 0 < r.length := List.length_pos_iff.2 hr
          refine Bn_gtT (by simp; omega) ?_
          ((with_reducible refine Gd_T ?_); (with_reducible refine Gd_T ?_))
          refine ixH (by simp at hl ⊢; omega) ?_
          by_cases hb : b = 48
          · subst hb
            refine Bn_eqT rfl ?_
            ((with_reducible refine Pick_T ?_); (with_reducible refine If_T ?_))
            refine Sc_1 (by simp at hl ⊢; omega) ?_
            rw [hI3, hμ3]
            refine ⟨⟨r, rfl, by simp at hl; omega, hr, fun x hx => hD x (by simp [hx]), rfl⟩, ?_⟩
            show r.length < (48 :: r).length
            simp
          · have hb' : (b.toNat : Int) < 48 ∨ 48 < (b.toNat : Int) := by
              have : b.toNat ≠ 48 := fun h => hb (UInt8.toNat_inj.1 h)
              omega
            refine Bn_eqF hb' ?_
            ((with_reducible refine Pick_T ?_); (with_reducible refine If_F ?_))
            exact fin (.inr (by simpa using hb))
  · have hj2' : j = 2 := by omega
    subst hj2'
    refine Bn_ltF (by omega) ?_
    refine If_F ?_
    obtain ⟨z0, z00, z01, rfl⟩ := d0 (by omega)
    obtain ⟨z1, z10, z11, rfl⟩ := d1 (by omega)
    clear hI hμ I μ d0 d1 hh hj hj2
    refine Jn0.mk ?_
    intro K hK
    have fin : ∀ (z1 : Int) (W' : World), 0 < z1 → Sz 100 z1 → Ext w W' → Blk W' g1 24 [.int .i64 x0, .int .i64 x1, .int .i64 x2, .int .i64 x3] → Blk W' g2 tR [str [], str []] → Blk W' g3 64 [str (Lib.itoa z0), str (Lib.itoa z1)] → K W' := by
      intro z1 W' z10 z11 xx b1 b2 b3
      refine hK W' ?_
      refine Jn0.mk ?_
      intro K2 hK2
      have fin2 : ∀ (z0 : Int) (W' : World), Sz 100 z0 → Ext w W' → Blk W' g2 tR [str [], str []] → Blk W' g3 64 [str (Lib.itoa z0), str (Lib.itoa z1)] → K2 W' := by
        intro z0 W' z01 xx b2 b3
        refine hK2 W' ?_
        refine iaS2x0 (lS2x0 b3 (iaS2x1 (lS2x1 b3 ?_)))
        have m0' := z01.max (by decide)
        have m1' := z11.max (by decide)
        have cm := fMake_ok (w := W') (itoa_ok m0') (itoa_ok m1') m0' m1'
        have em : makeQ z0 z1 = rQ ((z0 : Rat) / z1) := by unfold makeQ; rw [if_neg (by omega)]
        rw [em] at cm
        refine Cl2 n_ref04_Make cm fun w6 y6 => ?_
        refine alR fun g8 w7 y7 hg8 hg8' b8 => ?_
        have hlt := (b2.ext y6).lt
        have xs := (xx.tr y6).size
        rw [hS0]
        obtain ⟨x, hx⟩ : ∃ x : Rat, x = (z0 : Rat) / z1 := ⟨_, rfl⟩
        have hSR : SR 100 100 x := by rw [hx]; exact .of z01 z11 (by omega)
        rw [← hx]
        refine stoR b8 fun w8 o8 b8 => ?_
        refine ldR b8 ?_
        refine stoRc (blkOwn ((b2.ext y6).ext y7) (by omega) o8) fun w9 o9 => ?_
        exact Ret.mk ⟨o9.ext (o8.ext ((xx.tr y6).tr y7) (by omega)) k2, x, hSR, rfl⟩
      refine iaI4x0 (lI4x0 b1 ?_)
      refine Cl1 n_ref04_pick (c_fpick (w := W') r0.1 r0.2 (n := 2) (by decide)) fun w5 y5 => ?_
      obtain ⟨p, hp⟩ : ∃ p, p = pickZ x0 2 := ⟨_, rfl⟩
      rw [← hp]
      replace b2 := b2.ext y5
      replace b3 := b3.ext y5
      replace xx := xx.tr y5
      by_cases hp0 : p = 0
      · refine Bn_eqT hp0 ?_
        ((with_reducible refine Gd_T ?_))
        refine iaS2x0 ?_
        ((with_reducible refine Gd_T ?_))
        refine lS2x0 b3 ?_
        by_cases hz0 : z0 = 0
        · have ez := is0 hz0
          have ez' : Lib.itoa z0 = [48] := by rw [hz0, itoa0]
          rw [ez']
          ((with_reducible refine Gd_T ?_); (with_reducible refine Bn_neST ?_); (with_reducible refine Pick_T ?_); (with_reducible refine If_F ?_))
          exact fin2 z0 w5 z01 xx b2 b3
        · have ez := not0 hz0
          ((with_reducible refine Gd_T ?_); ((with_reducible refine Bn_neSF ?_ ?_); focus assumption); (with_reducible refine Pick_T ?_); (with_reducible refine If_T ?_))
          refine iaS2x0 (lS2x0 b3 ?_)
          refine Bn_cat (by have := itoa_length (z01.max (by decide)); simp; omega) ?_
          have en : [45] ++ Lib.itoa z0 = Lib.itoa (-z0) := by
            have h1 : Lib.itoa z0 = Lib.decDigits z0.natAbs := by unfold Lib.itoa; rw [if_neg (by omega)]; congr 1; omega
            have h2 : Lib.itoa (-z0) = 45 :: Lib.decDigits z0.natAbs := by unfold Lib.itoa; rw [if_pos (by omega), Int.natAbs_neg]
            rw [h1, h2]; rfl
          rw [en]
          refine iaS2x0 ?_
          refine sS2x0 b3 fun w6 o6 b36 => ?_
          exact fin2 (-z0) w6 z01.neg (o6.ext xx k3) (blkOwn b2 n23 o6) b36
      · refine Bn_eqF (by omega) ?_
        ((with_reducible refine Gd_FT ?_); (with_reducible refine Gd_FT ?_); (with_reducible refine Gd_FT ?_); (with_reducible refine Pick_F ?_); (with_reducible refine If_F ?_))
        exact fin2 z0 w5 z01 xx b2 b3
    refine iaS2x1 (lS2x1 b3 ?_)
    by_cases hz1 : z1 = 0
    · have ez := is0 hz1
      have ez' : Lib.itoa z1 = [48] := by rw [hz1, itoa0]
      (((with_reducible refine Bn_eqS1 ?_ ?_); focus assumption); (with_reducible refine If_T ?_))
      refine iaS2x1 ?_
      refine sS2x1 b3 fun w6 o6 b36 => ?_
      have e7 : ([55] : List UInt8) = Lib.itoa 7 := (lit_pos 7 (by decide) (by decide)).symm
      rw [e7] at b36
      exact fin 7 w6 (by decide) (by unfold Sz; decide) (o6.ext xx k3) (blkOwn b1 n13 o6) (blkOwn b2 n23 o6) b36
    · have ez := not0 hz1
      (((with_reducible refine Bn_eqSF ?_ ?_); focus assumption); (with_reducible refine If_F ?_))
      exact fin z1 W (by omega) z11 xx b1 b2 b3
end Go.Proofs.YthpcmmfijelbaaaGreatDoor
