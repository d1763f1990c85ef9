/-
  Contracts and plain lemmas. By an AI agent.
-/
import Derived.Test.YtjgjeccfhmlcnaaGreatDoorQRatA
set_option linter.unusedSimpArgs false
set_option linter.unusedVariables false
set_option linter.unusedSectionVars false
namespace Go.Proofs.YtjgjeccfhmlcnaaGreatDoor
open Go Go.Eng Go.Proofs Go.Num Go.RowKit
set_option maxRecDepth 100000
theorem keD0 {w : World} {g : Nat} {a b : List UInt8} {rest : Prop} (h : Blk w g tR [str a, str b]) (hk : rest) : Ke Tryz.prog (Instr.loadAt tS (.pointer (some ⟨g, 0, none⟩))) (str a) w rest := by
 ((try simp -dsimp [go_sem, h.cell (i := 0) rfl]); repeat (simp -dsimp (disch := omega) only [gL, gI]; try simp -dsimp [go_sem, h.cell (i := 0) rfl]))
 exact hk
theorem keD1 {w : World} {g : Nat} {a b : List UInt8} {rest : Prop} (h : Blk w g tR [str a, str b]) (hk : rest) : Ke Tryz.prog (Instr.loadAt tS (.pointer (some ⟨g, 1, none⟩))) (str b) w rest := by
 ((try simp -dsimp [go_sem, h.cell (i := 1) rfl]); repeat (simp -dsimp (disch := omega) only [gL, gI]; try simp -dsimp [go_sem, h.cell (i := 1) rfl]))
 exact hk
theorem dvf0 {w : World} {g : Nat} {KP : Value → Prop} (hk : KP (.pointer (some ⟨g, 0, none⟩))) : Dv Tryz.prog true (Instr.fieldAt tR (pt g) 0) w.drew KP := by
 ((try simp -dsimp [go_sem]); repeat (simp -dsimp (disch := omega) only [gL, gI]; try simp -dsimp [go_sem]))
 exact hk
theorem dvf1 {w : World} {g : Nat} {KP : Value → Prop} (hk : KP (.pointer (some ⟨g, 1, none⟩))) : Dv Tryz.prog true (Instr.fieldAt tR (pt g) 1) w.drew KP := by
 ((try simp -dsimp [go_sem]); repeat (simp -dsimp (disch := omega) only [gL, gI]; try simp -dsimp [go_sem]))
 exact hk
theorem dvl0 {w : World} {g : Nat} {a b : List UInt8} {KP : Value → Prop} (h : Blk w g tR [str a, str b]) (hk : KP (str a)) : Dv Tryz.prog false (Instr.loadAt tS (.pointer (some ⟨g, 0, none⟩))) w.drew KP := by
 have h1 : w.drew.cell? ⟨g, 0, none⟩ = some (str a) := h.cell (i := 0) rfl
 ((try simp -dsimp [go_sem, h1]); repeat (simp -dsimp (disch := omega) only [gL, gI]; try simp -dsimp [go_sem, h1]))
 exact hk
theorem dvl1 {w : World} {g : Nat} {a b : List UInt8} {KP : Value → Prop} (h : Blk w g tR [str a, str b]) (hk : KP (str b)) : Dv Tryz.prog false (Instr.loadAt tS (.pointer (some ⟨g, 1, none⟩))) w.drew KP := by
 have h1 : w.drew.cell? ⟨g, 1, none⟩ = some (str b) := h.cell (i := 1) rfl
 ((try simp -dsimp [go_sem, h1]); repeat (simp -dsimp (disch := omega) only [gL, gI]; try simp -dsimp [go_sem, h1]))
 exact hk
section
variable {n d m c : List UInt8} {w : World} (hn : n.length ≤ 1000000) (hd : d.length ≤ 1000000) (hm : m.length ≤ 1000000) (hc : c.length ≤ 1000000) (hT : Tab w)
include hn hd hm hc hT
theorem c_sum {fop : FuncId} {f : Int → Int → Int} {F : Rat → Rat → Rat} {Q : Rat → Rat → R3} (hno : Enters Tryz.prog fop)
 (hop : ∀ {p q : List UInt8} {w : World}, p.length ≤ 1000000 → q.length ≤ 1000000 → Tab w → Calls Tryz.prog fop #[str p, str q] w (Ret fun r w' => Ext w w' ∧ r = .tuple #[str (binA f p q), .int .i64 (binE f p q)]))
 (hQ1 : ∀ x y, sumOk f x y → Q x y = rQ (F x y)) (hQ0 : ∀ x y, ¬ sumOk f x y → Q x y = rBad)
 (hF : ∀ x y : Rat, ((f (x.num * (y.den : Int)) (y.num * (x.den : Int)) : Int) : Rat) / (((x.den : Int) * (y.den : Int) : Int) : Rat) = F x y) :
 Calls Tryz.prog 49 #[.func (.func fop) #[] #[], .agg #[str n, str d], .agg #[str m, str c]] w (Ret fun r w' => Ext w w' ∧ r = rv (ans2 Q rBad n d m c)) := by
 apply e_rational_sum
 unfold s_rational_sum
 refine bxR fun g4 w1 x1 hg4 hg4' b4 => ?_
 refine bxR fun g5 w2 x2 hg5 hg5' b5 => ?_
 refine alR fun g6 w3 x3 hg6 hg6' b6 => ?_
 refine bdW0 ?_
 refine bxW fun g w4 x4 hg hgl h => ?_
 have xx := ((x1.tr x2).tr x3).tr x4
 have sz := x1.size
 have sz2 := x2.size
 have sz3 := x3.size
 have hw0 : w.heap.size ≤ g := by omega
 have n4 : g4 ≠ g := by omega
 have n5 : g5 ≠ g := by omega
 have n6 : g6 ≠ g := by omega
 have hw06 : w.heap.size ≤ g6 := by omega
 replace b4 := ((b4.ext x2).ext x3).ext x4
 replace b5 := (b5.ext x3).ext x4
 replace b6 := b6.ext x4
 refine ldR b4 ?_
 refine ldR b5 ?_
 refine bs2R fun s w5 x5 hs b7 => ?_
 have h5 := h.ext x5
 have hgT : ∀ W, Own g w5 W → Tab W := fun W o => hT.ext (o.ext (xx.tr x5) hw0)
 refine Cl_i n_rational_work_check (c_check h5 b7 (by omega) rfl (by decide) (by
  intro x hx
  simp only [List.mem_cons, List.not_mem_nil, or_false] at hx
  rcases hx with rfl | rfl
  ·exact ⟨hn, hd⟩
  ·exact ⟨hm, hc⟩) (hT.ext (xx.tr x5)) hgT) ?_
 rintro _ w6 ⟨rfl, o6, h6⟩
 obtain ⟨b0, e0⟩ : ∃ b0, b0 = badB n d m c := ⟨_, rfl⟩
 have e0' : (false || [(n, d), (m, c)].any fun x => !okB x.1 x.2) = b0 := by rw [e0]; simp [badB]
 rw [e0'] at h6
 replace b4 := blkOwn (b4.ext x5) n4 o6
 replace b5 := blkOwn (b5.ext x5) n5 o6
 replace b6 := blkOwn (b6.ext x5) n6 o6
 refine dvf0 (dvl0 b4 (dvf1 (dvl1 b5 (dvf0 (dvl0 b5 (dvf1 (dvl1 b4 ?_)))))))
 have o6d : Own g w5 w6.drew := ⟨o6.below.drew, o6.other⟩
 obtain ⟨n1, e1⟩ : ∃ n1, n1 = doA b0 (binA (fun a b => a * b) n c) := ⟨_, rfl⟩
 obtain ⟨b1, f1⟩ : ∃ b1, b1 = doB b0 (binE (fun a b => a * b) n c) := ⟨_, rfl⟩
 have l1 : n1.length ≤ 1000000 := by rw [e1]; exact doA_len (binA_len _ _ _)
 have c1 := c_wmul (w := w6.drew) h6 hn hc (hgT _ o6d)
 rw [← e1, ← f1] at c1
 refine Cl_i n_rational_work_mul c1 ?_
 rintro _ w7 ⟨rfl, o7, h7⟩
 have q4 : Blk w7 g4 tR [str n, str d] := blkOwn (W := w6.drew) b4 n4 o7
 have q5 : Blk w7 g5 tR [str m, str c] := blkOwn (W := w6.drew) b5 n5 o7
 have q6 : Blk w7 g6 tR [str [], str []] := blkOwn (W := w6.drew) b6 n6 o7
 replace o7 : Own g w5 w7 := o6d.trans o7
 refine keD0 q5 (keD1 q4 ?_)
 obtain ⟨n2, e2⟩ : ∃ n2, n2 = doA b1 (binA (fun a b => a * b) m d) := ⟨_, rfl⟩
 obtain ⟨b2, f2⟩ : ∃ b2, b2 = doB b1 (binE (fun a b => a * b) m d) := ⟨_, rfl⟩
 have l2 : n2.length ≤ 1000000 := by rw [e2]; exact doA_len (binA_len _ _ _)
 have c2 := c_wmul (w := w7) h7 hm hd (hgT _ o7)
 rw [← e2, ← f2] at c2
 refine Cl_i n_rational_work_mul c2 ?_
 rintro _ w8 ⟨rfl, o8, h8⟩
 replace q4 := blkOwn q4 n4 o8
 replace q5 := blkOwn q5 n5 o8
 replace q6 := blkOwn q6 n6 o8
 replace o8 := o7.trans o8
 obtain ⟨n3, e3⟩ : ∃ n3, n3 = doA b2 (binA f n1 n2) := ⟨_, rfl⟩
 obtain ⟨b3, f3⟩ : ∃ b3, b3 = doB b2 (binE f n1 n2) := ⟨_, rfl⟩
 have c3 := c_do (w := w8) h8 hno (hop l1 l2 (hgT _ o8))
 rw [← e3, ← f3] at c3
 refine Cl_i n_rational_work_do c3 ?_
 rintro _ w9 ⟨rfl, o9, h9⟩
 replace q4 := blkOwn q4 n4 o9
 replace q5 := blkOwn q5 n5 o9
 replace q6 := blkOwn q6 n6 o9
 replace o9 := o8.trans o9
 refine fl1 q4 (fl1 q5 ?_)
 obtain ⟨nn, e4⟩ : ∃ nn, nn = doA b3 (binA (fun a b => a * b) d c) := ⟨_, rfl⟩
 obtain ⟨bb, f4⟩ : ∃ bb, bb = doB b3 (binE (fun a b => a * b) d c) := ⟨_, rfl⟩
 have c4 := c_wmul (w := w9) h9 hd hc (hgT _ o9)
 rw [← e4, ← f4] at c4
 refine Cl_i n_rational_work_mul c4 ?_
 rintro _ wa ⟨rfl, oa, ha⟩
 replace q6 := blkOwn q6 n6 oa
 replace oa := o9.trans oa
 refine Cl_i n_rational_work_reduced (sum_end hQ1 hQ0 hF e0 e1 f1 e2 f2 e3 f3 e4 f4 ha (fun W o => hgT W (oa.trans o))) ?_
 rintro _ wb ⟨ob, rfl⟩
 refine Ex2 (stoRc (blkOwn q6 n6 ob) fun wc oc => ?_)
 exact Ret.mk ⟨oc.ext ((oa.trans ob).ext (xx.tr x5) hw0) hw06, rfl⟩
theorem c_qAdd : Calls Tryz.prog 27 #[.agg #[str n, str d], .agg #[str m, str c]] w (Ret fun r w' => Ext w w' ∧ r = rv (ans2 addQ rBad n d m c)) := by
 apply e_rational_Add
 unfold s_rational_Add
 refine bxR fun g2 w1 x1 hg2 hg2' b2 => ?_
 refine bxR fun g3 w2 x2 hg3 hg3' b3 => ?_
 refine alR fun g4 w3 x3 hg4 hg4' b4 => ?_
 refine ldR ((b2.ext x2).ext x3) (ldR (b3.ext x3) ?_)
 have xx := (x1.tr x2).tr x3
 have hw0 : w.heap.size ≤ g4 := by have := x1.size; have := x2.size; omega
 refine Cl2 n_rational_sum (c_sum hn hd hm hc (hT.ext xx) n_integer_Add (f := fun a b => a + b) (F := fun x y => x + y) (Q := addQ) g_Add (fun x y h => by unfold addQ; rw [if_pos h]) (fun x y h => by unfold addQ; rw [if_neg h]) q_add) fun w4 x4 => ?_
 refine stoRc (b4.ext x4) fun w5 o5 => ?_
 exact Ret.mk ⟨o5.ext (xx.tr x4) hw0, rfl⟩
end
section
variable {n d m c : List UInt8} {w : World} (hn : n.length ≤ 1000000) (hd : d.length ≤ 1000000) (hm : m.length ≤ 1000000) (hc : c.length ≤ 1000000) (hT : Tab w)
include hn hd hm hc hT
end
theorem unNeg {x : Int} {t : TypeId} {w : World} {K : Value → World → Prop} (h0 : -1 ≤ x) (h1 : x ≤ 1) (hk : K (.int .i64 (-x)) w) : Un Tryz.prog .neg (.int .i64 x) w K := by
 have e := w64 (x := -x) (by omega) (by omega)
 ((try simp -dsimp [go_sem, e]); repeat (simp -dsimp (disch := omega) only [gL, gI]; try simp -dsimp [go_sem, e]))
 exact hk
theorem dvNeg {x : Int} {w : World} {KP : Value → Prop} (h0 : -1 ≤ x) (h1 : x ≤ 1) (hk : KP (.int .i64 (-x))) : Dv Tryz.prog true (Op.unary .neg (.int .i64 x)) w.drew KP := by
 have e := w64 (x := -x) (by omega) (by omega)
 ((try simp -dsimp [go_sem, e]); repeat (simp -dsimp (disch := omega) only [gL, gI]; try simp -dsimp [go_sem, e]))
 exact hk
theorem dvBd {w : World} {a b : List UInt8} {KP : Value → Prop} (hk : KP (.agg #[str a, str b])) : Dv Tryz.prog true (Instr.build tR #[(0, str a), (1, str b)]) w.drew KP := by
 ((try simp -dsimp [go_sem]); repeat (simp -dsimp (disch := omega) only [gL, gI]; try simp -dsimp [go_sem]))
 exact hk
noncomputable def denAt (g : Nat) (W : World) : Nat := match W.cell? ⟨g, 1, none⟩ with
 | some (.string b) => (zOf b.data.toList).toNat
 | _ => 0
theorem denAt_blk {g : Nat} {W : World} {a : List UInt8} {q : Int} (h : Blk W g tR [str a, str (Lib.itoa q)]) (hq : q.natAbs < MaxI) : denAt g W = q.toNat := by
 unfold denAt
 rw [h.cell (i := 1) rfl]
 show (zOf (Lib.itoa q)).toNat = _
 rw [zOf_itoa hq]
theorem ediv_max {p q : Int} (hp : p.natAbs < MaxI) : (p / q).natAbs < MaxI := by
 have := Int.natAbs_ediv_le_natAbs p q
 omega
theorem emod_max {p q : Int} (h0 : 0 < q) (hq : q.natAbs < MaxI) : (p % q).natAbs < MaxI := by
 have h1 := Int.emod_nonneg p (show q ≠ 0 by omega)
 have h2 := Int.emod_lt_of_pos p h0
 omega
section
variable {n d m c : List UInt8} {w : World} (hn : n.length ≤ 1000000) (hd : d.length ≤ 1000000) (hm : m.length ≤ 1000000) (hc : c.length ≤ 1000000) (hT : Tab w)
include hn hd hm hc hT
set_option maxHeartbeats 2000000 in
theorem qCmp_ok (o1 : okR n d) (o2 : okR m c) : Calls Tryz.prog 28 #[.agg #[str n, str d], .agg #[str m, str c]] w (Ret fun r w' => Ext w w' ∧ r = .int .i64 (ans2 cmpQ 0 n d m c)) := by
 obtain ⟨x, rfl, rfl, hx⟩ := o1
 obtain ⟨y, rfl, rfl, hy⟩ := o2
 rw [ans2_ok hx hy]
 have v1 := c_qValid (w := w) hn hd
 rw [okB_t (okR_q.2 hx)] at v1
 apply e_rational_Compare
 unfold s_rational_Compare
 refine bxR fun g2 w1 x1 hg2 hg2' b2 => ?_
 refine bxR fun g3 w2 x2 hg3 hg3' b3 => ?_
 replace b2 := b2.ext x2
 refine ldR b2 ?_
 have v1 := c_qValid (w := w2) hn hd ((hT.ext x1).ext x2)
 rw [okB_t (okR_q.2 hx)] at v1
 refine Cl1 n_rational_Valid v1 fun w3 x3 => ?_
 replace b2 := b2.ext x3
 replace b3 := b3.ext x3
 (refine Un_T ?_; refine Gd_F ?_)
 refine ldR b3 ?_
 have v2 := c_qValid (w := w3) hm hc (((hT.ext x1).ext x2).ext x3)
 rw [okB_t (okR_q.2 hy)] at v2
 refine Cl1 n_rational_Valid v2 fun w4 x4 => ?_
 replace b2 := b2.ext x4
 replace b3 := b3.ext x4
 have xx := ((x1.tr x2).tr x3).tr x4
 have s1 := x1.size
 have hne : g3 ≠ g2 := by omega
 have h30 : w.heap.size ≤ g3 := by omega
 (refine Gd_F ?_; refine Un_T ?_; refine Pick_F ?_; refine If_F ?_)
 obtain ⟨I, hI⟩ : ∃ I : Value → World → Prop, I = (fun i W => ∃ σ p q m c : Int, (σ = 1 ∨ σ = -1) ∧ i = .int .i64 σ ∧ Ext w W ∧ Blk W g2 tR [str (Lib.itoa p), str (Lib.itoa q)] ∧ Blk W g3 tR [str (Lib.itoa m), str (Lib.itoa c)] ∧
  p.natAbs < MaxI ∧ (0 < q ∧ q.natAbs < MaxI) ∧ m.natAbs < MaxI ∧ (0 < c ∧ c.natAbs < MaxI) ∧ σ * cmpZ p q m c = cmpQ x y) := ⟨_, rfl⟩
 refine Lp1.mk I (fun _ W => denAt g2 W) (by rw [hI]; exact ⟨1, _, _, _, _, .inl rfl, rfl, xx, b2, b3, hx.n, ⟨den_pos x, hx.d⟩, hy.n, ⟨den_pos y, hy.d⟩, by rw [Int.one_mul]; rfl⟩) ?_
 intro i W hh
 have hh' := hh
 rw [hI] at hh'
 obtain ⟨σ, p, q, m, c, hσ, rfl, xW, b2, b3, hp, ⟨hq0, hq⟩, hm, ⟨hc0, hc⟩, hz⟩ := hh'
 have hμ : denAt g2 W = q.toNat := denAt_blk b2 hq
 have hTW := hT.ext xW
 refine fl0 b2 (fl1 b2 ?_)
 refine Cl3 n_integer_Div (k_Div hp hq (by omega) hTW rfl rfl) fun w5 x5 => ?_
 replace b2 := b2.ext x5
 replace b3 := b3.ext x5
 refine fl0 b3 (fl1 b3 ?_)
 refine Cl3 n_integer_Div (k_Div hm hc (by omega) (hTW.ext x5) rfl rfl) fun w6 x6 => ?_
 replace b2 := b2.ext x6
 replace b3 := b3.ext x6
 by_cases hpm : p / q = m / c
 ·refine Cl1 n_integer_Compare (k_Compare (ediv_max hp) (ediv_max hm) (cmpI_eq hpm)) fun w7 x7 => ?_
  replace b2 := b2.ext x7
  replace b3 := b3.ext x7
  replace xW := ((xW.tr x5).tr x6).tr x7
  ((refine Bn_neF ?_ ?_; focus omega); refine If_F ?_)
  by_cases hr : p % q = 0
  ·have er := is0 hr
   by_cases hs : m % c = 0
   ·have es := is0 hs
    ((refine Bn_eqS1 ?_ ?_; focus assumption); refine Gd_T ?_; refine Gd_T ?_; (refine Bn_eqS1 ?_ ?_; focus assumption); refine Pick_T ?_; refine If_T ?_)
    refine Ret.mk ⟨xW, ?_⟩
    rw [← hz, cmpZ_00 hpm hr hs, Int.mul_zero]
   ·have es := not0 hs
    ((refine Bn_eqS1 ?_ ?_; focus assumption); refine Gd_T ?_; refine Gd_T ?_; (refine Bn_eqSF ?_ ?_; focus assumption); refine Pick_T ?_; refine If_F ?_; (refine Bn_eqS1 ?_ ?_; focus assumption); refine If_T ?_)
    refine unNeg (t := 3) (by omega) (by omega) ?_
    refine Ret.mk ⟨xW, ?_⟩
    rw [← hz, cmpZ_0s hq0 hc0 hpm hr hs]; congr 1; omega
  ·have er := not0 hr
   by_cases hs : m % c = 0
   ·have es := is0 hs
    ((refine Bn_eqSF ?_ ?_; focus assumption); refine Gd_FT ?_; refine Gd_FT ?_; refine Pick_F ?_; refine If_F ?_; (refine Bn_eqSF ?_ ?_; focus assumption); refine If_F ?_; (refine Bn_eqS1 ?_ ?_; focus assumption); refine If_T ?_)
    refine Ret.mk ⟨xW, ?_⟩
    rw [← hz, cmpZ_r0 hq0 hc0 hpm hr hs]; congr 1; omega
   ·have es := not0 hs
    ((refine Bn_eqSF ?_ ?_; focus assumption); refine Gd_FT ?_; refine Gd_FT ?_; refine Pick_F ?_; refine If_F ?_; (refine Bn_eqSF ?_ ?_; focus assumption); refine If_F ?_; (refine Bn_eqSF ?_ ?_; focus assumption); refine If_F ?_)
    refine dvf1 (dvl1 b2 (dvBd (dvf1 (dvl1 b3 (dvBd (dvNeg (by omega) (by omega) ?_))))))
    refine stoR (w := w7.drew) b2 fun w8 o8 b28 => ?_
    have b38 := blkOwn (W := w7.drew) b3 hne o8
    refine keD1 b38 ?_
    refine stoR b38 fun w9 o9 b39 => ?_
    have b29 := blkOwn b28 hne.symm o9
    have hr1 := Int.emod_nonneg p (show q ≠ 0 by omega)
    have hr2 := Int.emod_lt_of_pos p hq0
    have hs1 := Int.emod_nonneg m (show c ≠ 0 by omega)
    refine ⟨?_, ?_⟩
    ·rw [hI]
     refine ⟨-σ, q, p % q, c, m % c, by omega, rfl, o9.ext (o8.ext (w := w7.drew) xW.dr hg2) h30, b29, b39, hq, ⟨by omega, emod_max hq0 hq⟩, hc, ⟨by omega, emod_max hc0 hc⟩, ?_⟩
     rw [← hz, cmpZ_rs hpm]; rw [Int.neg_mul, Int.mul_neg]
    ·show denAt g2 w9 < denAt g2 W
     rw [hμ, denAt_blk b29 (emod_max hq0 hq)]
     omega
 ·have hcmp := cmpZ_div hq0 hc0 hpm
  have hrng := cmpI_range (p / q) (m / c)
  have hne0 : cmpI (p / q) (m / c) ≠ 0 := fun h => hpm (cmpI_zero h)
  refine Cl1 n_integer_Compare (k_Compare (ediv_max hp) (ediv_max hm) rfl) fun w7 x7 => ?_
  obtain ⟨κ, hκ⟩ : ∃ κ, κ = cmpI (p / q) (m / c) := ⟨_, rfl⟩
  rw [← hκ] at hrng hne0 hcmp ⊢
  have hb : -1 ≤ σ * κ ∧ σ * κ ≤ 1 := by
   rcases hσ with rfl | rfl <;> rcases hrng with h | h | h <;> rw [h] <;> decide
  ((refine Bn_neT ?_ ?_; focus omega); refine If_T ?_)
  refine Bn_mu (by omega) (by omega) ?_
  refine Ret.mk ⟨((xW.tr x5).tr x6).tr x7, ?_⟩
  rw [← hz, hcmp]
theorem qCmp_b2 (o1 : okR n d) (o2 : ¬ okR m c) : Calls Tryz.prog 28 #[.agg #[str n, str d], .agg #[str m, str c]] w (Ret fun r w' => Ext w w' ∧ r = .int .i64 (ans2 cmpQ 0 n d m c)) := by
 rw [ans2_bad (fun h => o2 h.2)]
 apply e_rational_Compare
 unfold s_rational_Compare
 refine bxR fun g2 w1 x1 hg2 hg2' b2 => ?_
 refine bxR fun g3 w2 x2 hg3 hg3' b3 => ?_
 replace b2 := b2.ext x2
 refine ldR b2 ?_
 have v1 := c_qValid (w := w2) hn hd ((hT.ext x1).ext x2)
 rw [okB_t o1] at v1
 refine Cl1 n_rational_Valid v1 fun w3 x3 => ?_
 replace b3 := b3.ext x3
 (refine Un_T ?_; refine Gd_F ?_)
 refine ldR b3 ?_
 have v2 := c_qValid (w := w3) hm hc (((hT.ext x1).ext x2).ext x3)
 rw [okB_f o2] at v2
 refine Cl1 n_rational_Valid v2 fun w4 x4 => ?_
 (refine Gd_F ?_; refine Un_F ?_; refine Pick_F ?_; refine If_T ?_)
 exact Ret.mk ⟨((x1.tr x2).tr x3).tr x4, rfl⟩
theorem qCmp_b1 (o1 : ¬ okR n d) : Calls Tryz.prog 28 #[.agg #[str n, str d], .agg #[str m, str c]] w (Ret fun r w' => Ext w w' ∧ r = .int .i64 (ans2 cmpQ 0 n d m c)) := by
 rw [ans2_bad (fun h => o1 h.1)]
 apply e_rational_Compare
 unfold s_rational_Compare
 refine bxR fun g2 w1 x1 hg2 hg2' b2 => ?_
 refine bxR fun g3 w2 x2 hg3 hg3' b3 => ?_
 replace b2 := b2.ext x2
 refine ldR b2 ?_
 have v1 := c_qValid (w := w2) hn hd ((hT.ext x1).ext x2)
 rw [okB_f o1] at v1
 refine Cl1 n_rational_Valid v1 fun w3 x3 => ?_
 (refine Un_F ?_; refine Gd_TF ?_; refine Gd_TF ?_; refine Gd_TF ?_; refine Pick_T ?_; refine If_T ?_)
 exact Ret.mk ⟨(x1.tr x2).tr x3, rfl⟩
theorem c_qCmp : Calls Tryz.prog 28 #[.agg #[str n, str d], .agg #[str m, str c]] w (Ret fun r w' => Ext w w' ∧ r = .int .i64 (ans2 cmpQ 0 n d m c)) := by
 by_cases o1 : okR n d
 ·by_cases o2 : okR m c
  ·exact qCmp_ok hn hd hm hc hT o1 o2
  ·exact qCmp_b2 hn hd hm hc hT o1 o2
 ·exact qCmp_b1 hn hd hm hc hT o1
end
end Go.Proofs.YtjgjeccfhmlcnaaGreatDoor
