/-
  Contracts and plain lemmas. By an AI agent.
-/
import Derived.Test.YthjhkpefammjkaaGreatDoorQRatA
set_option linter.unusedSimpArgs false
set_option linter.unusedVariables false
set_option linter.unusedSectionVars false
namespace Go.Proofs.YthjhkpefammjkaaGreatDoor
open Go Go.Eng Go.Proofs Go.Num Go.RowKit
set_option maxRecDepth 100000
theorem keD0 {w : World} {g : Nat} {a b : List UInt8} {rest : Prop} (h : Blk w g tR [str a, str b]) (hk : rest) : Ke Tryz.prog (Instr.loadAt tS (.pointer (some ⟨g, 0, none⟩))) (str a) w rest := by
 ((try simp -dsimp [go_sem, h.cell (i := 0) rfl]); repeat (simp -dsimp (disch := omega) only [gL, gI]; try simp -dsimp [go_sem, h.cell (i := 0) rfl]))
 exact hk
theorem keD1 {w : World} {g : Nat} {a b : List UInt8} {rest : Prop} (h : Blk w g tR [str a, str b]) (hk : rest) : Ke Tryz.prog (Instr.loadAt tS (.pointer (some ⟨g, 1, none⟩))) (str b) w rest := by
 ((try simp -dsimp [go_sem, h.cell (i := 1) rfl]); repeat (simp -dsimp (disch := omega) only [gL, gI]; try simp -dsimp [go_sem, h.cell (i := 1) rfl]))
 exact hk
theorem dvf0 {w : World} {g : Nat} {KP : Value → Prop} (hk : KP (.pointer (some ⟨g, 0, none⟩))) : Dv Tryz.prog true (Instr.fieldAt tR (pt g) 0) w.drew KP := by
 ((try simp -dsimp [go_sem]); repeat (simp -dsimp (disch := omega) only [gL, gI]; try simp -dsimp [go_sem]))
 exact hk
theorem dvf1 {w : World} {g : Nat} {KP : Value → Prop} (hk : KP (.pointer (some ⟨g, 1, none⟩))) : Dv Tryz.prog true (Instr.fieldAt tR (pt g) 1) w.drew KP := by
 ((try simp -dsimp [go_sem]); repeat (simp -dsimp (disch := omega) only [gL, gI]; try simp -dsimp [go_sem]))
 exact hk
theorem dvl0 {w : World} {g : Nat} {a b : List UInt8} {KP : Value → Prop} (h : Blk w g tR [str a, str b]) (hk : KP (str a)) : Dv Tryz.prog false (Instr.loadAt tS (.pointer (some ⟨g, 0, none⟩))) w.drew KP := by
 have h1 : w.drew.cell? ⟨g, 0, none⟩ = some (str a) := h.cell (i := 0) rfl
 ((try simp -dsimp [go_sem, h1]); repeat (simp -dsimp (disch := omega) only [gL, gI]; try simp -dsimp [go_sem, h1]))
 exact hk
theorem dvl1 {w : World} {g : Nat} {a b : List UInt8} {KP : Value → Prop} (h : Blk w g tR [str a, str b]) (hk : KP (str b)) : Dv Tryz.prog false (Instr.loadAt tS (.pointer (some ⟨g, 1, none⟩))) w.drew KP := by
 have h1 : w.drew.cell? ⟨g, 1, none⟩ = some (str b) := h.cell (i := 1) rfl
 ((try simp -dsimp [go_sem, h1]); repeat (simp -dsimp (disch := omega) only [gL, gI]; try simp -dsimp [go_sem, h1]))
 exact hk
section
variable {n d m c : List UInt8} {w : World} (hn : n.length ≤ 1000000) (hd : d.length ≤ 1000000) (hm : m.length ≤ 1000000) (hc : c.length ≤ 1000000) (hT : Tab w)
include hn hd hm hc hT
theorem c_sum {fop : FuncId} {f : Int → Int → Int} {F : Rat → Rat → Rat} {Q : Rat → Rat → R3} (hno : Enters Tryz.prog fop)
 (hop : ∀ {p q : List UInt8} {w : World}, p.length ≤ 1000000 → q.length ≤ 1000000 → Tab w → Calls Tryz.prog fop #[str p, str q] w (Ret fun r w' => Ext w w' ∧ r = .tuple #[str (binA f p q), .int .i64 (binE f p q)]))
 (hQ1 : ∀ x y, sumOk f x y → Q x y = rQ (F x y)) (hQ0 : ∀ x y, ¬ sumOk f x y → Q x y = rBad)
 (hF : ∀ x y : Rat, ((f (x.num * (y.den : Int)) (y.num * (x.den : Int)) : Int) : Rat) / (((x.den : Int) * (y.den : Int) : Int) : Rat) = F x y) :
 Calls Tryz.prog 62 #[.func (.func fop) #[] #[], .agg #[str n, str d], .agg #[str m, str c]] w (Ret fun r w' => Ext w w' ∧ r = rv (ans2 Q rBad n d m c)) := by
 apply e_rational_sum
 unfold s_rational_sum
 refine bxR fun g4 w1 x1 hg4 hg4' b4 => ?_
 refine bxR fun g5 w2 x2 hg5 hg5' b5 => ?_
 refine alR fun g6 w3 x3 hg6 hg6' b6 => ?_
 refine bdW0 ?_
 refine bxW fun g w4 x4 hg hgl h => ?_
 have xx := ((x1.tr x2).tr x3).tr x4
 have sz := x1.size
 have sz2 := x2.size
 have sz3 := x3.size
 have hw0 : w.heap.size ≤ g := by omega
 have n4 : g4 ≠ g := by omega
 have n5 : g5 ≠ g := by omega
 have n6 : g6 ≠ g := by omega
 have hw06 : w.heap.size ≤ g6 := by omega
 replace b4 := ((b4.ext x2).ext x3).ext x4
 replace b5 := (b5.ext x3).ext x4
 replace b6 := b6.ext x4
 refine ldR b4 ?_
 refine ldR b5 ?_
 refine bs2R fun s w5 x5 hs b7 => ?_
 have h5 := h.ext x5
 have hgT : ∀ W, Own g w5 W → Tab W := fun W o => hT.ext (o.ext (xx.tr x5) hw0)
 refine Cl_i n_rational_work_check (c_check h5 b7 (by omega) rfl (by decide) (by
  intro x hx
  simp only [List.mem_cons, List.not_mem_nil, or_false] at hx
  rcases hx with rfl | rfl
  ·exact ⟨hn, hd⟩
  ·exact ⟨hm, hc⟩) (hT.ext (xx.tr x5)) hgT) ?_
 rintro _ w6 ⟨rfl, o6, h6⟩
 obtain ⟨b0, e0⟩ : ∃ b0, b0 = badB n d m c := ⟨_, rfl⟩
 have e0' : (false || [(n, d), (m, c)].any fun x => !okB x.1 x.2) = b0 := by rw [e0]; simp [badB]
 rw [e0'] at h6
 replace b4 := blkOwn (b4.ext x5) n4 o6
 replace b5 := blkOwn (b5.ext x5) n5 o6
 replace b6 := blkOwn (b6.ext x5) n6 o6
 refine dvf0 (dvl0 b4 (dvf1 (dvl1 b5 (dvf0 (dvl0 b5 (dvf1 (dvl1 b4 ?_)))))))
 have o6d : Own g w5 w6.drew := ⟨o6.below.drew, o6.other⟩
 obtain ⟨n1, e1⟩ : ∃ n1, n1 = doA b0 (binA (fun a b => a * b) n c) := ⟨_, rfl⟩
 obtain ⟨b1, f1⟩ : ∃ b1, b1 = doB b0 (binE (fun a b => a * b) n c) := ⟨_, rfl⟩
 have l1 : n1.length ≤ 1000000 := by rw [e1]; exact doA_len (binA_len _ _ _)
 have c1 := c_wmul (w := w6.drew) h6 hn hc (hgT _ o6d)
 rw [← e1, ← f1] at c1
 refine Cl_i n_rational_work_mul c1 ?_
 rintro _ w7 ⟨rfl, o7, h7⟩
 have q4 : Blk w7 g4 tR [str n, str d] := blkOwn (W := w6.drew) b4 n4 o7
 have q5 : Blk w7 g5 tR [str m, str c] := blkOwn (W := w6.drew) b5 n5 o7
 have q6 : Blk w7 g6 tR [str [], str []] := blkOwn (W := w6.drew) b6 n6 o7
 replace o7 : Own g w5 w7 := o6d.trans o7
 refine keD0 q5 (keD1 q4 ?_)
 obtain ⟨n2, e2⟩ : ∃ n2, n2 = doA b1 (binA (fun a b => a * b) m d) := ⟨_, rfl⟩
 obtain ⟨b2, f2⟩ : ∃ b2, b2 = doB b1 (binE (fun a b => a * b) m d) := ⟨_, rfl⟩
 have l2 : n2.length ≤ 1000000 := by rw [e2]; exact doA_len (binA_len _ _ _)
 have c2 := c_wmul (w := w7) h7 hm hd (hgT _ o7)
 rw [← e2, ← f2] at c2
 refine Cl_i n_rational_work_mul c2 ?_
 rintro _ w8 ⟨rfl, o8, h8⟩
 replace q4 := blkOwn q4 n4 o8
 replace q5 := blkOwn q5 n5 o8
 replace q6 := blkOwn q6 n6 o8
 replace o8 := o7.trans o8
 obtain ⟨n3, e3⟩ : ∃ n3, n3 = doA b2 (binA f n1 n2) := ⟨_, rfl⟩
 obtain ⟨b3, f3⟩ : ∃ b3, b3 = doB b2 (binE f n1 n2) := ⟨_, rfl⟩
 have c3 := c_do (w := w8) h8 hno (hop l1 l2 (hgT _ o8))
 rw [← e3, ← f3] at c3
 refine Cl_i n_rational_work_do c3 ?_
 rintro _ w9 ⟨rfl, o9, h9⟩
 replace q4 := blkOwn q4 n4 o9
 replace q5 := blkOwn q5 n5 o9
 replace q6 := blkOwn q6 n6 o9
 replace o9 := o8.trans o9
 refine fl1 q4 (fl1 q5 ?_)
 obtain ⟨nn, e4⟩ : ∃ nn, nn = doA b3 (binA (fun a b => a * b) d c) := ⟨_, rfl⟩
 obtain ⟨bb, f4⟩ : ∃ bb, bb = doB b3 (binE (fun a b => a * b) d c) := ⟨_, rfl⟩
 have c4 := c_wmul (w := w9) h9 hd hc (hgT _ o9)
 rw [← e4, ← f4] at c4
 refine Cl_i n_rational_work_mul c4 ?_
 rintro _ wa ⟨rfl, oa, ha⟩
 replace q6 := blkOwn q6 n6 oa
 replace oa := o9.trans oa
 refine Cl_i n_rational_work_reduced (sum_end hQ1 hQ0 hF e0 e1 f1 e2 f2 e3 f3 e4 f4 ha (fun W o => hgT W (oa.trans o))) ?_
 rintro _ wb ⟨ob, rfl⟩
 refine Ex2 (stoRc (blkOwn q6 n6 ob) fun wc oc => ?_)
 exact Ret.mk ⟨oc.ext ((oa.trans ob).ext (xx.tr x5) hw0) hw06, rfl⟩
theorem c_qAdd : Calls Tryz.prog 31 #[.agg #[str n, str d], .agg #[str m, str c]] w (Ret fun r w' => Ext w w' ∧ r = rv (ans2 addQ rBad n d m c)) := by
 apply e_rational_Add
 unfold s_rational_Add
 refine bxR fun g2 w1 x1 hg2 hg2' b2 => ?_
 refine bxR fun g3 w2 x2 hg3 hg3' b3 => ?_
 refine alR fun g4 w3 x3 hg4 hg4' b4 => ?_
 refine ldR ((b2.ext x2).ext x3) (ldR (b3.ext x3) ?_)
 have xx := (x1.tr x2).tr x3
 have hw0 : w.heap.size ≤ g4 := by have := x1.size; have := x2.size; omega
 refine Cl2 n_rational_sum (c_sum hn hd hm hc (hT.ext xx) n_integer_Add (f := fun a b => a + b) (F := fun x y => x + y) (Q := addQ) g_Add (fun x y h => by unfold addQ; rw [if_pos h]) (fun x y h => by unfold addQ; rw [if_neg h]) q_add) fun w4 x4 => ?_
 refine stoRc (b4.ext x4) fun w5 o5 => ?_
 exact Ret.mk ⟨o5.ext (xx.tr x4) hw0, rfl⟩
end
theorem two_end {w : World} {g : Nat} {n d m c p q r s : List UInt8} {Q : Rat → Rat → R3} {A B : Rat → Rat → Int} (hgT : ∀ W, Own g w W → Tab W)
 (hok : ∀ x y : Rat, RB x → RB y → n = Lib.itoa x.num → d = Lib.itoa (x.den : Int) → m = Lib.itoa y.num → c = Lib.itoa (y.den : Int) →
  binA (fun a b => a * b) p q = resA (A x y) ∧ binE (fun a b => a * b) p q = resE (A x y) ∧ binA (fun a b => a * b) r s = resA (B x y) ∧ binE (fun a b => a * b) r s = resE (B x y))
 (hQ1 : ∀ x y, (A x y).natAbs < MaxI → (B x y).natAbs < MaxI → Q x y = makeQ (A x y) (B x y)) (hQ0 : ∀ x y, ¬ ((A x y).natAbs < MaxI ∧ (B x y).natAbs < MaxI) → Q x y = rBad)
 {b0 b1 b2 : Bool} {n1 n2 : List UInt8} (e0 : b0 = badB n d m c)
 (e1 : n1 = doA b0 (binA (fun a b => a * b) p q)) (f1 : b1 = doB b0 (binE (fun a b => a * b) p q))
 (e2 : n2 = doA b1 (binA (fun a b => a * b) r s)) (f2 : b2 = doB b1 (binE (fun a b => a * b) r s))
 (h : Blk w g tW [.bool b2]) : Calls Tryz.prog 89 #[pt g, str n1, str n2] w (Ret (RedP g w (ans2 Q rBad n d m c))) := by
 by_cases ok : okR n d ∧ okR m c
 ·rw [badB_f ok] at e0
  obtain ⟨⟨x, hn, hd, hx⟩, ⟨y, hm, hc, hy⟩⟩ := ok
  obtain ⟨a1, a2, a3, a4⟩ := hok x y hx hy hn hd hm hc
  have e : ans2 Q rBad n d m c = Q x y := by rw [hn, hd, hm, hc]; exact ans2_ok hx hy
  rw [e]
  subst e0
  rw [a2, doB_resE] at f1
  rw [a1, doa_f] at e1
  by_cases s1 : (A x y).natAbs < MaxI
  ·rw [decide_eq_true s1] at f1
   subst f1
   rw [resA_ok s1] at e1
   rw [Bool.not_true, a4, doB_resE] at f2
   rw [Bool.not_true, a3, doa_f] at e2
   by_cases s2 : (B x y).natAbs < MaxI
   ·rw [decide_eq_true s2] at f2
    rw [resA_ok s2] at e2
    subst f2; subst e1; subst e2
    rw [hQ1 x y s1 s2]
    exact c_reduced h s1 s2 hgT
   ·rw [decide_eq_false s2] at f2
    subst f2
    rw [hQ0 x y (fun h => s2 h.2)]
    exact c_reduced_bad h
  ·rw [decide_eq_false s1] at f1
   subst f1; subst f2
   rw [hQ0 x y (fun h => s1 h.1)]
   exact c_reduced_bad h
 ·rw [ans2_bad ok]
  rw [badB_t ok] at e0
  subst e0; subst f1; subst f2
  exact c_reduced_bad h
section
variable {n d m c : List UInt8} {w : World} (hn : n.length ≤ 1000000) (hd : d.length ≤ 1000000) (hm : m.length ≤ 1000000) (hc : c.length ≤ 1000000) (hT : Tab w)
include hn hd hm hc hT
theorem c_qMul : Calls Tryz.prog 69 #[.agg #[str n, str d], .agg #[str m, str c]] w (Ret fun r w' => Ext w w' ∧ r = rv (ans2 mulQ rBad n d m c)) := by
 apply e_rational_Mul
 unfold s_rational_Mul
 refine bxR fun g4 w1 x1 hg4 hg4' b4 => ?_
 refine bxR fun g5 w2 x2 hg5 hg5' b5 => ?_
 refine alR fun g6 w3 x3 hg6 hg6' b6 => ?_
 refine bdW0 ?_
 refine bxW fun g w4 x4 hg hgl h => ?_
 have xx := ((x1.tr x2).tr x3).tr x4
 have sz := x1.size
 have sz2 := x2.size
 have sz3 := x3.size
 have hw0 : w.heap.size ≤ g := by omega
 have n4 : g4 ≠ g := by omega
 have n5 : g5 ≠ g := by omega
 have n6 : g6 ≠ g := by omega
 have hw06 : w.heap.size ≤ g6 := by omega
 replace b4 := ((b4.ext x2).ext x3).ext x4
 replace b5 := (b5.ext x3).ext x4
 replace b6 := b6.ext x4
 refine ldR b4 ?_
 refine ldR b5 ?_
 refine bs2R fun s w5 x5 hs b7 => ?_
 have h5 := h.ext x5
 have hgT : ∀ W, Own g w5 W → Tab W := fun W o => hT.ext (o.ext (xx.tr x5) hw0)
 refine Cl_i n_rational_work_check (c_check h5 b7 (by omega) rfl (by decide) (by
  intro x hx
  simp only [List.mem_cons, List.not_mem_nil, or_false] at hx
  rcases hx with rfl | rfl
  ·exact ⟨hn, hd⟩
  ·exact ⟨hm, hc⟩) (hT.ext (xx.tr x5)) hgT) ?_
 rintro _ w6 ⟨rfl, o6, h6⟩
 obtain ⟨b0, e0⟩ : ∃ b0, b0 = badB n d m c := ⟨_, rfl⟩
 have e0' : (false || [(n, d), (m, c)].any fun x => !okB x.1 x.2) = b0 := by rw [e0]; simp [badB]
 rw [e0'] at h6
 replace b4 := blkOwn (b4.ext x5) n4 o6
 replace b5 := blkOwn (b5.ext x5) n5 o6
 replace b6 := blkOwn (b6.ext x5) n6 o6
 refine fl0 b4 (fl0 b5 ?_)
 obtain ⟨n1, e1⟩ : ∃ n1, n1 = doA b0 (binA (fun a b => a * b) n m) := ⟨_, rfl⟩
 obtain ⟨b1, f1⟩ : ∃ b1, b1 = doB b0 (binE (fun a b => a * b) n m) := ⟨_, rfl⟩
 have l1 : n1.length ≤ 1000000 := by rw [e1]; exact doA_len (binA_len _ _ _)
 have c1 := c_wmul h6 hn hm (hgT _ o6)
 rw [← e1, ← f1] at c1
 refine Cl_i n_rational_work_mul c1 ?_
 rintro _ w7 ⟨rfl, o7, h7⟩
 replace b4 := blkOwn b4 n4 o7
 replace b5 := blkOwn b5 n5 o7
 replace b6 := blkOwn b6 n6 o7
 replace o7 := o6.trans o7
 refine fl1 b4 (fl1 b5 ?_)
 obtain ⟨n2, e2⟩ : ∃ n2, n2 = doA b1 (binA (fun a b => a * b) d c) := ⟨_, rfl⟩
 obtain ⟨b2, f2⟩ : ∃ b2, b2 = doB b1 (binE (fun a b => a * b) d c) := ⟨_, rfl⟩
 have c2 := c_wmul h7 hd hc (hgT _ o7)
 rw [← e2, ← f2] at c2
 refine Cl_i n_rational_work_mul c2 ?_
 rintro _ wa ⟨rfl, oa, ha⟩
 replace b6 := blkOwn b6 n6 oa
 replace oa := o7.trans oa
 refine Cl_i n_rational_work_reduced (two_end (Q := mulQ) (A := fun x y => x.num * y.num) (B := fun x y => (x.den : Int) * (y.den : Int)) (fun W o => hgT W (oa.trans o)) ?_ ?_ ?_ e0 e1 f1 e2 f2 ha) ?_
 ·rintro x y hx hy rfl rfl rfl rfl
  exact ⟨binA_ok hx.n hy.n, binE_ok hx.n hy.n, binA_ok hx.d hy.d, binE_ok hx.d hy.d⟩
 ·intro x y h1 h2
  unfold mulQ makeQ
  rw [if_pos ⟨h1, h2⟩, if_neg (dd_ne x y), q_mul]
 ·intro x y h1
  unfold mulQ
  rw [if_neg (fun h : muOk x y => h1 h)]
 rintro _ wb ⟨ob, rfl⟩
 refine Ex2 (stoRc (blkOwn b6 n6 ob) fun wc oc => ?_)
 exact Ret.mk ⟨oc.ext ((oa.trans ob).ext (xx.tr x5) hw0) hw06, rfl⟩
end
section
variable {n d m c : List UInt8} {w : World} (hn : n.length ≤ 1000000) (hd : d.length ≤ 1000000) (hm : m.length ≤ 1000000) (hc : c.length ≤ 1000000) (hT : Tab w)
include hn hd hm hc hT
end
end Go.Proofs.YthjhkpefammjkaaGreatDoor
