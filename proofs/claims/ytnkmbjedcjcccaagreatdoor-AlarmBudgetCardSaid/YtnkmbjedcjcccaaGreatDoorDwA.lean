/-
  Contracts and plain lemmas. By an AI agent.
-/
import Derived.Test.YtnkmbjedcjcccaaGreatDoorQRatC
import Derived.Test.YtnkmbjedcjcccaaGreatDoorQRatA
import Derived.Test.YtnkmbjedcjcccaaGreatDoorQMem
import Derived.Test.YtnkmbjedcjcccaaGreatDoorRefW
import Derived.Test.YtnkmbjedcjcccaaGreatDoorStrY
set_option linter.unusedSimpArgs false
set_option linter.unusedVariables false
set_option linter.unusedSectionVars false
namespace Go.Proofs.YtnkmbjedcjcccaaGreatDoor
open Go Go.Eng Go.Proofs Go.Num Go.RowKit
set_option maxRecDepth 100000
theorem rep_isD (n : Nat) : ∀ b ∈ List.replicate n (48 : UInt8), isD b := by
 intro b hb
 rw [List.eq_of_mem_replicate hb]; decide
theorem rep_dv (n : Nat) : dv (List.replicate n 48) = 0 := by
 induction n with
 | zero => rfl
 | succ n ih => rw [List.replicate_succ, dv_cons, ih]; simp
theorem ten_dv (n : Nat) : dv (49 :: List.replicate n 48) = 10 ^ n := by
 rw [dv_cons, rep_dv, List.length_replicate]
 show 1 * 10 ^ n + 0 = _
 omega
theorem digits_itoa {s : List UInt8} (h : ∀ b ∈ s, isD b) (hne : s ≠ []) (hh : s.length = 1 ∨ s.head? ≠ some 48) : Lib.itoa (dv s : Int) = s := by
 refine lit_pos _ ?_ rfl
 unfold canon
 simp only [Bool.and_eq_true, Bool.or_eq_true, List.all_eq_true, decide_eq_true_eq, beq_iff_eq, bne_iff_ne, Bool.not_eq_true', List.isEmpty_eq_false_iff]
 exact ⟨⟨hne, h⟩, hh⟩
theorem ten_str {k : Int} {n : Nat} (h : k = n) : 49 :: List.replicate n (48 : UInt8) = Lib.itoa (ten k) := by
 subst h
 have h1 := digits_itoa (s := 49 :: List.replicate n 48) (by
  intro b hb
  rcases List.mem_cons.1 hb with rfl | hb
  ·decide
  ·exact rep_isD n b hb) (by simp) (.inr (by simp))
 rw [ten_dv] at h1
 rw [← h1]
 congr 1
theorem ten_Sz {k : Int} (h : k ≤ 30) : Sz 31 (ten k) := by
 unfold Sz ten
 rw [Int.natAbs_pow]
 exact Nat.pow_lt_pow_right (by decide) (by omega)
theorem ten_max {k : Int} (h : k ≤ 30) : (ten k).natAbs < MaxI := (ten_Sz h).max (by decide)
theorem ten_ne (k : Int) : ten k ≠ 0 := Int.ne_of_gt (ten_pos k)
theorem makeQ_ten {z k : Int} : makeQ z (ten k) = rQ ((z : Rat) / (ten k : Int)) := by unfold makeQ; rw [if_neg (ten_ne k)]
section
variable {n d : List UInt8} {k : Int} {up : Bool} {w : World} (hn : n.length ≤ 1000000) (hd : d.length ≤ 1000000) (hT : Tab w)
include hn hd hT
theorem round_bad (o : ¬ (okR n d ∧ 0 ≤ k ∧ k ≤ 30)) : Calls Tryz.prog 97 #[.agg #[str n, str d], .int .i64 k, .bool up] w (Ret fun r w' => Ext w w' ∧ r = rv rBad) := by
 apply e_rational_round
 unfold s_rational_round
 refine bxR fun g3 w1 x1 hg3 hg3' b3 => ?_
 refine alR fun g6 w2 x2 hg6 hg6' b6 => ?_
 have xx := x1.tr x2
 replace b3 := b3.ext x2
 have k6 : w.heap.size ≤ g6 := by have := x1.size; omega
 have body : ∀ b : Bool, (b || !okB n d) = true → ∀ g w4, Ext w2 w4 → w2.heap.size ≤ g → g < w4.heap.size → Blk w4 g tW [.bool b] → ∀ s w5, Ext w4 w5 → w4.heap.size ≤ s → Blk w5 s tR (cellsR [(n, d)]) →
  Calls Tryz.prog 69 #[pt g, .slice (some ⟨s, 0, none⟩) 1 1] w5 (Ret (DoP g w5 (.tuple #[]) true)) := by
  intro b hb g w4 x4 hg hgl h s w5 x5 hs b7
  have hw0 : w.heap.size ≤ g := by have := xx.size; omega
  have hgT : ∀ W, Own g w5 W → Tab W := fun W o => hT.ext (o.ext ((xx.tr x4).tr x5) hw0)
  have c := c_check (k := 1) (h.ext x5) b7 (by omega) rfl (by decide) (by
   intro x hx
   simp only [List.mem_cons, List.not_mem_nil, or_false] at hx
   subst hx; exact ⟨hn, hd⟩) (hT.ext ((xx.tr x4).tr x5)) hgT
  have eb : (b || [(n, d)].any fun x => !okB x.1 x.2) = true := by simpa using hb
  rw [eb] at c
  exact c
 have endW : ∀ g w4, Ext w2 w4 → w2.heap.size ≤ g → ∀ w5, Ext w4 w5 → ∀ w6, Own g w5 w6 → Blk w6 g6 tR [str [], str []] ∧ Ext w w6 := by
  intro g w4 x4 hg w5 x5 w6 o6
  have hne6 : g6 ≠ g := by omega
  have hw0 : w.heap.size ≤ g := by have := xx.size; omega
  exact ⟨blkOwn ((b6.ext x4).ext x5) hne6 o6, o6.ext ((xx.tr x4).tr x5) hw0⟩
 by_cases h0 : 0 ≤ k
 ·by_cases h1 : k ≤ 30
  ·have ob : okB n d = false := okB_f (fun h => o ⟨h, h0, h1⟩)
   ((refine Bn_ltF ?_ ?_; focus omega); refine Gd_F ?_; refine Gd_F ?_; (refine Bn_gtF ?_ ?_; focus omega); refine Pick_F ?_)
   refine bdW ?_
   refine bxW fun g w4 x4 hg hgl h => ?_
   refine ldR (b3.ext x4) ?_
   refine bs1R fun s w5 x5 hs b7 => ?_
   refine Cl_i n_rational_work_check (body false (by rw [ob]; rfl) g w4 x4 hg hgl h s w5 x5 hs b7) ?_
   rintro _ w6 ⟨rfl, o6, h6⟩
   obtain ⟨q6, q7⟩ := endW g w4 x4 hg w5 x5 w6 o6
   refine ncP ?_
   refine flW h6 ?_
   refine If_T ?_
   exact endBad q6 q7 k6
  ·((refine Bn_ltF ?_ ?_; focus omega); refine Gd_F ?_; refine Gd_F ?_; (refine Bn_gtT ?_ ?_; focus omega); refine Pick_F ?_)
   refine bdW ?_
   refine bxW fun g w4 x4 hg hgl h => ?_
   refine ldR (b3.ext x4) ?_
   refine bs1R fun s w5 x5 hs b7 => ?_
   refine Cl_i n_rational_work_check (body true rfl g w4 x4 hg hgl h s w5 x5 hs b7) ?_
   rintro _ w6 ⟨rfl, o6, h6⟩
   obtain ⟨q6, q7⟩ := endW g w4 x4 hg w5 x5 w6 o6
   refine ncP ?_
   refine flW h6 ?_
   refine If_T ?_
   exact endBad q6 q7 k6
 ·((refine Bn_ltT ?_ ?_; focus omega); refine Gd_TF ?_; refine Gd_TF ?_; refine Pick_T ?_)
  refine bdW ?_
  refine bxW fun g w4 x4 hg hgl h => ?_
  refine ldR (b3.ext x4) ?_
  refine bs1R fun s w5 x5 hs b7 => ?_
  refine Cl_i n_rational_work_check (body true rfl g w4 x4 hg hgl h s w5 x5 hs b7) ?_
  rintro _ w6 ⟨rfl, o6, h6⟩
  obtain ⟨q6, q7⟩ := endW g w4 x4 hg w5 x5 w6 o6
  refine ncP ?_
  refine flW h6 ?_
  refine If_T ?_
  exact endBad q6 q7 k6
end
section
variable {x : Rat} {k : Int} {w : World} (hx : RB x) (hT : Tab w) (h0 : 0 ≤ k) (h1 : k ≤ 30)
include hx hT h0 h1
theorem round_ok {up : Bool} : Calls Tryz.prog 97 #[fq x, .int .i64 k, .bool up] w (Ret fun r w' => Ext w w' ∧ r = rv (gridQ up k x)) := by
 have hB : Tryz.prog.underlying 4 = some .bool := Tryz.underlying4
 obtain ⟨m, hm⟩ : ∃ m : Nat, k = m := ⟨k.toNat, by omega⟩
 have ob : okB (Lib.itoa x.num) (Lib.itoa (x.den : Int)) = true := okB_t (okR_q.2 hx)
 have hlen : ∀ y ∈ [(Lib.itoa x.num, Lib.itoa (x.den : Int))], y.1.length ≤ 1000000 ∧ y.2.length ≤ 1000000 := by
  intro y hy
  simp only [List.mem_cons, List.not_mem_nil, or_false] at hy
  subst hy; exact ⟨itoa_ok hx.n, itoa_ok hx.d⟩
 have htl := itoa_ok (ten_max h1)
 have hd0 := Int.ne_of_gt (den_pos x)
 apply e_rational_round
 unfold s_rational_round
 refine bxR fun g3 w1 x1 hg3 hg3' b3 => ?_
 refine alR fun g6 w2 x2 hg6 hg6' b6 => ?_
 have xx := x1.tr x2
 replace b3 := b3.ext x2
 have k6 : w.heap.size ≤ g6 := by have := x1.size; omega
 ((refine Bn_ltF ?_ ?_; focus omega); refine Gd_F ?_; refine Gd_F ?_; (refine Bn_gtF ?_ ?_; focus omega); refine Pick_F ?_)
 refine bdW ?_
 refine bxW fun g w4 x4 hg hgl h => ?_
 have n3 : g3 ≠ g := by omega
 have n6 : g6 ≠ g := by omega
 have hw0 : w.heap.size ≤ g := by have := xx.size; omega
 replace b3 := b3.ext x4
 replace b6 := b6.ext x4
 replace xx := xx.tr x4
 refine ldR b3 ?_
 refine bs1R fun s w5 x5 hs b7 => ?_
 replace b3 := b3.ext x5
 replace b6 := b6.ext x5
 replace xx := xx.tr x5
 replace h := h.ext x5
 have hsg : s ≠ g := by omega
 clear x1 x2 x4 x5 hg3 hg3' hg6 hg6' hg hgl hs
 have hgT : ∀ W, Own g w5 W → Tab W := fun W o => hT.ext (o.ext xx hw0)
 have cc := c_check (k := 1) h b7 hsg rfl (by decide) hlen (hT.ext xx) hgT
 rw [show (false || [(Lib.itoa x.num, Lib.itoa (x.den : Int))].any fun y => !okB y.1 y.2) = false by simp [ob]] at cc
 refine Cl_i n_rational_work_check cc ?_
 rintro _ w6 ⟨rfl, o6, h6⟩
 replace b3 := blkOwn b3 n3 o6
 replace b6 := blkOwn b6 n6 o6
 refine ncP ?_
 refine flW h6 ?_
 refine If_F ?_
 subst hm
 refine Cl_i n_strings_Repeat (c_Repeat0 (c := m) (by omega)) ?_
 rintro _ w7 ⟨rfl, x7⟩
 refine Bn_cat (by simp; omega) ?_
 rw [show [49] ++ List.replicate m (48 : UInt8) = Lib.itoa (ten (m : Int)) from ten_str rfl]
 have h7 := h6.ext x7
 have o7 : Own g w5 w7 := o6.trans (.ofExt x7 (Nat.le_of_lt h6.lt))
 replace b3 := b3.ext x7
 replace b6 := b6.ext x7
 refine fl0 b3 ?_
 have cm := c_wmul h7 (itoa_ok hx.n) htl (hgT _ o7)
 rw [binA_ok hx.n (ten_max h1), binE_ok hx.n (ten_max h1), doB_resE, doa_f] at cm
 refine Cl_i n_rational_work_mul cm ?_
 rintro _ w8 ⟨rfl, o8, h8⟩
 replace b3 := blkOwn b3 n3 o8
 replace b6 := blkOwn b6 n6 o8
 replace o8 := o7.trans o8
 refine ncP ?_
 refine flW h8 ?_
 by_cases hb : (x.num * ten (m : Int)).natAbs < MaxI
 ·rw [decide_eq_true hb] at h8 ⊢
  rw [resA_ok hb]
  refine If_F (fl1 b3 ?_)
  have hq := ediv_max (q := (x.den : Int)) hb
  have hr := emod_max (p := x.num * ten (m : Int)) (den_pos x) hx.d
  refine Cl3 n_integer_Div (k_Div hb hx.d hd0 (hgT _ o8) rfl rfl) fun w9 x9 => ?_
  replace b6 := b6.ext x9
  have h9 := h8.ext x9
  have o9 : Own g w5 w9 := o8.trans (.ofExt x9 (Nat.le_of_lt h8.lt))
  have eN : gridN up x (m : Int) = if up = true ∧ (x.num * ten (m : Int)) % (x.den : Int) ≠ 0 then (x.num * ten (m : Int)) / (x.den : Int) + 1 else (x.num * ten (m : Int)) / (x.den : Int) := rfl
  obtain ⟨u, hu⟩ : ∃ u, u = (x.num * ten (m : Int)) / (x.den : Int) := ⟨_, rfl⟩
  obtain ⟨r, hre⟩ : ∃ r, r = (x.num * ten (m : Int)) % (x.den : Int) := ⟨_, rfl⟩
  rw [← hu] at hq
  rw [← hu, ← hre] at eN ⊢
  clear hu hre
  refine Jn1.mk ?_
  intro K hK
  refine Bn_neF rfl ?_
  refine ncP ?_
  refine fsW h9 fun wa oa ha => ?_
  replace b6 := blkOwn b6 n6 oa
  replace oa := o9.trans oa
  have fin : ∀ z : Int, ∀ W, z.natAbs < MaxI → gridN up x (m : Int) = z → Own g w5 W → Blk W g tW [.bool false] → Blk W g6 tR [str [], str []] → K (str (Lib.itoa z)) W := by
   intro z W hz ez o hW q6
   refine hK _ _ ?_
   have e : gridQ up (m : Int) x = makeQ z (ten (m : Int)) := by
    unfold gridQ; rw [if_pos ⟨⟨h0, h1⟩, hb, by rw [ez]; exact hz⟩, ez, makeQ_ten]
   rw [e]
   refine Cl_i n_rational_work_reduced (c_reduced hW hz (ten_max h1) (fun W' o' => hgT W' (o.trans o'))) ?_
   rintro _ wb ⟨ob, rfl⟩
   refine Ex2 ?_
   exact endR (blkOwn q6 n6 ob) ((o.trans ob).ext xx hw0) k6 rfl
  have finBad : ∀ (A : List UInt8) (W : World), gridQ up (m : Int) x = rBad → Own g w5 W → Blk W g tW [.bool true] → Blk W g6 tR [str [], str []] → K (str A) W := by
   intro A W e o hW q6
   refine hK _ _ ?_
   rw [e]
   refine Cl_i n_rational_work_reduced (c_reduced_bad hW) ?_
   rintro _ wb ⟨ob, rfl⟩
   refine Ex2 ?_
   exact endR (blkOwn q6 n6 ob) ((o.trans ob).ext xx hw0) k6 rfl
  cases up with
  | false =>
   (refine Gd_FT ?_; refine Gd_FT ?_; refine Pick_F ?_; refine If_F ?_)
   exact fin u wa hq (by rw [eN, if_neg (by simp)]) oa ha b6
  | true =>
   by_cases hr0 : r = 0
   ·have er : Lib.itoa r = [48] := by rw [hr0, itoa0]
    rw [er]
    (refine Gd_T ?_; refine Gd_T ?_; refine Bn_neST ?_; refine Pick_T ?_; refine If_F ?_)
    exact fin u wa hq (by rw [eN, if_neg (by simp [hr0])]) oa ha b6
   ·have er := not0 hr0
    (refine Gd_T ?_; refine Gd_T ?_; (refine Bn_neSF ?_ ?_; focus assumption); refine Pick_T ?_; refine If_T ?_)
    have cA := g_Add (w := wa) (itoa_ok hq) (show ([49] : List UInt8).length ≤ 1000000 by decide) (hgT _ oa)
    have cd := c_do ha n_integer_Add cA
    rw [← l1, binA_ok hq m1, binE_ok hq m1, doB_resE, doa_f] at cd
    rw [l1] at cd
    refine Cl_i n_rational_work_do cd ?_
    rintro _ wc ⟨rfl, oc, hc⟩
    have q6 := blkOwn b6 n6 oc
    replace oc := oa.trans oc
    have eN' : gridN true x (m : Int) = u + 1 := by rw [eN, if_pos ⟨rfl, hr0⟩]
    by_cases hm1 : (u + 1).natAbs < MaxI
    ·rw [decide_eq_true hm1] at hc
     rw [resA_ok hm1]
     exact fin (u + 1) wc hm1 eN' oc hc q6
    ·rw [decide_eq_false hm1] at hc
     exact finBad _ wc (by unfold gridQ; rw [if_neg (fun h => hm1 (by rw [← eN']; exact h.2.2))]) oc hc q6
 ·have e : gridQ up (m : Int) x = rBad := by unfold gridQ; rw [if_neg (fun h => hb h.2.1)]
  rw [e]
  rw [decide_eq_false hb]
  refine If_T ?_
  exact endBad b6 (o8.ext xx hw0) k6
end
section
variable {n d : List UInt8} {k : Int} {w : World} (hn : n.length ≤ 1000000) (hd : d.length ≤ 1000000) (hT : Tab w)
include hn hd hT
theorem c_round {up : Bool} : Calls Tryz.prog 97 #[.agg #[str n, str d], .int .i64 k, .bool up] w (Ret fun r w' => Ext w w' ∧ r = rv (ans1 (gridQ up k) rBad n d)) := by
 by_cases o : okR n d ∧ 0 ≤ k ∧ k ≤ 30
 ·obtain ⟨⟨x, rfl, rfl, hx⟩, h0, h1⟩ := o
  rw [ans1_ok hx]
  exact round_ok hx hT h0 h1
 ·have e : ans1 (gridQ up k) rBad n d = rBad := by
   by_cases o1 : okR n d
   ·obtain ⟨x, rfl, rfl, hx⟩ := o1
    rw [ans1_ok hx]
    unfold gridQ
    rw [if_neg (fun h => o ⟨⟨x, rfl, rfl, hx⟩, h.1⟩)]
   ·exact ans1_bad o1
  rw [e]
  exact round_bad hn hd hT o
theorem c_qDown : Calls Tryz.prog 60 #[.agg #[str n, str d], .int .i64 k] w (Ret fun r w' => Ext w w' ∧ r = rv (ans1 (gridQ false k) rBad n d)) := by
 apply e_rational_Down
 unfold s_rational_Down
 refine bxR fun g2 w1 x1 hg2 _ b2 => ?_
 refine alR fun g4 w3 x3 hg4 _ b4 => ?_
 refine ldR (b2.ext x3) ?_
 refine Cl2 n_rational_round (c_round hn hd ((hT.ext x1).ext x3)) fun w4 x4 => ?_
 exact endR (b4.ext x4) ((x1.tr x3).tr x4) (by have := x1.size; omega) rfl
end
end Go.Proofs.YtnkmbjedcjcccaaGreatDoor
namespace Go.Proofs.YtnkmbjedcjcccaaGreatDoor
open Go Go.Eng Go.Proofs Go.Num Go.RowKit
set_option maxRecDepth 100000
def ErrV (w : World) : Prop := (∃ tp p, w.var? Tryz.prog "strconv.ErrSyntax" = some #[.iface tp p]) ∧ ∃ tp p, w.var? Tryz.prog "strconv.ErrRange" = some #[.iface tp p]
theorem errS_named : ∃ g, Tryz.prog.globalNamed "strconv.ErrSyntax" = some g := Option.isSome_iff_exists.1 (by kernel_rfl)
theorem errR_named : ∃ g, Tryz.prog.globalNamed "strconv.ErrRange" = some g := Option.isSome_iff_exists.1 (by kernel_rfl)
theorem ErrV.ext {w w' : World} (h : ErrV w) (he : Ext w w') : ErrV w' := by
 obtain ⟨⟨tp, p, h1⟩, tp', p', h2⟩ := h
 obtain ⟨g, hg⟩ := errS_named
 obtain ⟨g', hg'⟩ := errR_named
 exact ⟨⟨tp, p, Joins.var_stays hg h1 he (Nat.le_refl _)⟩, tp', p', Joins.var_stays hg' h2 he (Nat.le_refl _)⟩
theorem c_AtoiAll {s : List UInt8} {w : World} (hs : s.length ≤ 1000000) (he : ErrV w) :
 Calls Tryz.prog 76 #[str s] w (Ret fun r w' => Ext w w' ∧ ((∃ v, Lib.atoiAll s = .ok v ∧ r = .tuple #[.int .i64 v, .nilIface]) ∨ (∃ n b, (∀ v, Lib.atoiAll s ≠ .ok v) ∧ r = .tuple #[.int .i64 n, .iface 186 (.pointer (some ⟨b, 0, none⟩))]))) := by
 obtain ⟨⟨tp, p, h1⟩, tp', p', h2⟩ := he
 have hsz : (ByteArray.mk s.toArray).size = s.length := rfl
 cases hv : Lib.atoiAll s
 ·next v =>
  refine (Tryz.strconv_Atoi_ok ⟨s.toArray⟩ (by omega) v hv w).mono ?_
  rintro _ w' ⟨rfl, rfl | ⟨t, rfl⟩⟩
  ·exact Ret.mk ⟨.refl _, .inl ⟨v, rfl, rfl⟩⟩
  ·exact Ret.mk ⟨Lib.bytesWorld_below _ _ _, .inl ⟨v, rfl, rfl⟩⟩
 ·refine (Any.strconv_Atoi_syntax_var Tryz.laysC172 ⟨s.toArray⟩ (by omega) hv tp p w h1).mono ?_
  rintro _ w' ⟨N, rfl, _, _, hb⟩
  exact Ret.mk ⟨hb, .inr ⟨_, N, by simp, rfl⟩⟩
 ·refine (Tryz.strconv_Atoi_range_var ⟨s.toArray⟩ (by omega) hv tp' p' w h2).mono ?_
  rintro _ w' ⟨N, rfl, _, _, hb⟩
  exact Ret.mk ⟨hb, .inr ⟨_, N, by simp, rfl⟩⟩
section
variable {n d : List UInt8} {k : Int} {w : World} (hn : n.length ≤ 1000000) (hd : d.length ≤ 1000000)
include hn hd
end
section
variable {x : Rat} {k : Int} {w : World} (hx : RB x) (h0 : 0 ≤ k) (h1 : k ≤ 30)
include hx h0 h1
end
section
variable {n d : List UInt8} {k : Int} {w : World} (hn : n.length ≤ 1000000) (hd : d.length ≤ 1000000)
include hn hd
end
end Go.Proofs.YtnkmbjedcjcccaaGreatDoor
