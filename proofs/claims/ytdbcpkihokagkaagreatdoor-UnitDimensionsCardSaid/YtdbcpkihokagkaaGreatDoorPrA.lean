/-
  Contracts and plain lemmas. By an AI agent.
-/
import Derived.Test.YtdbcpkihokagkaaGreatDoorQRatC
import Derived.Test.YtdbcpkihokagkaaGreatDoorQMem
import Derived.Test.YtdbcpkihokagkaaGreatDoorEsA
import Derived.Test.YtdbcpkihokagkaaGreatDoorStrY
set_option linter.unusedSimpArgs false
set_option linter.unusedVariables false
set_option linter.unusedSectionVars false
namespace Go.Proofs.YtdbcpkihokagkaaGreatDoor
open Go Go.Eng Go.Proofs Go.Num Go.RowKit
set_option maxRecDepth 100000
def MaxV (w : World) : Prop := ∃ m : Int, w.cell? ⟨1, 0, none⟩ = some (.int .i64 m)
theorem MaxV.ext {w w' : World} (h : MaxV w) (x : Ext w w') : MaxV w' := by
 obtain ⟨m, hm⟩ := h
 exact ⟨m, x.cell' hm⟩
def cut47 : List UInt8 → List UInt8 × List UInt8 × Bool
 | [] => ([], [], false)
 | b :: l => if b = 47 then ([], l, true) else (b :: (cut47 l).1, (cut47 l).2.1, (cut47 l).2.2)
theorem idx47 (l : List UInt8) : (0 ≤ Lib.index l [47] → cut47 l = (l.take (Lib.index l [47]).toNat, l.drop ((Lib.index l [47]).toNat + 1), true)) ∧ (Lib.index l [47] < 0 → cut47 l = (l, [], false)) := by
 induction l with
 | nil => exact ⟨fun h => by simp [Lib.index] at h, fun _ => rfl⟩
 | cons b l ih =>
  have hge := Lib.index_ge l [47]
  unfold Lib.index cut47
  by_cases hb : b = 47
  ·subst hb
   simp
  ·have hp : ([47] : List UInt8).isPrefixOf (b :: l) = false := by
    simp [List.isPrefixOf]
    exact fun h => hb h.symm
   rw [if_neg (by rw [hp]; simp), if_neg hb]
   by_cases hi : Lib.index l [47] = -1
   ·rw [if_pos (by simp [hi])]
    refine ⟨fun h => absurd h (by omega), fun _ => ?_⟩
    rw [ih.2 (by omega)]
   ·rw [if_neg (by simpa using hi)]
    refine ⟨fun h => ?_, fun h => absurd h (by omega)⟩
    rw [ih.1 (by omega)]
    have e : (Lib.index l [47] + 1).toNat = (Lib.index l [47]).toNat + 1 := by omega
    rw [e]
    simp
theorem cut_47 (l : List UInt8) : Lib.cut l [47] = cut47 l := by
 unfold Lib.cut
 split
 ·next h => rw [(idx47 l).1 h]; rfl
 ·next h => rw [(idx47 l).2 (by omega)]
theorem cut47_none {l : List UInt8} (h : ∀ b ∈ l, b ≠ 47) : cut47 l = (l, [], false) := by
 induction l with
 | nil => rfl
 | cons b l ih =>
  unfold cut47
  rw [if_neg (h b (by simp)), ih (fun x hx => h x (by simp [hx]))]
theorem cut47_at {a r : List UInt8} (h : ∀ b ∈ a, b ≠ 47) : cut47 (a ++ 47 :: r) = (a, r, true) := by
 induction a with
 | nil => rfl
 | cons b l ih =>
  show cut47 (b :: (l ++ 47 :: r)) = _
  unfold cut47
  rw [if_neg (h b (by simp)), ih (fun x hx => h x (by simp [hx]))]
def numS (s : List UInt8) : List UInt8 := (cut47 s).1
def denS (s : List UInt8) : List UInt8 := if (cut47 s).2.2 then (cut47 s).2.1 else [49]
open Classical in
noncomputable def printS (n d : List UInt8) : List UInt8 := if okR n d then (if d = [49] then n else n ++ 47 :: d) else []
noncomputable def parseS (s : List UInt8) : R3 := if printS (numS s) (denS s) = s ∧ s ≠ [] then (numS s, denS s, 0) else rBad
theorem printS_ok {n d : List UInt8} (h : okR n d) : printS n d = if d = [49] then n else n ++ 47 :: d := if_pos h
theorem printS_bad {n d : List UInt8} (h : ¬ okR n d) : printS n d = [] := if_neg h
theorem cut47_len (s : List UInt8) : (cut47 s).1.length ≤ s.length ∧ (cut47 s).2.1.length ≤ s.length := by
 induction s with
 | nil => exact ⟨Nat.le_refl _, Nat.le_refl _⟩
 | cons b l ih =>
  unfold cut47
  split
  ·simp
  ·simp; omega
theorem numS_len (s : List UInt8) : (numS s).length ≤ s.length := (cut47_len s).1
theorem denS_len (s : List UInt8) : (denS s).length ≤ s.length + 1 := by
 unfold denS; split
 ·have := (cut47_len s).2; omega
 ·simp
theorem printS_ne {n d : List UInt8} (h : okR n d) : printS n d ≠ [] := by
 rw [printS_ok h]
 obtain ⟨x, rfl, rfl, _⟩ := h
 have : Lib.itoa x.num ≠ [] := by
  unfold Lib.itoa; split
  ·simp
  ·exact dec_ne _
 split
 ·exact this
 ·simp
theorem itoa_no47 (z : Int) : ∀ b ∈ Lib.itoa z, b ≠ 47 := by
 intro b hb
 unfold Lib.itoa at hb
 split at hb
 ·rcases List.mem_cons.1 hb with rfl | hb
  ·decide
  ·have := dec_isD _ b hb
   unfold isD at this
   rintro rfl
   revert this; decide
 ·have := dec_isD _ b hb
  unfold isD at this
  rintro rfl
  revert this; decide
theorem parse_print {n d : List UInt8} (h : okR n d) : parseS (printS n d) = (n, d, 0) := by
 have hne := printS_ne h
 have hp := printS_ok h
 have key : numS (printS n d) = n ∧ denS (printS n d) = d := by
  obtain ⟨x, rfl, rfl, _⟩ := h
  rw [hp]
  unfold numS denS
  by_cases hd : Lib.itoa (x.den : Int) = [49]
  ·rw [if_pos hd, cut47_none (itoa_no47 _)]
   exact ⟨rfl, by simp [hd]⟩
  ·rw [if_neg hd, cut47_at (itoa_no47 _)]
   exact ⟨rfl, rfl⟩
 unfold parseS
 rw [key.1, key.2, if_pos ⟨rfl, hne⟩]
theorem bs2S {a b : List UInt8} {w : World} {K : Value → World → Prop} (hk : ∀ s w1, Ext w w1 → w.heap.size ≤ s → Blk w1 s 9 [str a, str b] → K (.slice (some ⟨s, 0, none⟩) 2 2) w1) :
 Bs Tryz.prog 45 2 [(0, str a), (1, str b)] w K := by
 rw [Bs_x]
 have hr : (Instr.buildSlice 45 2 [(0, (str a : Value)), (1, str b)].toArray).run Tryz.prog w = .ok (.slice (some ⟨w.heap.size, 0, none⟩) 2 2) (w.alloc (.cells #[str a, str b] 9)) := by
  obtain ⟨i, hi, hz, hs⟩ : ∃ i, Tryz.prog.info? 9 = some i ∧ i.zero = some (.string ⟨#[]⟩) ∧ i.size = 1 := ⟨Tryz.t9, by kernel_rfl, by kernel_rfl, by kernel_rfl⟩
  exact run_buildSlice w _ _ 2 _ _ i _ Tryz.underlying45 hi hz (by rw [hs]; decide) (by rw [hs]; decide) (by rw [hs]; simp only [Instr.fill, Value.cells]; kernel_rfl)
 rw [hr]
 exact hk _ _ ((Ext.refl w).al _) (Nat.le_refl _) (Blk.al w [str a, str b] _)
theorem c_Join {a b : List UInt8} {s : Nat} {w : World} (h : Blk w s 9 [str a, str b]) (ha : a.length ≤ 1000000) (hb : b.length ≤ 1000000) :
 Calls Tryz.prog 102 #[.slice (some ⟨s, 0, none⟩) 2 2, str [47]] w (Ret fun r w' => Ext w w' ∧ r = str (a ++ 47 :: b)) := by
 have e : Lib.join ([(⟨a.toArray⟩ : ByteArray), ⟨b.toArray⟩].map (·.data.toList)) (⟨[47].toArray⟩ : ByteArray).data.toList = a ++ 47 :: b := by
  simp [Lib.join, List.intercalate]
 have := Tryz.strings_Join s 0 2 [⟨a.toArray⟩, ⟨b.toArray⟩] ⟨[47].toArray⟩ w (by
  intro j x hx
  match j, hx with
  | 0, hx => simp at hx; subst hx; exact h.cell (i := 0) rfl
  | 1, hx => simp at hx; subst hx; exact h.cell (i := 1) rfl
  | j + 2, hx => simp at hx) h.lt (by simp) (by simp) (by rw [e]; simp; omega)
 rw [e] at this
 refine this.mono ?_
 rintro _ w' ⟨rfl, hw⟩
 exact Ret.mk ⟨hw, rfl⟩
theorem c_Cut {s : List UInt8} {w : World} (hs : s.length ≤ 1000000) (hM : MaxV w) : Calls Tryz.prog 70 #[str s, str [47]] w (Ret fun r w' => Ext w w' ∧ r = .tuple #[str (cut47 s).1, str (cut47 s).2.1, .bool (cut47 s).2.2]) := by
 obtain ⟨m, hm⟩ := hM
 have := Tryz.strings_Cut ⟨s.toArray⟩ ⟨[47].toArray⟩ m w (by rw [size_str]; omega) hm
 have e : Lib.cut (⟨s.toArray⟩ : ByteArray).data.toList (⟨[47].toArray⟩ : ByteArray).data.toList = cut47 s := by simpa using cut_47 s
 rw [e] at this
 refine this.mono ?_
 rintro _ w' ⟨rfl, k, rfl⟩
 refine Ret.mk ⟨?_, rfl⟩
 induction k with
 | zero => exact .refl _
 | succ k ih => exact ih.dr
section
variable {n d : List UInt8} {w : World} (hn : n.length ≤ 1000000) (hd : d.length ≤ 1000000)
include hn hd
theorem c_Print (hT : Tab w) : Calls Tryz.prog 63 #[.agg #[str n, str d]] w (Ret fun r w' => Ext w w' ∧ r = str (printS n d)) := by
 by_cases o : okR n d
 ·by_cases h1 : d = [49]
  ·have e : printS n d = n := by rw [printS_ok o, if_pos h1]
   rw [e]
   subst h1
   apply e_rational_Print
   unfold s_rational_Print
   refine bxR fun g1 w1 x1 _ _ b1 => ?_
   refine ldR b1 ?_
   have v1 := c_qValid (w := w1) hn hd (hT.ext x1)
   rw [okB_t o] at v1
   refine Cl1 n_rational_Valid v1 fun w2 x2 => ?_
   (refine Un_T ?_; refine If_F ?_)
   refine fl1 (b1.ext x2) ?_
   (refine Bn_eqST ?_; refine If_T ?_)
   refine fl0 (b1.ext x2) ?_
   exact Ret.mk ⟨x1.tr x2, rfl⟩
  ·have e : printS n d = n ++ 47 :: d := by rw [printS_ok o, if_neg h1]
   have h2 : (d == [49]) = false := by simpa using h1
   rw [e]
   apply e_rational_Print
   unfold s_rational_Print
   refine bxR fun g1 w1 x1 _ _ b1 => ?_
   refine ldR b1 ?_
   have v1 := c_qValid (w := w1) hn hd (hT.ext x1)
   rw [okB_t o] at v1
   refine Cl1 n_rational_Valid v1 fun w2 x2 => ?_
   replace b1 := b1.ext x2
   (refine Un_T ?_; refine If_F ?_)
   refine fl1 b1 ?_
   ((refine Bn_eqSF ?_ ?_; focus assumption); refine If_F ?_)
   refine fl0 b1 (fl1 b1 ?_)
   refine bs2S fun s w3 x3 _ b2 => ?_
   refine Cl1 n_strings_Join (c_Join b2 hn hd) fun w4 x4 => ?_
   exact Ret.mk ⟨((x1.tr x2).tr x3).tr x4, rfl⟩
 ·rw [printS_bad o]
  apply e_rational_Print
  unfold s_rational_Print
  refine bxR fun g1 w1 x1 _ _ b1 => ?_
  refine ldR b1 ?_
  have v1 := c_qValid (w := w1) hn hd (hT.ext x1)
  rw [okB_f o] at v1
  refine Cl1 n_rational_Valid v1 fun w2 x2 => ?_
  (refine Un_F ?_; refine If_T ?_)
  exact Ret.mk ⟨x1.tr x2, rfl⟩
end
section
variable {w : World} {g : Nat} {KW : World → Prop}
theorem sS2x0 {ty : TypeId} {a x0 x1 : List UInt8} (h : Blk w g ty [str x0, str x1]) (hk : ∀ w1, Own g w w1 → Blk w1 g ty [str a, str x1] → KW w1) : Sto Tryz.prog 9 (pq g 0) (str a) w KW := by
 have h2 := (h.set 0 (str a))
 ((try simp -dsimp [go_sem, h.cell (i := 0) rfl, h.frz 0]); repeat (simp -dsimp (disch := omega) only [gL, gI]; try simp -dsimp [go_sem, h.cell (i := 0) rfl, h.frz 0]))
 exact hk _ (Own.set g 0 w _) h2
theorem sS2x1 {ty : TypeId} {a x0 x1 : List UInt8} (h : Blk w g ty [str x0, str x1]) (hk : ∀ w1, Own g w w1 → Blk w1 g ty [str x0, str a] → KW w1) : Sto Tryz.prog 9 (pq g 1) (str a) w KW := by
 have h2 := (h.set 1 (str a))
 ((try simp -dsimp [go_sem, h.cell (i := 1) rfl, h.frz 1]); repeat (simp -dsimp (disch := omega) only [gL, gI]; try simp -dsimp [go_sem, h.cell (i := 1) rfl, h.frz 1]))
 exact hk _ (Own.set g 1 w _) h2
end
section
variable {s : List UInt8} {w : World} (hs : s.length ≤ 500000)
include hs
theorem c_Parse (hT : Tab w) (hM : MaxV w) : Calls Tryz.prog 68 #[str s] w (Ret fun r w' => Ext w w' ∧ r = rv (parseS s)) := by
 have cc := fun w (hM : MaxV w) => c_Cut (w := w) (s := s) (by omega) hM
 have ln : (numS s).length ≤ 1000000 := by have := numS_len s; omega
 have ld : (denS s).length ≤ 1000000 := by have := denS_len s; omega
 have hden : denS s = if (cut47 s).2.2 then (cut47 s).2.1 else [49] := rfl
 have hnum : numS s = (cut47 s).1 := rfl
 rw [← hnum] at cc
 obtain ⟨u, hu⟩ : ∃ u, u = (cut47 s).2.1 := ⟨_, rfl⟩
 obtain ⟨f, hf⟩ : ∃ f, f = (cut47 s).2.2 := ⟨_, rfl⟩
 rw [← hu, ← hf] at cc hden
 obtain ⟨N, hN⟩ : ∃ N, N = numS s := ⟨_, rfl⟩
 obtain ⟨D, hD⟩ : ∃ D, D = denS s := ⟨_, rfl⟩
 have hp : parseS s = if printS N D = s ∧ s ≠ [] then (N, D, 0) else rBad := by rw [hN, hD]; rfl
 rw [← hN] at cc ln
 rw [← hD] at hden ld
 clear hnum hN hD hu hf
 apply e_rational_Parse
 unfold s_rational_Parse
 refine alR fun g2 w1 x1 hg2 hg2' b2 => ?_
 refine bdR1 ?_
 refine alR fun g4 w2 x2 hg4 hg4' b4 => ?_
 have hne : g2 ≠ g4 := by omega
 have k4 : w.heap.size ≤ g4 := by have := x1.size; omega
 replace b2 := b2.ext x2
 have xx := x1.tr x2
 refine stoR b4 fun w3 o3 b4 => ?_
 replace b2 := blkOwn b2 hne o3
 replace xx := o3.ext xx k4
 refine Cl3 n_strings_Cut (cc w3 (hM.ext xx)) fun w5 x5 => ?_
 replace b2 := b2.ext x5
 replace b4 := b4.ext x5
 replace xx := xx.tr x5
 clear x1 x2 o3 x5 hg4 hg4' hg2'
 refine Jn0.mk ?_
 intro K hK
 have fin : ∀ W, Ext w W → Blk W g2 tR [str [], str []] → Blk W g4 tR [str N, str D] → K W := by
  intro W xx b2 b4
  refine hK W ?_
  refine ldR b4 ?_
  refine Cl1 n_rational_Print (c_Print ln ld (hT.ext xx)) fun w6 x6 => ?_
  replace b2 := b2.ext x6
  replace b4 := b4.ext x6
  replace xx := xx.tr x6
  by_cases h1 : printS N D = s
  ·have e1 : (printS N D == s) = true := by simpa using h1
   by_cases h2 : s = []
   ·have e : parseS s = rBad := by rw [hp, if_neg (fun h => h.2 h2)]
    rw [e]
    subst h2
    rw [h1]
    (refine Bn_neST ?_; refine Gd_F ?_; refine Gd_F ?_; refine Bn_eqST ?_; refine Pick_F ?_; refine If_T ?_)
    exact endBad b2 xx hg2
   ·have e2 : (s == []) = false := by simpa using h2
    have e : parseS s = (N, D, 0) := by rw [hp, if_pos ⟨h1, h2⟩]
    rw [e, h1]
    (refine Bn_neST ?_; refine Gd_F ?_; refine Gd_F ?_; (refine Bn_eqSF ?_ ?_; focus assumption); refine Pick_F ?_; refine If_F ?_)
    refine ldR b4 ?_
    exact endR b2 xx hg2 rfl
  ·have e1 : (printS N D == s) = false := by simpa using h1
   have e : parseS s = rBad := by rw [hp, if_neg (fun h => h1 h.1)]
   rw [e]
   ((refine Bn_neSF ?_ ?_; focus assumption); refine Gd_TF ?_; refine Gd_TF ?_; refine Pick_T ?_; refine If_T ?_)
   exact endBad b2 xx hg2
 refine mF0 ?_
 refine sS2x0 b4 fun w6 o6 b4 => ?_
 replace b2 := blkOwn b2 hne o6
 replace xx := o6.ext xx k4
 cases f with
 | true =>
  refine If_T (mF1 ?_)
  refine sS2x1 b4 fun w7 o7 b4 => ?_
  rw [if_pos rfl] at hden
  rw [← hden] at b4
  exact fin w7 (o7.ext xx k4) (blkOwn b2 hne o7) b4
 | false =>
  refine If_F ?_
  rw [if_neg (by decide)] at hden
  rw [← hden] at b4
  exact fin w6 xx b2 b4
end
end Go.Proofs.YtdbcpkihokagkaaGreatDoor
namespace Go.Proofs.YtdbcpkihokagkaaGreatDoor
open Go Go.Eng Go.Proofs Go.Num Go.RowKit
set_option maxRecDepth 100000
def ErrV (w : World) : Prop := (∃ tp p, w.var? Tryz.prog "strconv.ErrSyntax" = some #[.iface tp p]) ∧ ∃ tp p, w.var? Tryz.prog "strconv.ErrRange" = some #[.iface tp p]
theorem errS_named : ∃ g, Tryz.prog.globalNamed "strconv.ErrSyntax" = some g := Option.isSome_iff_exists.1 (by kernel_rfl)
theorem errR_named : ∃ g, Tryz.prog.globalNamed "strconv.ErrRange" = some g := Option.isSome_iff_exists.1 (by kernel_rfl)
theorem ErrV.ext {w w' : World} (h : ErrV w) (he : Ext w w') : ErrV w' := by
 obtain ⟨⟨tp, p, h1⟩, tp', p', h2⟩ := h
 obtain ⟨g, hg⟩ := errS_named
 obtain ⟨g', hg'⟩ := errR_named
 exact ⟨⟨tp, p, Joins.var_stays hg h1 he (Nat.le_refl _)⟩, tp', p', Joins.var_stays hg' h2 he (Nat.le_refl _)⟩
theorem c_AtoiAll {s : List UInt8} {w : World} (hs : s.length ≤ 1000000) (he : ErrV w) :
 Calls Tryz.prog 71 #[str s] w (Ret fun r w' => Ext w w' ∧ ((∃ v, Lib.atoiAll s = .ok v ∧ r = .tuple #[.int .i64 v, .nilIface]) ∨ (∃ n b, (∀ v, Lib.atoiAll s ≠ .ok v) ∧ r = .tuple #[.int .i64 n, .iface 151 (.pointer (some ⟨b, 0, none⟩))]))) := by
 obtain ⟨⟨tp, p, h1⟩, tp', p', h2⟩ := he
 have hsz : (ByteArray.mk s.toArray).size = s.length := rfl
 cases hv : Lib.atoiAll s
 ·next v =>
  refine (Tryz.strconv_Atoi_ok ⟨s.toArray⟩ (by omega) v hv w).mono ?_
  rintro _ w' ⟨rfl, rfl | ⟨t, rfl⟩⟩
  ·exact Ret.mk ⟨.refl _, .inl ⟨v, rfl, rfl⟩⟩
  ·exact Ret.mk ⟨Lib.bytesWorld_below _ _ _, .inl ⟨v, rfl, rfl⟩⟩
 ·refine (Any.strconv_Atoi_syntax_var Tryz.laysC172 ⟨s.toArray⟩ (by omega) hv tp p w h1).mono ?_
  rintro _ w' ⟨N, rfl, _, _, hb⟩
  exact Ret.mk ⟨hb, .inr ⟨_, N, by simp, rfl⟩⟩
 ·refine (Tryz.strconv_Atoi_range_var ⟨s.toArray⟩ (by omega) hv tp' p' w h2).mono ?_
  rintro _ w' ⟨N, rfl, _, _, hb⟩
  exact Ret.mk ⟨hb, .inr ⟨_, N, by simp, rfl⟩⟩
end Go.Proofs.YtdbcpkihokagkaaGreatDoor
