/-
  Contracts and plain lemmas. By an AI agent.
-/
import Derived.Test.YthjhkpefammjkaaGreatDoorShPa
import Derived.Test.YthjhkpefammjkaaGreatDoorPlain
set_option linter.unusedSimpArgs false
set_option linter.unusedVariables false
set_option linter.unusedSectionVars false
namespace Go.Proofs.YthjhkpefammjkaaGreatDoor
open Go Go.Eng Go.Proofs Go.Num Go.RowKit Go.Shr
set_option maxRecDepth 100000
def cMM (ks : List Nat) (c s : Nat) : Nat := ((List.range s).filter fun ix => !((cnt ks ix).getD c 0 == ks.getD c 0)).length
theorem cMM_1 {ks : List Nat} {c s : Nat} (h : (cnt ks s).getD c 0 = ks.getD c 0) : cMM ks c (s + 1) = cMM ks c s := by
 unfold cMM; rw [List.range_succ, List.filter_append, List.filter_cons_of_neg (by rw [h]; simp)]; simp
theorem cMM_0 {ks : List Nat} {c s : Nat} (h : ¬ (cnt ks s).getD c 0 = ks.getD c 0) : cMM ks c (s + 1) = cMM ks c s + 1 := by
 unfold cMM; rw [List.range_succ, List.filter_append, List.filter_cons_of_pos (by rw [beq_eq_false_iff_ne.2 h]; rfl), List.length_append]; simp
theorem many_sum (l : List Nat) : (many l).2 = l.sum := by
 induction l with
 | nil => rfl
 | cons k l ih => rw [many_cons, List.sum_cons, ih]
theorem tM_len (ks : List Nat) (l : List Int) (c s : Nat) : ((List.range s).filterMap fun ix => if (cnt ks ix).getD c 0 = ks.getD c 0 then none else some (g l (ix + (many (ks.take c)).1) - g l ix, ((wgM ks c ix : Nat) : Int))).length = cMM ks c s := by
 induction s with
 | zero => rfl
 | succ s ih =>
  rw [List.range_succ, List.filterMap_append, List.length_append, ih]
  by_cases h : (cnt ks s).getD c 0 = ks.getD c 0
  ·rw [cMM_1 h, List.filterMap_cons]; simp only [if_pos h]; rfl
  ·rw [cMM_0 h, List.filterMap_cons]; simp only [if_neg h]; rfl
theorem tmM_len (ks : List Nat) (l : List Int) (c : Nat) : (tmM ks l c).length = cMM ks c (many ks).1 := tM_len ks l c _
theorem tmM_get {ks : List Nat} {l : List Int} {c s : Nat} (hs : s < (many ks).1) (h : ¬ (cnt ks s).getD c 0 = ks.getD c 0) :
 (tmM ks l c)[cMM ks c s]? = some (g l (s + (many (ks.take c)).1) - g l s, ((wgM ks c s : Nat) : Int)) := by
 obtain ⟨d, hd⟩ : ∃ d, (many ks).1 = (s + 1) + d := ⟨(many ks).1 - s - 1, by omega⟩
 have hr : List.range (many ks).1 = List.range s ++ ([s] ++ (List.range d).map fun x => s + 1 + x) := by
  rw [hd, List.range_add, List.range_succ, List.append_assoc]
 rw [tmM, hr, List.filterMap_append, List.getElem?_append_right (by rw [tM_len]; exact Nat.le_refl _), tM_len, Nat.sub_self, List.filterMap_append, List.filterMap_cons]
 simp only [if_neg h]
 rfl
structure MgOk (ks : List Nat) (l : List Int) : Prop where
 le6 : ks.length ≤ 6
 sz : ∀ k ∈ ks, 1 ≤ k ∧ k ≤ 10
 n10 : (many ks).2 ≤ 10
 c400 : (many ks).1 ≤ 400
 len : l.length = (many ks).1
 ok : ∀ x ∈ l, wOk x
theorem getD_get {ks : List Nat} {c : Nat} (h : c < ks.length) : ks[c]? = some (ks.getD c 0) := by
 rw [List.getD_eq_getElem?_getD, List.getElem?_eq_getElem h]; rfl
theorem take_sum {m : List Nat} {d x : Nat} (h : m[d]? = some x) : (m.take (d + 1)).sum = (m.take d).sum + x := by
 rw [take_snoc h, List.sum_append]; simp
theorem take_sum_le (m : List Nat) (d : Nat) : (m.take d).sum ≤ m.sum := by
 conv => rhs; rw [← List.take_append_drop d m]
 rw [List.sum_append]; omega
set_option maxHeartbeats 8000000 in
theorem it_merged {w : World} {gv gs gc gp gn : Nat} {v sv : Value} {ks : List Nat} {l : List Int} {c : Nat} {J : Nat → World → Prop} (hM : MgOk ks l) (hc : c < ks.length)
 (hJ : ∀ k W, J k W → W.cell? ⟨gv, 0, none⟩ = some v ∧ SlC W 1 v l.length (l.flatMap fI) ∧ W.cell? ⟨gs, 0, none⟩ = some sv ∧ SlN W sv ks ∧ W.cell? ⟨gc, 0, none⟩ = some (.int .i64 c) ∧ W.cell? ⟨gp, 0, none⟩ = some (.int .i64 ((many (ks.take c)).1 : Nat)) ∧ W.cell? ⟨gn, 0, none⟩ = some (.int .i64 ((many ks).2 : Nat)) ∧ FacV W) :
 Iter Tryz.prog 84 #[pr gv 0, pr gs 0, pr gc 0, pr gp 0, pr gn 0] (((tmM ks l c).map fun p => (Value.int .i64 p.1, Value.int .i64 p.2)).map fun p => [p.1, p.2]) w J := by
 intro lx JJ XX W1 hW1 hJJ hst hXst hround h0
 have f0 := hJ 0 W1 (hJJ _ _ h0)
 have hv := f0.2.1
 have hl400 : l.length ≤ 400 := by rw [hM.len]; exact hM.c400
 have h6 := hM.le6
 have hsz : ∀ k ∈ ks, k ≤ 10 := fun k hk => (hM.sz k hk).2
 apply e_share_merged_1
 unfold s_share_merged_1
 have h := Hp.init [] W1
 refine ldBx f0.1 ?_
 refine leS (hv.hp h) ?_
 refine Lp1.mk (fun a W => ∃ s : Nat, s ≤ l.length ∧ a = .int .i64 s ∧ JJ (cMM ks c s) W) (fun a _ => match a with | .int _ x => l.length - x.toNat | _ => 0) ⟨0, by omega, rfl, h0⟩ ?_
 clear h hv f0
 rintro _ W ⟨s, hs, rfl, hj⟩
 have f := hJ _ W (hJJ _ _ hj)
 have hv := f.2.1
 have hsv : SlC W 1 sv ks.length (ks.flatMap fN) := f.2.2.2.1
 have hF := f.2.2.2.2.2.2.2
 have h := Hp.init [] W
 by_cases hsl : s < l.length
 ·have hsm : s < (many ks).1 := by have := hM.len; omega
  have s1 : Seg (l.flatMap fI) (s * 1) (fI (g l s)) := flat_seg (f := fI) (fun _ => rfl) (g_get hsl)
  have hcl := cnt_len ks s
  have sc : Seg ((cnt ks s).flatMap fN) (c * 1) (fN ((cnt ks s).getD c 0)) := flat_seg (f := fN) (fun _ => rfl) (getD_get (by omega))
  have sk : Seg (ks.flatMap fN) (c * 1) (fN (ks.getD c 0)) := flat_seg (f := fN) (fun _ => rfl) (getD_get hc)
  have b1 := g_ok hM.ok hsl
  refine Bn_ltT (by omega) (If_T (iaH h ‹_› (by omega) fun zb zo zk zv zc => ?_))
  refine lh0 h ‹_› ‹_› (by rfl) ?_
  refine ldBx (h.ext.cell' f.2.2.1) ?_
  refine clR h n_share_counts (T := fun v => v) (c_counts (hsv.ext h.ext) (by omega) hsz (ix := s) (by omega)) fun u w h => ?_
  have h := h.dr
  have x := h.ext
  refine dlBx (g := gc) (x.cell' f.2.2.2.2.1) ?_
  refine diR h 0 rfl (by omega) fun zg zk zv => ?_
  refine dr0 h 0 rfl ‹_› ‹_› (by rfl) ?_
  refine dlBx (g := gs) (x.cell' f.2.2.1) ?_
  refine dlBx (g := gc) (x.cell' f.2.2.2.2.1) ?_
  refine diH h hsv (j := c) (by omega) fun zb2 zo2 zk2 zv2 zc2 => ?_
  refine dh0 h zc2 sk rfl ?_
  by_cases he : (cnt ks s).getD c 0 = ks.getD c 0
  ·refine Dv_eqT (by omega) (If_T (Bn_ad (by omega) (by omega) ?_))
   exact ⟨⟨s + 1, by omega, rfl, by rw [cMM_1 he]; exact hst _ _ _ hj h.ext⟩, by show l.length - ((s : Int) + 1).toNat < l.length - (s : Int).toNat; omega⟩
  refine Dv_eqF (by omega) ?_
  have hlt : (cnt ks s).getD c 0 < ks.getD c 0 := by have := cnt_le ks s c; omega
  have hok := wOk_cnt c ks s 0 hsz fun _ => hlt
  have hsum := cnt_sum_lt ks s c hlt
  have hn10 := hM.n10
  refine If_F (ldBx (x.cell' f.2.2.1) ?_)
  refine leS (hsv.ext x) ?_
  refine Lp3.mk (fun a b d W' => ∃ i : Nat, i ≤ ks.length ∧ d = .int .i64 i ∧ a = .int .i64 (wayM c 0 (ks.take i) ((cnt ks s).take i) : Nat) ∧ b = .int .i64 (((cnt ks s).take i).sum : Nat) ∧ Hp [] W W' [ro tI 1 u ks.length ((cnt ks s).flatMap fN)]) (fun _ _ d _ => match d with | .int _ x => ks.length - x.toNat | _ => 0) ⟨0, by omega, rfl, rfl, rfl, h⟩ ?_
  clear h x
  rintro _ _ _ W' ⟨i, hi, rfl, rfl, rfl, h⟩
  by_cases hik : i < ks.length
  ·have ei := getD_get (ks := cnt ks s) (c := i) (by omega)
   have eki := getD_get hik
   have si : Seg ((cnt ks s).flatMap fN) (i * 1) (fN ((cnt ks s).getD i 0)) := flat_seg (f := fN) (fun _ => rfl) ei
   have ski : Seg (ks.flatMap fN) (i * 1) (fN (ks.getD i 0)) := flat_seg (f := fN) (fun _ => rfl) eki
   have hki : (cnt ks s).getD i 0 ≤ ks.getD i 0 := cnt_le ks s i
   have hk10 : 1 ≤ ks.getD i 0 ∧ ks.getD i 0 ≤ 10 := hM.sz _ (List.mem_of_getElem? eki)
   have hsi := take_sum ei
   have hsl := take_sum_le (cnt ks s) (i + 1)
   have hw1 := (wayM_bd c _ _ 0 (wOk_take c _ _ 0 (i + 1) hok)).2
   have hw2 := (wayM_bd c _ _ 0 (wOk_take c _ _ 0 i hok)).2
   have hwe := wayM_snoc c (ks.take i) ((cnt ks s).take i) (ks.getD i 0) ((cnt ks s).getD i 0) 0 (by rw [List.length_take, List.length_take, hcl])
   rw [← take_snoc ei, ← take_snoc eki, List.length_take, show min i ks.length = i by omega, Nat.zero_add] at hwe
   have hm2 : (many (ks.take (i + 1))).2 ≤ 10 := by rw [many_sum]; have := take_sum_le ks (i + 1); have e := many_sum ks; omega
   have hm3 : (many (ks.take i)).2 ≤ 10 := by rw [many_sum]; have := take_sum_le ks i; have e := many_sum ks; omega
   have hp1 : 2 ^ (many (ks.take (i + 1))).2 ≤ 2 ^ 10 := Nat.pow_le_pow_right (by decide) hm2
   have hp2 : 2 ^ (many (ks.take i)).2 ≤ 2 ^ 10 := Nat.pow_le_pow_right (by decide) hm3
   have hq1 : wayM c 0 (ks.take (i + 1)) ((cnt ks s).take (i + 1)) ≤ 1024 := Nat.le_trans hw1 hp1
   have hq2 : wayM c 0 (ks.take i) ((cnt ks s).take i) ≤ 1024 := Nat.le_trans hw2 hp2
   clear hp1 hp2 hw1 hw2 hm2 hm3
   refine Bn_ltT (by omega) (If_T (iaR h 0 rfl (by omega) fun zg zk zv => ?_))
   refine lr0 h 0 rfl ‹_› ‹_› (by rfl) ?_
   refine Bn_ad (by omega) (by omega) (ldBx (h.ext.cell' f.2.2.2.2.1) ?_)
   by_cases e : i = c
   ·rw [if_pos e] at hwe
    have hlt2 : (cnt ks s).getD i 0 < ks.getD i 0 := by rw [e]; exact hlt
    have cb := cho_bd (n := ks.getD i 0 - 1) (k := (cnt ks s).getD i 0) (by omega) (by omega)
    refine Bn_eqT (by omega) (If_T ?_)
    have h := h.dr
    refine dlBx (g := gs) (h.ext.cell' f.2.2.1) ?_
    refine diH h hsv (j := i) (by omega) fun zb2 zo2 zk2 zv2 zc2 => ?_
    refine dh0 h zc2 ski rfl ?_
    refine dvBx (v := .int .i64 ((ks.getD i 0 - 1 : Nat) : Int)) (fun w K hk => Bn_su (by omega) (by omega) (by rw [show ((ks.getD i 0 : Nat) : Int) - 1 = ((ks.getD i 0 - 1 : Nat) : Int) by omega]; exact hk)) ?_
    refine diR h 0 rfl (j := i) (by omega) fun zg zk zv => ?_
    refine dr0 h 0 rfl zv si rfl ?_
    refine cl1 h n_share_choose (c_choose (by omega) (by omega) (hF.ext h.ext)) fun w h => ?_
    refine dvBx (v := .int .i64 ((wayM c 0 (ks.take (i + 1)) ((cnt ks s).take (i + 1)) : Nat) : Int)) (fun w K hk => Bn_mu (by rw [← Int.natCast_mul, ← hwe]; omega) (by rw [← Int.natCast_mul, ← hwe]; omega) (by rw [← Int.natCast_mul, ← hwe]; exact hk)) ?_
    refine Bn_ad (by omega) (by omega) ?_
    exact ⟨⟨i + 1, by omega, rfl, rfl, by rw [hsi]; rfl, h⟩, by show ks.length - ((i : Int) + 1).toNat < ks.length - (i : Int).toNat; omega⟩
   ·rw [if_neg e] at hwe
    have cb := cho_bd (n := ks.getD i 0) (k := (cnt ks s).getD i 0) (by omega) (by omega)
    refine Bn_eqF (by omega) (If_F ?_)
    have h := h.dr
    refine dlBx (g := gs) (h.ext.cell' f.2.2.1) ?_
    refine diH h hsv (j := i) (by omega) fun zb2 zo2 zk2 zv2 zc2 => ?_
    refine dh0 h zc2 ski rfl ?_
    refine diR h 0 rfl (j := i) (by omega) fun zg zk zv => ?_
    refine dr0 h 0 rfl zv si rfl ?_
    refine cl1 h n_share_choose (c_choose (by omega) (by omega) (hF.ext h.ext)) fun w h => ?_
    refine dvBx (v := .int .i64 ((wayM c 0 (ks.take (i + 1)) ((cnt ks s).take (i + 1)) : Nat) : Int)) (fun w K hk => Bn_mu (by rw [← Int.natCast_mul, ← hwe]; omega) (by rw [← Int.natCast_mul, ← hwe]; omega) (by rw [← Int.natCast_mul, ← hwe]; exact hk)) ?_
    refine Bn_ad (by omega) (by omega) ?_
    exact ⟨⟨i + 1, by omega, rfl, rfl, by rw [hsi]; rfl, h⟩, by show ks.length - ((i : Int) + 1).toNat < ks.length - (i : Int).toNat; omega⟩
  ·have e : i = ks.length := by omega
   subst e
   rw [List.take_length, show (cnt ks s).take ks.length = cnt ks s from List.take_of_length_le (by omega)]
   have hty := tmM_get (l := l) hsm he
   have hst2 := step_lt ks s c hsm hlt
   have hst3 := many_pos (ks.take c)
   have b2 := g_ok hM.ok (show s + (many (ks.take c)).1 < l.length by have := hM.len; omega)
   have s2 : Seg (l.flatMap fI) ((s + (many (ks.take c)).1) * 1) (fI (g l (s + (many (ks.take c)).1))) := flat_seg (f := fI) (fun _ => rfl) (g_get (by have := hM.len; omega))
   have p1 := (wayM_bd c _ _ 0 hok).2
   have p1' : 2 ^ (many ks).2 ≤ 2 ^ 10 := Nat.pow_le_pow_right (by decide) hn10
   have p2 := fac_le (show (cnt ks s).sum ≤ 10 by omega)
   have p3 := fac_le (show (many ks).2 - (cnt ks s).sum - 1 ≤ 10 by omega)
   have q1 : wayM c 0 ks (cnt ks s) * fac (cnt ks s).sum ≤ 1024 * 3628800 := Nat.mul_le_mul (Nat.le_trans p1 p1') p2.2
   have q2 : wgM ks c s ≤ 1024 * 3628800 * 3628800 := Nat.mul_le_mul q1 p3.2
   have e1 : ((wayM c 0 ks (cnt ks s) : Nat) : Int) * ((fac (cnt ks s).sum : Nat) : Int) = ((wayM c 0 ks (cnt ks s) * fac (cnt ks s).sum : Nat) : Int) := (Int.natCast_mul _ _).symm
   have e2 : ((wayM c 0 ks (cnt ks s) * fac (cnt ks s).sum : Nat) : Int) * ((fac ((many ks).2 - (cnt ks s).sum - 1) : Nat) : Int) = ((wgM ks c s : Nat) : Int) := (Int.natCast_mul _ _).symm
   clear p1 p1'
   refine Bn_ltF (by omega) (If_F ?_)
   have h := h.dr
   have x := h.ext
   have hr := hround (cMM ks c s) [.int .i64 (g l (s + (many (ks.take c)).1) - g l s), .int .i64 ((wgM ks c s : Nat) : Int)] _ (by rw [List.getElem?_map, List.getElem?_map, hty]; rfl) (hst _ _ _ hj x)
   refine dlBx (g := gv) (x.cell' f.1) ?_
   refine dlBx (g := gp) (x.cell' f.2.2.2.2.2.1) ?_
   refine dvBx (v := .int .i64 ((s + (many (ks.take c)).1 : Nat) : Int)) (fun w K hk => Bn_ad (by have := hM.c400; omega) (by have := hM.c400; omega) (by rw [← Int.natCast_add]; exact hk)) ?_
   refine diH h hv (j := s + (many (ks.take c)).1) (by have := hM.len; omega) fun zb zo zk zv zc => ?_
   refine dh0 h zc s2 rfl ?_
   refine dvBx (fun w K hk => Bn_su (by have := b1.1; have := b1.2; have := b2.1; have := b2.2; omega) (by have := b1.1; have := b1.2; have := b2.1; have := b2.2; omega) hk) ?_
   refine diA (j := (cnt ks s).sum) (by omega) ?_
   refine fLd hF h (by omega) ?_
   refine dvBx (v := .int .i64 ((wayM c 0 ks (cnt ks s) * fac (cnt ks s).sum : Nat) : Int)) (fun w K hk => Bn_mu (by rw [e1]; omega) (by rw [e1]; omega) (by rw [e1]; exact hk)) ?_
   refine dlBx (g := gn) (x.cell' f.2.2.2.2.2.2.1) ?_
   refine dvBx (v := .int .i64 (((many ks).2 - (cnt ks s).sum : Nat) : Int)) (fun w K hk => Bn_su (by omega) (by omega) (by rw [show ((many ks).2 : Int) - ((cnt ks s).sum : Nat) = (((many ks).2 - (cnt ks s).sum : Nat) : Int) by omega]; exact hk)) ?_
   refine dvBx (v := .int .i64 (((many ks).2 - (cnt ks s).sum - 1 : Nat) : Int)) (fun w K hk => Bn_su (by omega) (by omega) (by rw [show (((many ks).2 - (cnt ks s).sum : Nat) : Int) - 1 = (((many ks).2 - (cnt ks s).sum - 1 : Nat) : Int) by omega]; exact hk)) ?_
   refine diA (j := (many ks).2 - (cnt ks s).sum - 1) (by omega) ?_
   refine fLd hF h (by omega) ?_
   refine dvBx (v := .int .i64 ((wgM ks c s : Nat) : Int)) (fun w K hk => Bn_mu (by rw [e2]; omega) (by rw [e2]; omega) (by rw [e2]; exact hk)) ?_
   refine Cw_y hr ?_
   rintro bb W' (⟨rfl, hj'⟩ | ⟨rfl, hx⟩)
   ·have h := Hp.init [] W'
    refine Dv_nT (If_F (Bn_ad (by omega) (by omega) ?_))
    refine ⟨⟨s + 1, by omega, rfl, by rw [cMM_0 he]; exact hj'⟩, by show l.length - ((s : Int) + 1).toNat < l.length - (s : Int).toNat; omega⟩
   ·have h := Hp.init [] W'
    refine Dv_nF (If_T ?_)
    exact ⟨⟨_, rfl⟩, .inr hx⟩
 ·refine Bn_ltF (by omega) (If_F ?_)
  refine ⟨⟨_, rfl⟩, .inl ?_⟩
  rw [List.length_map, List.length_map, tmM_len, ← hM.len, show l.length = s by omega]
  exact hj
theorem c_merged {w0 : World} {v sv : Value} {ks : List Nat} {n c : Nat} (hs : SlN w0 sv ks) (hv : ∃ a m k, v = .slice a m k) (hl : ks.length ≤ 7) (hk : ∀ k ∈ ks, k ≤ 10) (hc : c < ks.length) :
 Calls Tryz.prog 59 #[sv, v, .int .i64 n, .int .i64 c] w0 (Ret fun r w' => Ext w0 w' ∧ ∃ gv gs gc gp gn : Nat, r = .func (.func 84) #[] #[pr gv 0, pr gs 0, pr gc 0, pr gp 0, pr gn 0] ∧
  Blk w' gv tIs [v] ∧ Blk w' gs tIs [sv] ∧ Blk w' gc tI [.int .i64 c] ∧ Blk w' gp tI [.int .i64 ((many (ks.take c)).1 : Nat)] ∧ Blk w' gn tI [.int .i64 n]) := by
 obtain ⟨a, m, k, rfl⟩ := hv
 obtain ⟨a2, m2, k2, rfl⟩ := sl_ex hs
 apply e_share_merged
 unfold s_share_merged
 have h := Hp.init [] w0
 refine bxA h fun g1 w h => ?_
 refine bxA h fun g2 w h => ?_
 refine bxA h fun g3 w h => ?_
 refine bxA h fun g4 w h => ?_
 refine Eng.ld1 h 3 rfl rfl (Eng.ld1 h 0 rfl rfl ?_)
 have hs : SlC w0 1 (.slice a2 m2 k2) ks.length (ks.flatMap fN) := hs
 refine scH (hs.ext h.ext) (by omega) fun v' hb' hv' => ?_
 rw [flat_take (f := fN) (fun _ => rfl)] at hv'
 have hlt : (ks.take c).length = c := by rw [List.length_take]; omega
 have hv' : SlN w v' (ks.take c) := by unfold SlN; rw [hlt]; exact hv'
 refine Cl_i n_share_many (c_many hv' (by omega) (fun k h => hk k (List.mem_of_mem_take h))) ?_
 rintro _ w ⟨x, rfl⟩
 have h := h.x x
 refine Ex2 (alS h fun g5 w h => ?_)
 refine st1 h 0 rfl rfl rfl rfl fun w h => ?_
 dsimp only [List.set] at h
 exact Ret.mk ⟨h.ext, _, _, _, _, _, rfl, h.get (i := 3) rfl, h.get (i := 4) rfl, h.get (i := 1) rfl, h.get (i := 0) rfl, h.get (i := 2) rfl⟩
theorem tmM_ok {ks : List Nat} {l : List Int} {c : Nat} (hM : MgOk ks l) (hc : c < ks.length) : TmOk (tmM ks l c) := by
 constructor
 ·have h1 := List.length_filterMap_le (fun ix => if (cnt ks ix).getD c 0 = ks.getD c 0 then none else some (g l (ix + (many (ks.take c)).1) - g l ix, ((wgM ks c ix : Nat) : Int))) (List.range (many ks).1)
  rw [List.length_range] at h1
  exact Nat.le_trans h1 hM.c400
 ·intro p hp
  rw [tmM, List.mem_filterMap] at hp
  obtain ⟨s, hs, hp⟩ := hp
  have hs := List.mem_range.1 hs
  split at hp
  ·cases hp
  ·next h =>
   rw [← Option.some.inj hp]
   have hlt : (cnt ks s).getD c 0 < ks.getD c 0 := by have := cnt_le ks s c; omega
   have h1 := step_lt ks s c hs hlt
   have hlen := hM.len
   obtain ⟨b11, b12⟩ := g_ok hM.ok (show s < l.length by omega)
   obtain ⟨b21, b22⟩ := g_ok hM.ok (show s + (many (ks.take c)).1 < l.length by omega)
   have b3 := wgM_le (fun k hk => (hM.sz k hk).2) hM.n10 hlt
   refine ⟨⟨?_, ?_⟩, ?_, ?_⟩
   ·show -2251799813685248 ≤ g l (s + _) - g l s
    omega
   ·show g l (s + _) - g l s ≤ 2251799813685248
    omega
   ·exact Int.natCast_nonneg _
   ·show ((wgM ks c s : Nat) : Int) ≤ 1000000000000
    omega
theorem shrM_mn (ks : List Nat) (l : List Int) (c : Nat) : mnQ (many ks).2 (tmM ks l c) = shrM ks l c := by
 rw [shrM, numM_dot]; rfl
theorem shrsM_snoc (ks : List Nat) (l : List Int) (i : Nat) : qC ((List.range (i + 1)).map (shrM ks l)) = qC ((List.range i).map (shrM ks l)) ++ fO (some (shrM ks l i)) := by
 rw [List.range_succ, List.map_append]; simp [qC]
section
variable {w0 : World} {v sv : Value} {ks : List Nat} {l : List Int} (hs : SlN w0 sv ks) (hv : SlC w0 1 v l.length (l.flatMap fI))
include hs hv
set_option maxHeartbeats 4000000 in
theorem c_Merged (hM : MgOk ks l) (hT : Tab w0) (hF : FacV w0) :
 Calls Tryz.prog 27 #[sv, v] w0 (Ret fun r w' => ∃ u, r = .tuple #[u, .int .i64 0] ∧ Hp [] w0 w' [ro tR 2 u ks.length (qC (shrsM ks l))]) := by
 have h6 := hM.le6
 have hn10 := hM.n10
 have h400 := hM.c400
 have hlen := hM.len
 have hsz : ∀ k ∈ ks, k ≤ 10 := fun k hk => (hM.sz k hk).2
 have hs : SlC w0 1 sv ks.length (ks.flatMap fN) := hs
 have cc1 := fun {W : World} (e : Ext w0 W) => c_ContFm (w0 := W) (v := sv) (l := ks.map fun (x : Nat) => (x : Int)) (SlN.int (hs.ext e)) (by rw [List.length_map]; omega) (b := false) (by
  refine ⟨fun h => (by cases h), fun h => absurd (fun x hx => ?_) h⟩
  obtain ⟨k, hk, rfl⟩ := List.mem_map.1 hx
  have := hM.sz k hk
  exact ⟨by omega, by omega⟩)
 have cc2 := fun {W : World} (e : Ext w0 W) => c_many (w0 := W) (v := sv) (ks := ks) (hs.ext e) (by omega) hsz
 have cc3 := fun {W : World} (e : Ext w0 W) => c_worth (w0 := W) (hv.ext e) (by omega) (b := true) (by simpa using hM.ok)
 apply e_share_Merged
 unfold s_share_Merged
 have h := Hp.init [] w0
 refine leS (hs.hp h) ?_
 refine Bn_gtF (by omega) (Gd_F (Gd_F (Gd_F (cl1 h n_slices_ContainsFunc_int_int (cc1 h.ext) fun w h => ?_))))
 refine Pick_F (If_F (cl1 h n_share_many (cc2 h.ext) fun w h => ?_))
 refine Ex2 (Bn_gtF (by omega) (Gd_F (Gd_F (Bn_gtF (by omega) (Pick_F (Gd_F (Gd_F (Gd_F (leS (hv.hp h) ?_)))))))))
 refine Gd_F (Bn_neF (by omega) (Pick_F (Gd_F (Gd_F (cl1 h n_share_worth (cc3 h.ext) fun w h => ?_)))))
 refine Gd_F (Un_T (Pick_F (If_F (leS (hs.hp h) ?_))))
 replace h := h.nil tR 2
 refine Lp2.mk (fun u a W => ∃ i : Nat, i ≤ ks.length ∧ a = .int .i64 i ∧ Hp [] w0 W [ro tR 2 u i (qC ((List.range i).map (shrM ks l)))]) (fun _ a _ => match a with | .int _ x => ks.length - x.toNat | _ => 0) ⟨0, by omega, rfl, h⟩ ?_
 clear h cc1 cc2 cc3
 rintro u _ W ⟨i, hi, rfl, h⟩
 by_cases hin : i < ks.length
 ·refine Bn_ltT (by omega) (If_T (Cl_i n_share_merged (c_merged (hs.ext h.ext) (sl_ex hv) (by omega) hsz hin) ?_))
  rintro _ w1 ⟨x, gv, gs, gc, gp, gn, rfl, b1, b2, b3, b4, b5⟩
  replace h := h.x x
  refine Cl_i n_share_mean (c_mean (w0 := w1) (n := (many ks).2) (ps := tmM ks l i) (by omega) n_share_merged_1 (tmM_ok hM hin) (fun hJ => it_merged hM hin fun k W hk => ⟨((b1.ext (hJ k W hk)).cell rfl), hv.ext (h.ext.tr (hJ k W hk)), ((b2.ext (hJ k W hk)).cell rfl), hs.ext (h.ext.tr (hJ k W hk)), ((b3.ext (hJ k W hk)).cell rfl), ((b4.ext (hJ k W hk)).cell rfl), ((b5.ext (hJ k W hk)).cell rfl), hF.ext (h.ext.tr (hJ k W hk))⟩) (hT.ext h.ext) (hF.ext h.ext)) ?_
  rintro _ w2 ⟨x2, rfl⟩
  replace h := h.x x2
  rw [shrM_mn]
  refine bs1A h (by rfl) (by decide) (by rfl) (by decide) fun v1 w h => ?_
  refine apR (by rfl) (by decide) h 1 rfl (qZ 0 h rfl) (by first | rfl | assumption) (by omega) fun v2 w h => ?_
  refine Bn_ad (by omega) (by omega) ?_
  dsimp only [List.set] at h
  refine ⟨⟨i + 1, by omega, rfl, ?_⟩, by show ks.length - ((i : Int) + 1).toNat < ks.length - (i : Int).toNat; omega⟩
  rw [shrsM_snoc]
  exact h.pick [1] (by decide) rfl
 ·have e : i = ks.length := by omega
  subst e
  refine Bn_ltF (by omega) (If_F ?_)
  exact Ret.mk ⟨_, rfl, h⟩
end
structure SLk (w : World) (vs : List Value) (ls : List (List Nat)) : Prop where
 len : vs.length = ls.length
 el : ∀ (c : Nat) (v : Value) (l : List Nat), vs[c]? = some v → ls[c]? = some l → SlN w v l
theorem SLk.ext {w w' : World} {vs : List Value} {ls : List (List Nat)} (h : SLk w vs ls) (x : Ext w w') : SLk w' vs ls := ⟨h.len, fun c v l hv hl => (h.el c v l hv hl).ext x⟩
theorem sls_k {w : World} {kz : List Nat} {vs : List Value} {ls : List (List Nat)} (h : (sls kz vs ls).Q w) : SLk w vs ls := ⟨h.1, fun c v l hv hl => (h.2 c v l hv hl).1⟩
theorem cast_inj {a b : List Nat} : (a.map fun (x : Nat) => (x : Int)) = (b.map fun (x : Nat) => (x : Int)) ↔ a = b := by
 constructor
 ·intro h
  have := congrArg (List.map Int.toNat) h
  simpa [Function.comp_def] using this
 ·rintro rfl; rfl
section
variable {w0 : World} {u u' : Value} {vs vs' : List Value} {ls ls' : List (List Nat)} (hu : SlC w0 1 u vs.length vs) (hu' : SlC w0 1 u' vs'.length vs') (hq : SLk w0 vs ls) (hq' : SLk w0 vs' ls')
 (hl : ls.length ≤ 1000) (hl' : ls'.length ≤ 1000) (he : ∀ l ∈ ls, l.length ≤ 1000) (he' : ∀ l ∈ ls', l.length ≤ 1000)
include hu hu' hq hq' hl hl' he he'
theorem c_sets {b : Bool} (hb : b = true ↔ ls = ls') : Calls Tryz.prog 20 #[u, u'] w0 (Ret fun r w' => Ext w0 w' ∧ r = .bool b) := by
 have ln := hq.len
 have ln' := hq'.len
 by_cases hll : ls.length = ls'.length
 rotate_left
 ·have e : b = false := by
   cases b
   ·rfl
   ·exact absurd (congrArg List.length (hb.1 rfl)) hll
  subst e
  apply e_law25_sets
  unfold s_law25_sets
  have h := Hp.init [] w0
  refine leS (hu.hp h) ?_
  refine leS (hu'.hp h) ?_
  refine Bn_neT (by omega) (If_T ?_)
  exact Ret.mk ⟨h.ext, rfl⟩
 apply e_law25_sets
 unfold s_law25_sets
 have h := Hp.init [] w0
 refine leS (hu.hp h) ?_
 refine leS (hu'.hp h) ?_
 refine Bn_neF (by omega) (If_F (Lp1.mk (fun i W => ∃ j : Nat, j ≤ ls.length ∧ i = .int .i64 j ∧ ls.take j = ls'.take j ∧ Hp [] w0 W []) (fun i _ => match i with | .int _ i' => ls.length - i'.toNat | _ => 0) ⟨0, by omega, rfl, rfl, h⟩ ?_))
 clear h
 rintro _ W ⟨j, hj, rfl, ht, h⟩
 by_cases hjl : j < ls.length
 ·refine Exists.elim (p := fun x => ls[j]? = some x) ⟨_, List.getElem?_eq_getElem hjl⟩ fun x hx => ?_
  refine Exists.elim (p := fun x => ls'[j]? = some x) ⟨_, List.getElem?_eq_getElem (by omega)⟩ fun y hy => ?_
  refine Exists.elim (p := fun x => vs[j]? = some x) ⟨_, List.getElem?_eq_getElem (by omega)⟩ fun xv hxv => ?_
  refine Exists.elim (p := fun x => vs'[j]? = some x) ⟨_, List.getElem?_eq_getElem (by omega)⟩ fun yv hyv => ?_
  have sx : Seg vs (j * 1) [xv] := seg_one hxv
  have sy : Seg vs' (j * 1) [yv] := seg_one hyv
  have kx := hq.el j xv x hxv hx
  have ky := hq'.el j yv y hyv hy
  have lx := he x (List.mem_of_getElem? hx)
  have ly := he' y (List.mem_of_getElem? hy)
  by_cases hxy : x = y
  ·have cc1 := fun {W : World} (e : Ext w0 W) => c_ints (w0 := W) (SlN.int (kx.ext e)) (SlN.int (ky.ext e)) (by rw [List.length_map]; omega) (by rw [List.length_map]; omega) (b := true) (by simpa using cast_inj.2 hxy)
   refine leS (hu.hp h) ?_
   refine Bn_ltT (by omega) (If_T ?_)
   replace h := h.dr
   refine diH h ‹_› (by omega) fun zb zo zk zv zc => ?_
   refine dh0 h ‹_› ‹_› (by rfl) ?_
   refine diH h ‹_› (by omega) fun zb zo zk zv zc => ?_
   refine dh0 h ‹_› ‹_› (by rfl) ?_
   refine cl1 h n_law25_ints (cc1 h.ext) fun w h => ?_
   refine Dv_nT (If_F (Bn_ad (by omega) (by omega) ?_))
   exact ⟨⟨j + 1, by omega, rfl, by rw [take_snoc hx, take_snoc hy, ht, hxy], h⟩, by show ls.length - ((j : Int) + 1).toNat < ls.length - (j : Int).toNat; omega⟩
  ·have cc1 := fun {W : World} (e : Ext w0 W) => c_ints (w0 := W) (SlN.int (kx.ext e)) (SlN.int (ky.ext e)) (by rw [List.length_map]; omega) (by rw [List.length_map]; omega) (b := false) (by
    refine ⟨fun h => (by cases h), fun h => absurd (cast_inj.1 h) hxy⟩)
   have e2 : b = false := by
    cases b
    ·rfl
    ·have := hb.1 rfl
     rw [this, hy] at hx
     exact absurd (Option.some.inj hx).symm hxy
   subst e2
   refine leS (hu.hp h) ?_
   refine Bn_ltT (by omega) (If_T ?_)
   replace h := h.dr
   refine diH h ‹_› (by omega) fun zb zo zk zv zc => ?_
   refine dh0 h ‹_› ‹_› (by rfl) ?_
   refine diH h ‹_› (by omega) fun zb zo zk zv zc => ?_
   refine dh0 h ‹_› ‹_› (by rfl) ?_
   refine cl1 h n_law25_ints (cc1 h.ext) fun w h => ?_
   refine Dv_nF (If_T ?_)
   exact Ret.mk ⟨h.ext, rfl⟩
 ·rw [List.take_of_length_le (by omega), List.take_of_length_le (by omega)] at ht
  have e2 : b = true := hb.2 ht
  subst e2
  refine leS (hu.hp h) ?_
  refine Bn_ltF (by omega) (If_F ?_)
  exact Ret.mk ⟨h.ext, rfl⟩
end
section
variable {w0 : World} {v : Value} {l : List Int} (hv : SlC w0 1 v l.length (l.flatMap fI)) {n : Nat} (hn : n ≤ 6) (hln : l.length = 2 ^ n) (hw : ∀ x ∈ l, wOk x)
include hv hn hln hw
set_option maxHeartbeats 8000000 in
theorem c_Reduce : Calls Tryz.prog 17 #[v] w0 (Ret fun r w' => ∃ a b, r = .tuple #[a, b, .int .i64 0] ∧ Hp [] w0 w' [ro tI 1 b (redV (clsV n l) l).length ((redV (clsV n l) l).flatMap fI), ro tI 1 a (clsV n l).length (((clsV n l).map List.length).flatMap fN)]) := by
 have hl64 : l.length ≤ 64 := by
  rw [hln]; exact Nat.pow_le_pow_right (n := 2) (by decide) hn
 apply e_share_Reduce
 unfold s_share_Reduce
 have h := Hp.init [] w0
 refine Cl_i n_share_Classes (c_Classes hv hn hln hw) ?_
 rintro _ w1 ⟨u, vs, kz, rfl, h1⟩
 have x1 := h1.ext
 have hu : SlC w1 1 u vs.length vs := h1.sl (i := 0) rfl
 have hq : SLk w1 vs (clsV n l) := sls_k (h1.get (i := 1) rfl)
 have hv : SlC w1 1 v l.length (l.flatMap fI) := hv.ext x1
 have hlen := hq.len
 have hcl := cls_len n l
 have hce : ∀ q ∈ clsV n l, q.length ≤ 6 := fun q hq => by have := (cls_each hq).2; omega
 have hcn := cls_cnt hn l
 clear h h1
 have h := Hp.init [] w1
 refine Ex2 (Bn_neF (by omega) (If_F (leS (hu.hp h) ?_)))
 replace h := h.nil tI 1
 refine Lp2.mk (fun a i W => ∃ j : Nat, j ≤ vs.length ∧ i = .int .i64 j ∧ Hp [] w1 W [ro tI 1 a j ((((clsV n l).map List.length).take j).flatMap fN)]) (fun _ i _ => match i with | .int _ i' => vs.length - i'.toNat | _ => 0) ⟨0, by omega, rfl, h⟩ ?_
 clear h
 rintro a _ W ⟨j, hj, rfl, h⟩
 by_cases hjl : j < vs.length
 ·refine Exists.elim (p := fun x => (clsV n l)[j]? = some x) ⟨_, List.getElem?_eq_getElem (by omega)⟩ fun x hx => ?_
  refine Exists.elim (p := fun x => vs[j]? = some x) ⟨_, List.getElem?_eq_getElem (by omega)⟩ fun xv hxv => ?_
  have sx : Seg vs (j * 1) [xv] := seg_one hxv
  have kx : SlC w1 1 xv x.length (x.flatMap fN) := hq.el j xv x hxv hx
  have lx := hce x (List.mem_of_getElem? hx)
  have em : ((clsV n l).map List.length)[j]? = some x.length := by rw [List.getElem?_map, hx]; rfl
  refine Bn_ltT (by omega) (If_T (iaH h ‹_› (by omega) fun zb zo zk zv zc => ?_))
  refine lh0 h ‹_› ‹_› (by rfl) ?_
  refine leS (kx.hp h) ?_
  refine bs1A h (by rfl) (by decide) (by rfl) (by decide) fun v1 w h => ?_
  refine apR (by rfl) (by decide) h 1 rfl (qZ 0 h rfl) (by first | rfl | assumption) (by omega) fun v2 w h => ?_
  refine Bn_ad (by omega) (by omega) ?_
  dsimp only [List.set] at h
  refine ⟨⟨j + 1, by omega, rfl, ?_⟩, by show vs.length - ((j : Int) + 1).toNat < vs.length - (j : Int).toNat; omega⟩
  rw [take_snoc em, List.flatMap_append]
  exact h.pick [1] (by decide) rfl
 have ej : j = (clsV n l).length := by omega
 subst ej
 rw [List.take_of_length_le (by rw [List.length_map]; exact Nat.le_refl _)] at h
 refine Exists.elim (p := fun ks => (clsV n l).map List.length = ks) ⟨_, rfl⟩ fun ks hks => ?_
 have hkl : ks.length = (clsV n l).length := by rw [← hks, List.length_map]
 have hk6 : ∀ k ∈ ks, k ≤ 6 := fun k hk => by
  rw [← hks] at hk
  obtain ⟨q, hq, rfl⟩ := List.mem_map.1 hk
  exact hce q hq
 rw [hks] at h hcn
 have hrl : (redV (clsV n l) l).length = (many ks).1 := by rw [redV_len, hks]
 refine Bn_ltF (by omega) (If_F ?_)
 have sa : SlN W a ks := by
  have := h.sl (i := 0) rfl
  rw [← hkl] at this
  exact this
 refine Cl_i n_share_many (c_many sa (by omega) (fun k hk => by have := hk6 k hk; omega)) ?_
 rintro _ w ⟨x, rfl⟩
 have h := h.x x
 refine Ex2 ?_
 replace h := h.nil tI 1
 refine Lp2.mk (fun b i W => ∃ j : Nat, j ≤ (many ks).1 ∧ i = .int .i64 j ∧ Hp [] w1 W [ro tI 1 b j (((redV (clsV n l) l).take j).flatMap fI), ro tI 1 a (clsV n l).length (ks.flatMap fN)]) (fun _ i _ => match i with | .int _ i' => (many ks).1 - i'.toNat | _ => 0) ⟨0, by omega, rfl, h⟩ ?_
 clear h x sa
 rintro b _ W ⟨j, hj, rfl, h⟩
 by_cases hjl : j < (many ks).1
 ·refine Bn_ltT (by omega) (If_T ?_)
  have sa : SlN W a ks := by
   have := h.sl (i := 1) rfl
   rw [← hkl] at this
   exact this
  refine clR h n_share_counts (T := fun v => v) (c_counts sa (by omega) (fun k hk => by have := hk6 k hk; omega) (ix := j) (by omega)) fun cv w h => ?_
  have hcl2 := cnt_len ks j
  refine leS (qZ 0 h rfl) ?_
  refine Lp2.mk (fun s i W' => ∃ c : Nat, c ≤ ks.length ∧ i = .int .i64 c ∧ s = .int .i64 (mk (tkC (clsV n l) (cnt ks j) c) : Nat) ∧ Hp [] w1 W' [ro tI 1 cv ks.length ((cnt ks j).flatMap fN), ro tI 1 b j (((redV (clsV n l) l).take j).flatMap fI), ro tI 1 a (clsV n l).length (ks.flatMap fN)]) (fun _ i _ => match i with | .int _ i' => ks.length - i'.toNat | _ => 0) ⟨0, by omega, rfl, rfl, h⟩ ?_
  clear h
  rintro _ _ W' ⟨c, hc, rfl, rfl, h⟩
  by_cases hck : c < ks.length
  ·refine Exists.elim (p := fun x => (clsV n l)[c]? = some x) ⟨_, List.getElem?_eq_getElem (by omega)⟩ fun q hq' => ?_
   refine Exists.elim (p := fun x => vs[c]? = some x) ⟨_, List.getElem?_eq_getElem (by omega)⟩ fun qv hqv => ?_
   have sx : Seg vs (c * 1) [qv] := seg_one hqv
   have kq : SlC w1 1 qv q.length (q.flatMap fN) := hq.el c qv q hqv hq'
   have ec := getD_get (ks := cnt ks j) (c := c) (by omega)
   have sc : Seg ((cnt ks j).flatMap fN) (c * 1) (fN ((cnt ks j).getD c 0)) := flat_seg (f := fN) (fun _ => rfl) ec
   have hle : (cnt ks j).getD c 0 ≤ q.length := by
    have h1 := cnt_le ks j c
    have h2 : ks.getD c 0 = q.length := by
     have : ks[c]? = some q.length := by rw [← hks, List.getElem?_map, hq']; rfl
     rw [List.getD_eq_getElem?_getD, this]; rfl
    omega
   have lq := hce q (List.mem_of_getElem? hq')
   refine Exists.elim (p := fun k => (cnt ks j).getD c 0 = k) ⟨_, rfl⟩ fun k hk => ?_
   rw [hk] at ec sc hle
   refine Bn_ltT (by omega) (If_T (iaR h 0 rfl (by omega) fun zg zk zv => ?_))
   refine lr0 h 0 rfl ‹_› ‹_› (by rfl) ?_
   refine iaH h ‹_› (by omega) fun zb zo zk zv zc => ?_
   refine lh0 h ‹_› ‹_› (by rfl) ?_
   refine scHn (kq.hp h) (by omega) fun v1 p1 => ?_
   refine leS (p1.2 _ (kq.hp h)) ?_
   have e0 : mk (tkC (clsV n l) (cnt ks j) c) = mk (tkC (clsV n l) (cnt ks j) c ++ q.take 0) := by rw [List.take_zero, List.append_nil]
   rw [e0]
   refine Lp2.mk (fun s i W2 => ∃ m : Nat, m ≤ k ∧ i = .int .i64 m ∧ s = .int .i64 (mk (tkC (clsV n l) (cnt ks j) c ++ q.take m) : Nat) ∧ Ext W' W2 ∧ Hp [] w1 W2 [ro tI 1 cv ks.length ((cnt ks j).flatMap fN), ro tI 1 b j (((redV (clsV n l) l).take j).flatMap fI), ro tI 1 a (clsV n l).length (ks.flatMap fN)]) (fun _ i _ => match i with | .int _ i' => k - i'.toNat | _ => 0) ⟨0, by omega, rfl, rfl, .refl _, h⟩ ?_
   clear h
   rintro _ _ W2 ⟨m, hm, rfl, rfl, x2, h⟩
   by_cases hmk : m < k
   ·refine Exists.elim (p := fun x => q[m]? = some x) ⟨_, List.getElem?_eq_getElem (by omega)⟩ fun i hi => ?_
    have em : (q.take k)[m]? = some i := by rw [List.getElem?_take_of_lt hmk, hi]
    have sm : Seg ((q.take k).flatMap fN) (m * 1) (fN i) := flat_seg (f := fN) (fun _ => rfl) em
    obtain ⟨o1, o2, o3, o4⟩ := red_or hn (ks := cnt ks j) hq' hi
    have p64 : (2 : Nat) ^ n ≤ 64 := Nat.pow_le_pow_right (n := 2) (by decide) hn
    have p63 : (64 : Nat) < 2 ^ 63 := by decide
    have oo := (or_bit hn o1 o3 o2).1
    have ol := (or_bit hn o1 o3 o2).2
    refine Bn_ltT (by omega) (If_T ?_)
    have hp := p1.2 W2 (kq.ext h.ext)
    rw [flat_take (f := fN) (fun _ => rfl)] at hp
    refine iaS hp (j := m) hmk fun zb zo zk zv zc => ?_
    refine lc0 (zc.seg sm) rfl ?_
    refine Bn_sl1 (j := i) (by omega) ?_
    refine Bn_or (a := mk (tkC (clsV n l) (cnt ks j) c ++ q.take m)) (b := 2 ^ i) (by omega) (by omega) ?_
    rw [oo, ← o4]
    refine Bn_ad (by omega) (by omega) ?_
    exact ⟨⟨m + 1, by omega, rfl, rfl, x2, h⟩, by show k - ((m : Int) + 1).toNat < k - (m : Int).toNat; omega⟩
   ·have e : m = k := by omega
    subst e
    refine Bn_ltF (by omega) (If_F (Bn_ad (by omega) (by omega) ?_))
    refine ⟨⟨c + 1, by omega, rfl, ?_, h⟩, by show ks.length - ((c : Int) + 1).toNat < ks.length - (c : Int).toNat; omega⟩
    rw [tkC_succ hq' ec]
  ·have e : c = (clsV n l).length := by omega
   subst e
   have el : redV (clsV n l) l = redV (clsV n l) l := rfl
   have ej : (redV (clsV n l) l)[j]? = some (g l (mk (tkC (clsV n l) (cnt ks j) (clsV n l).length))) := by
    rw [← maskR_tk, redV, hks, List.getElem?_map, List.getElem?_range hjl]
    show some (g l (maskR (clsV n l) (cnt ((clsV n l).map List.length) j))) = _
    rw [hks]
   have hlt : mk (tkC (clsV n l) (cnt ks j) (clsV n l).length) < l.length := by rw [hln]; exact red_lt2 hn
   have sg : Seg (l.flatMap fI) (mk (tkC (clsV n l) (cnt ks j) (clsV n l).length) * 1) (fI (g l (mk (tkC (clsV n l) (cnt ks j) (clsV n l).length)))) := flat_seg (f := fI) (fun _ => rfl) (g_get hlt)
   refine Bn_ltF (by omega) (If_F (iaH h ‹_› (by omega) fun zb zo zk zv zc => ?_))
   refine lh0 h ‹_› ‹_› (by rfl) ?_
   refine bs1A h (by rfl) (by decide) (by rfl) (by decide) fun v1 w h => ?_
   refine apR (by rfl) (by decide) h 2 rfl (qZ 0 h rfl) (by first | rfl | assumption) (by omega) fun v2 w h => ?_
   refine Bn_ad (by omega) (by omega) ?_
   dsimp only [List.set] at h
   refine ⟨⟨j + 1, by omega, rfl, ?_⟩, by show (many ks).1 - ((j : Int) + 1).toNat < (many ks).1 - (j : Int).toNat; omega⟩
   rw [take_snoc ej, List.flatMap_append]
   exact h.pick [2, 3] (by decide) rfl
 ·have e : j = (many ks).1 := by omega
  subst e
  rw [List.take_of_length_le (by omega)] at h
  refine Bn_ltF (by omega) (If_F ?_)
  refine Ret.mk ⟨a, b, rfl, ?_⟩
  rw [hrl, hks]
  exact ((Hp.init [] w0).x x1).cat2 h ro_sm ro_sm
end
theorem sz_nat {xs : List Int} (h : ∀ x ∈ xs, szOk x) : ∃ ks : List Nat, xs = ks.map (fun (x : Nat) => (x : Int)) ∧ ∀ k ∈ ks, 1 ≤ k ∧ k ≤ 10 := by
 refine ⟨xs.map Int.toNat, ?_, ?_⟩
 ·rw [List.map_map]
  conv => lhs; rw [← List.map_id xs]
  refine List.map_congr_left fun x hx => ?_
  have := (h x hx).1
  simp; omega
 ·intro k hk
  obtain ⟨x, hx, rfl⟩ := List.mem_map.1 hk
  have h1 := (h x hx).1
  have h2 := (h x hx).2
  omega
section
variable {w0 : World} {v sv : Value} {xs : List Int} {l : List Int} (hs : SlC w0 1 sv xs.length (xs.flatMap fI)) (hv : SlC w0 1 v l.length (l.flatMap fI))
include hs hv
set_option maxHeartbeats 4000000 in
theorem c_MergedE (hx : xs.length ≤ 7) (hl : l.length ≤ 1000000) (hno : ¬ ∃ ks : List Nat, xs = ks.map (fun (x : Nat) => (x : Int)) ∧ MgOk ks l) :
 Calls Tryz.prog 27 #[sv, v] w0 (Ret fun r w' => Ext w0 w' ∧ r = .tuple #[.slice none 0 0, .int .i64 250]) := by
 by_cases h6 : 6 < xs.length
 ·apply e_share_Merged
  unfold s_share_Merged
  have h := Hp.init [] w0
  refine leS (hs.hp h) ?_
  refine Bn_gtT (by omega) (Gd_TF (Gd_TF (Gd_TF (Pick_T (If_T ?_)))))
  exact Ret.mk ⟨h.ext, rfl⟩
 by_cases ha : ∀ x ∈ xs, szOk x
 rotate_left
 ·have cc1 := fun {W : World} (e : Ext w0 W) => c_ContFm (w0 := W) (v := sv) (l := xs) (hs.ext e) (by omega) (b := true) (by simpa using ha)
  apply e_share_Merged
  unfold s_share_Merged
  have h := Hp.init [] w0
  refine leS (hs.hp h) ?_
  refine Bn_gtF (by omega) (Gd_F (Gd_F (Gd_F (cl1 h n_slices_ContainsFunc_int_int (cc1 h.ext) fun w h => ?_))))
  refine Pick_F (If_T ?_)
  exact Ret.mk ⟨h.ext, rfl⟩
 have cc1 := fun {W : World} (e : Ext w0 W) => c_ContFm (w0 := W) (v := sv) (l := xs) (hs.ext e) (by omega) (b := false) ⟨fun h => (by cases h), fun h => absurd ha h⟩
 refine Exists.elim (sz_nat ha) fun ks hks => ?_
 obtain ⟨rfl, hk⟩ := hks
 have hsn : SlN w0 sv ks := by
  have := hs
  rw [← fN_cast, List.length_map] at this
  exact this
 rw [List.length_map] at h6 hx
 clear hs
 have hs : SlC w0 1 sv ks.length (ks.flatMap fN) := hsn
 have cc2 := fun {W : World} (e : Ext w0 W) => c_many (w0 := W) (v := sv) (ks := ks) (SlC.ext hsn e) (by omega) (fun k h => (hk k h).2)
 have hmb := many_le (ks := ks) (fun k h => (hk k h).2)
 have hp : 11 ^ ks.length ≤ 11 ^ 7 := Nat.pow_le_pow_right (by decide) hx
 have hp7 : (11 : Nat) ^ 7 = 19487171 := by decide
 have hm1 : (many ks).1 ≤ 19487171 := by omega
 have hm2 := hmb.2
 clear hp hmb
 by_cases a1 : 10 < (many ks).2
 ·apply e_share_Merged
  unfold s_share_Merged
  have h := Hp.init [] w0
  refine leS (hs.hp h) ?_
  refine Bn_gtF (by omega) (Gd_F (Gd_F (Gd_F (cl1 h n_slices_ContainsFunc_int_int (cc1 h.ext) fun w h => ?_))))
  refine Pick_F (If_F (cl1 h n_share_many (cc2 h.ext) fun w h => ?_))
  refine Ex2 (Bn_gtT (by omega) (Gd_TF (Gd_TF (Pick_T (Gd_TF (Gd_TF (Gd_TF (Gd_TF (Pick_T (Gd_TF (Gd_TF (Gd_TF (Pick_T (If_T ?_))))))))))))))
  exact Ret.mk ⟨h.ext, rfl⟩
 by_cases a2 : 400 < (many ks).1
 ·apply e_share_Merged
  unfold s_share_Merged
  have h := Hp.init [] w0
  refine leS (hs.hp h) ?_
  refine Bn_gtF (by omega) (Gd_F (Gd_F (Gd_F (cl1 h n_slices_ContainsFunc_int_int (cc1 h.ext) fun w h => ?_))))
  refine Pick_F (If_F (cl1 h n_share_many (cc2 h.ext) fun w h => ?_))
  refine Ex2 (Bn_gtF (by omega) (Gd_F (Gd_F (Bn_gtT (by omega) (Pick_F (Gd_TF (Gd_TF (Gd_TF (Gd_TF (Pick_T (Gd_TF (Gd_TF (Gd_TF (Pick_T (If_T ?_)))))))))))))))
  exact Ret.mk ⟨h.ext, rfl⟩
 by_cases a3 : (many ks).1 = l.length
 rotate_left
 ·apply e_share_Merged
  unfold s_share_Merged
  have h := Hp.init [] w0
  refine leS (hs.hp h) ?_
  refine Bn_gtF (by omega) (Gd_F (Gd_F (Gd_F (cl1 h n_slices_ContainsFunc_int_int (cc1 h.ext) fun w h => ?_))))
  refine Pick_F (If_F (cl1 h n_share_many (cc2 h.ext) fun w h => ?_))
  refine Ex2 (Bn_gtF (by omega) (Gd_F (Gd_F (Bn_gtF (by omega) (Pick_F (Gd_F (Gd_F (Gd_F (leS (hv.hp h) ?_)))))))))
  refine Gd_F (Bn_neT (by omega) (Pick_F (Gd_TF (Gd_TF (Gd_TF (Pick_T (If_T ?_)))))))
  exact Ret.mk ⟨h.ext, rfl⟩
 have cc3 := fun {W : World} (e : Ext w0 W) => c_worth (w0 := W) (hv.ext e) (by omega) (b := false) ⟨fun h => (by cases h), fun h => absurd ⟨ks, rfl, ⟨by omega, hk, by omega, by omega, a3.symm, h⟩⟩ hno⟩
 apply e_share_Merged
 unfold s_share_Merged
 have h := Hp.init [] w0
 refine leS (hs.hp h) ?_
 refine Bn_gtF (by omega) (Gd_F (Gd_F (Gd_F (cl1 h n_slices_ContainsFunc_int_int (cc1 h.ext) fun w h => ?_))))
 refine Pick_F (If_F (cl1 h n_share_many (cc2 h.ext) fun w h => ?_))
 refine Ex2 (Bn_gtF (by omega) (Gd_F (Gd_F (Bn_gtF (by omega) (Pick_F (Gd_F (Gd_F (Gd_F (leS (hv.hp h) ?_)))))))))
 refine Gd_F (Bn_neF (by omega) (Pick_F (Gd_F (Gd_F (cl1 h n_share_worth (cc3 h.ext) fun w h => ?_)))))
 refine Gd_F (Un_F (Pick_F (If_T ?_)))
 exact Ret.mk ⟨h.ext, rfl⟩
end
end Go.Proofs.YthjhkpefammjkaaGreatDoor
