/-
  Contracts and plain lemmas. By an AI agent.
-/
import Derived.Test.YthjhkpefammjkaaGreatDoorShPp
set_option linter.unusedSimpArgs false
set_option linter.unusedVariables false
set_option linter.unusedSectionVars false
namespace Go.Proofs.YthjhkpefammjkaaGreatDoor
open Go Go.Eng Go.Proofs Go.Num Go.RowKit Go.Shr
set_option maxRecDepth 100000
section
variable {w0 : World} {v sv : Value} {ks : List Nat} {l : List Int} (hs : SlC w0 1 sv ks.length (ks.flatMap fN)) (hv : SlC w0 1 v l.length (l.flatMap fI))
include hs hv
set_option maxHeartbeats 8000000 in
theorem c_fMerged (hM : MgOk ks l) :
 Calls Tryz.prog 28 #[sv, v] w0 (Ret fun r w' => ∃ u, r = .tuple #[u, .int .i64 0] ∧ Hp [] w0 w' [ro tR 2 u ks.length (qC (shrsM ks l))]) := by
 have h6 := hM.le6
 have hn10 := hM.n10
 have h400 := hM.c400
 have hlen := hM.len
 have hsz : ∀ k ∈ ks, k ≤ 10 := fun k hk => (hM.sz k hk).2
 have cc1 := fun {W : World} (e : Ext w0 W) => c_fmergedA (w0 := W) (hv.ext e) (by omega) (hs.ext e) h6 hM.sz (.inl ⟨hM, rfl⟩)
 apply e_ref25_Merged
 unfold s_ref25_Merged
 have h := Hp.init [] w0
 refine cl1 h n_ref25_merged (cc1 h.ext) fun w h => ?_
 refine Bn_ltF (by omega) (If_F (Cl_i n_ref25_combos (c_combos (hs.ext h.ext) (by omega) hsz (by omega)) ?_))
 rintro uc w1 ⟨_, vsc, kzc, rfl, h'⟩
 have hu : SlC w1 1 uc vsc.length vsc := h'.sl (i := 0) rfl
 have hq : SLk w1 vsc (allC ks) := sls_k (h'.get (i := 1) rfl)
 have hlen2 := hq.len
 rw [allC_len] at hlen2
 have x1 := (h.x h'.ext).ext
 have hs : SlC w1 1 sv ks.length (ks.flatMap fN) := hs.ext x1
 have hv : SlC w1 1 v l.length (l.flatMap fI) := hv.ext x1
 clear h h' cc1
 have h := Hp.init [] w1
 have h := h.nil tR 2
 have cc2 := fun {W : World} (_ : Ext w1 W) => c_fzero (w0 := W)
 refine Lp3.mk (fun a s x W => ∃ c : Nat, c ≤ ks.length ∧ x = .int .i64 c ∧ s = .int .i64 ((many (ks.take c)).1 : Nat) ∧ Hp [] w1 W [ro tR 2 a c (qC ((List.range c).map (shrM ks l)))]) (fun _ _ x _ => match x with | .int _ x => ks.length - x.toNat | _ => 0) ⟨0, by omega, rfl, rfl, h⟩ ?_
 clear h
 rintro a _ _ W ⟨c, hc, rfl, rfl, h⟩
 by_cases hcl : c < ks.length
 ·refine leS (hs.hp h) ?_
  refine Bn_ltT (by omega) (If_T (cl1 h n_ref25_zero (cc2 h.ext) fun w h => ?_))
  refine alS h fun g1 w h => ?_
  refine stA h 0 rfl rfl rfl rfl fun w h => ?_
  dsimp only [List.set] at h
  have hstep := many_take ks c
  have ekc := getD_get hcl
  have skc : Seg (ks.flatMap fN) (c * 1) (fN (ks.getD c 0)) := flat_seg (f := fN) (fun _ => rfl) ekc
  have hkc10 : 1 ≤ ks.getD c 0 ∧ ks.getD c 0 ≤ 10 := hM.sz _ (List.mem_of_getElem? ekc)
  have hps := tmM_ok hM hcl
  have z0 : mnQ (many ks).2 ((tmM ks l c).take (cMM ks c 0)) = 0 := by
   have h0 : dotT ((tmM ks l c).take (cMM ks c 0)) = 0 := rfl
   unfold mnQ; rw [h0]; grind
  replace h : Hp [] w1 w [bx g1 tR (fO (some (mnQ (many ks).2 ((tmM ks l c).take (cMM ks c 0))))), ro tR 2 a c (qC ((List.range c).map (shrM ks l)))] := by rw [z0]; exact h
  refine Lp1.mk (fun x W => ∃ s : Nat, s ≤ vsc.length ∧ x = .int .i64 s ∧ Hp [] w1 W [bx g1 tR (fO (some (mnQ (many ks).2 ((tmM ks l c).take (cMM ks c s))))), ro tR 2 a c (qC ((List.range c).map (shrM ks l)))]) (fun x _ => match x with | .int _ x => vsc.length - x.toNat | _ => 0) ⟨0, by omega, rfl, h⟩ ?_
  clear h z0 cc2
  rintro _ W ⟨s, hs1, rfl, h⟩
  by_cases hsl : s < vsc.length
  ·have hcl2 := cnt_len ks s
   have hcs : (allC ks)[s]? = some (cnt ks s) := allC_get (by omega)
   refine Exists.elim (p := fun x => vsc[s]? = some x) ⟨_, List.getElem?_eq_getElem hsl⟩ fun cv hcv => ?_
   have sj : Seg vsc (s * 1) [cv] := seg_one hcv
   have kj : SlC w1 1 cv ks.length ((cnt ks s).flatMap fN) := by
    have := hq.el s cv _ hcv hcs
    unfold SlN at this
    rw [hcl2] at this
    exact this
   have sc : Seg ((cnt ks s).flatMap fN) (c * 1) (fN ((cnt ks s).getD c 0)) := flat_seg (f := fN) (fun _ => rfl) (getD_get (by omega))
   by_cases he : (cnt ks s).getD c 0 = ks.getD c 0
   ·refine leS (hu.hp h) ?_
    refine Bn_ltT (by omega) (If_T ?_)
    replace h := h.dr
    refine diH h ‹_› (by omega) fun zb zo zk zv zc => ?_
    refine dh0 h ‹_› ‹_› (by rfl) ?_
    refine diH h ‹_› (by omega) fun zb zo zk zv zc => ?_
    refine dh0 h ‹_› ‹_› (by rfl) ?_
    refine diH h ‹_› (by omega) fun zb zo zk zv zc => ?_
    refine dh0 h ‹_› ‹_› (by rfl) ?_
    refine Dv_eqT (by omega) (If_T (Bn_ad (by omega) (by omega) ?_))
    exact ⟨⟨s + 1, by omega, rfl, by rw [cMM_1 he]; exact h⟩, by show vsc.length - ((s : Int) + 1).toNat < vsc.length - (s : Int).toNat; omega⟩
   have hlt : (cnt ks s).getD c 0 < ks.getD c 0 := by have := cnt_le ks s c; omega
   have hok := wOk_cnt c ks s 0 hsz fun _ => hlt
   have hsum := cnt_sum_lt ks s c hlt
   have cb0 := cho_bd (n := ks.getD c 0 - 1) (k := (cnt ks s).getD c 0) (by omega) (by omega)
   have cb1 : 2 ^ (ks.getD c 0 - 1) ≤ 2 ^ 10 := Nat.pow_le_pow_right (by decide) (by omega)
   have cb2 : cho (ks.getD c 0 - 1) ((cnt ks s).getD c 0) ≤ 1024 := Nat.le_trans cb0.2 cb1
   clear cb1
   have cc1 := fun {W : World} (_ : Ext w1 W) => c_fchoose (w0 := W) (n := ks.getD c 0 - 1) (k := (cnt ks s).getD c 0) (by omega) (by omega)
   rw [show ((ks.getD c 0 - 1 : Nat) : Int) = (ks.getD c 0 : Int) - 1 by omega] at cc1
   refine leS (hu.hp h) ?_
   refine Bn_ltT (by omega) (If_T ?_)
   replace h := h.dr
   refine diH h ‹_› (by omega) fun zb zo zk zv zc => ?_
   refine dh0 h ‹_› ‹_› (by rfl) ?_
   refine diH h ‹_› (by omega) fun zb zo zk zv zc => ?_
   refine dh0 h ‹_› ‹_› (by rfl) ?_
   refine diH h ‹_› (by omega) fun zb zo zk zv zc => ?_
   refine dh0 h ‹_› ‹_› (by rfl) ?_
   refine Dv_eqF (by omega) (If_F ?_)
   replace h := h.dr
   refine diH h ‹_› (by omega) fun zb zo zk zv zc => ?_
   refine dh0 h ‹_› ‹_› (by rfl) ?_
   refine Dv_su (by omega) (by omega) (diH h ‹_› (by omega) fun zb zo zk zv zc => ?_)
   refine dh0 h ‹_› ‹_› (by rfl) ?_
   refine diH h ‹_› (by omega) fun zb zo zk zv zc => ?_
   refine dh0 h ‹_› ‹_› (by rfl) ?_
   refine cl1 h n_ref25_choose (cc1 h.ext) fun w h => ?_
   refine Exists.elim (p := fun x => cho (ks.getD c 0 - 1) ((cnt ks s).getD c 0) = x) ⟨_, rfl⟩ fun cc hcc => ?_
   rw [hcc] at cb2 ⊢
   refine Lp3.mk (fun b s' d W => ∃ i : Nat, i ≤ ks.length ∧ d = .int .i64 i ∧ b = .int .i64 (cc * wayO c 0 (ks.take i) ((cnt ks s).take i) : Nat) ∧ s' = .int .i64 (((cnt ks s).take i).sum : Nat) ∧ Hp [] w1 W [bx g1 tR (fO (some (mnQ (many ks).2 ((tmM ks l c).take (cMM ks c s))))), ro tR 2 a c (qC ((List.range c).map (shrM ks l)))]) (fun _ _ d _ => match d with | .int _ x => ks.length - x.toNat | _ => 0) ⟨0, by omega, rfl, by simp [wayO], rfl, h⟩ ?_
   clear h cc1
   rintro _ _ _ W ⟨i, hi, rfl, rfl, rfl, h⟩
   by_cases hik : i < ks.length
   ·have ei := getD_get (ks := cnt ks s) (c := i) (by omega)
    have eki := getD_get hik
    have si : Seg ((cnt ks s).flatMap fN) (i * 1) (fN ((cnt ks s).getD i 0)) := flat_seg (f := fN) (fun _ => rfl) ei
    have ski : Seg (ks.flatMap fN) (i * 1) (fN (ks.getD i 0)) := flat_seg (f := fN) (fun _ => rfl) eki
    have hki : (cnt ks s).getD i 0 ≤ ks.getD i 0 := cnt_le ks s i
    have hk10 : 1 ≤ ks.getD i 0 ∧ ks.getD i 0 ≤ 10 := hM.sz _ (List.mem_of_getElem? eki)
    have hsi := take_sum ei
    have hsl2 := take_sum_le (cnt ks s) (i + 1)
    have hwe := wayO_snoc c (ks.take i) ((cnt ks s).take i) (ks.getD i 0) ((cnt ks s).getD i 0) 0 (by rw [List.length_take, List.length_take, hcl2])
    rw [← take_snoc ei, ← take_snoc eki, List.length_take, show min i ks.length = i by omega, Nat.zero_add] at hwe
    by_cases e : i = c
    ·rw [if_pos e, Nat.mul_one] at hwe
     refine leS (hs.hp h) ?_
     refine Bn_ltT (by omega) (If_T (iaH h ‹_› (by omega) fun zb zo zk zv zc => ?_))
     refine lh0 h ‹_› ‹_› (by rfl) ?_
     refine iaH h ‹_› (by omega) fun zb zo zk zv zc => ?_
     refine lh0 h ‹_› ‹_› (by rfl) ?_
     refine Bn_ad (by omega) (by omega) (Bn_neF (by omega) (If_F (Bn_ad (by omega) (by omega) ?_)))
     exact ⟨⟨i + 1, by omega, rfl, by rw [hwe], by rw [hsi]; rfl, h⟩, by show ks.length - ((i : Int) + 1).toNat < ks.length - (i : Int).toNat; omega⟩
    ·rw [if_neg e] at hwe
     have hw1 := (wayO_bd c _ _ 0 (wOk_take c _ _ 0 (i + 1) hok)).2
     have hm2 : (many (ks.take (i + 1))).2 ≤ 10 := by rw [many_sum]; have := take_sum_le ks (i + 1); have e := many_sum ks; omega
     have hp1 : 2 ^ (many (ks.take (i + 1))).2 ≤ 2 ^ 10 := Nat.pow_le_pow_right (by decide) hm2
     have hq1 : cc * wayO c 0 (ks.take (i + 1)) ((cnt ks s).take (i + 1)) ≤ 1024 * 1024 := Nat.mul_le_mul cb2 (Nat.le_trans hw1 hp1)
     have hmu : ((cc * wayO c 0 (ks.take i) ((cnt ks s).take i) : Nat) : Int) * ((cho (ks.getD i 0) ((cnt ks s).getD i 0) : Nat) : Int) = ((cc * wayO c 0 (ks.take (i + 1)) ((cnt ks s).take (i + 1)) : Nat) : Int) := by
      rw [hwe, ← Int.natCast_mul, Nat.mul_assoc]
     clear hp1 hw1 hm2
     have cc1 := fun {W : World} (_ : Ext w1 W) => c_fchoose (w0 := W) (n := ks.getD i 0) (k := (cnt ks s).getD i 0) (by omega) hki
     refine leS (hs.hp h) ?_
     refine Bn_ltT (by omega) (If_T (iaH h ‹_› (by omega) fun zb zo zk zv zc => ?_))
     refine lh0 h ‹_› ‹_› (by rfl) ?_
     refine iaH h ‹_› (by omega) fun zb zo zk zv zc => ?_
     refine lh0 h ‹_› ‹_› (by rfl) ?_
     refine Bn_ad (by omega) (by omega) (Bn_neT (by omega) (If_T ?_))
     replace h := h.dr
     refine diH h ‹_› (by omega) fun zb zo zk zv zc => ?_
     refine dh0 h ‹_› ‹_› (by rfl) ?_
     refine diH h ‹_› (by omega) fun zb zo zk zv zc => ?_
     refine dh0 h ‹_› ‹_› (by rfl) ?_
     refine diH h ‹_› (by omega) fun zb zo zk zv zc => ?_
     refine dh0 h ‹_› ‹_› (by rfl) ?_
     refine cl1 h n_ref25_choose (cc1 h.ext) fun w h => ?_
     refine Dv_mu (by omega) (by omega) (Bn_ad (by omega) (by omega) ?_)
     exact ⟨⟨i + 1, by omega, rfl, by rw [hmu], by rw [hsi]; rfl, h⟩, by show ks.length - ((i : Int) + 1).toNat < ks.length - (i : Int).toNat; omega⟩
   ·have hil : i = ks.length := by omega
    have et1 : ks.take i = ks := List.take_of_length_le (by omega)
    have et2 : (cnt ks s).take i = cnt ks s := List.take_of_length_le (by omega)
    rw [et1, et2]
    have hO := wayM_O c ks (cnt ks s) 0 (by omega) (by omega) (by omega)
    rw [Nat.sub_zero, hcc] at hO
    rw [← hO]
    have hsm : s < (many ks).1 := by omega
    have hty := tmM_get (l := l) hsm he
    have hst2 := step_lt ks s c hsm hlt
    have b1 := g_ok hM.ok (show s < l.length by omega)
    have b2 := g_ok hM.ok (show s + (many (ks.take c)).1 < l.length by omega)
    have b11 := b1.1
    have b12 := b1.2
    have b21 := b2.1
    have b22 := b2.2
    have s1 : Seg (l.flatMap fI) (s * 1) (fI (g l s)) := flat_seg (f := fI) (fun _ => rfl) (g_get (by omega))
    have s2 : Seg (l.flatMap fI) ((s + (many (ks.take c)).1) * 1) (fI (g l (s + (many (ks.take c)).1))) := flat_seg (f := fI) (fun _ => rfl) (g_get (by omega))
    have p1 := (wayM_bd c _ _ 0 hok).2
    have p1' : 2 ^ (many ks).2 ≤ 2 ^ 10 := Nat.pow_le_pow_right (by decide) hn10
    have p2 := fac_le (show (cnt ks s).sum ≤ 10 by omega)
    have p3 := fac_le (show (many ks).2 - (cnt ks s).sum - 1 ≤ 10 by omega)
    have q1 : wayM c 0 ks (cnt ks s) * fac (cnt ks s).sum ≤ 1024 * 3628800 := Nat.mul_le_mul (Nat.le_trans p1 p1') p2.2
    have q2 : wgM ks c s ≤ 1024 * 3628800 * 3628800 := Nat.mul_le_mul q1 p3.2
    have e1 : ((wayM c 0 ks (cnt ks s) : Nat) : Int) * ((fac (cnt ks s).sum : Nat) : Int) = ((wayM c 0 ks (cnt ks s) * fac (cnt ks s).sum : Nat) : Int) := (Int.natCast_mul _ _).symm
    have e2 : ((wayM c 0 ks (cnt ks s) * fac (cnt ks s).sum : Nat) : Int) * ((fac ((many ks).2 - (cnt ks s).sum - 1) : Nat) : Int) = ((wgM ks c s : Nat) : Int) := (Int.natCast_mul _ _).symm
    clear p1 p1'
    have cc2 := fun {W : World} (_ : Ext w1 W) => c_factorial (w0 := W) (n := (cnt ks s).sum) (by omega)
    have cc3 := fun {W : World} (_ : Ext w1 W) => c_factorial (w0 := W) (n := (many ks).2 - (cnt ks s).sum - 1) (by omega)
    rw [show (((many ks).2 - (cnt ks s).sum - 1 : Nat) : Int) = ((many ks).2 : Int) - ((cnt ks s).sum : Nat) - 1 by omega] at cc3
    have cc4 := fun {W : World} (_ : Ext w1 W) => c_factorial (w0 := W) (n := (many ks).2) (by omega)
    have cc5 := fun {W : World} (_ : Ext w1 W) => c_fadd25 (w0 := W) (n := (many ks).2) (by omega) hps hty
    rw [← e2, ← e1] at cc5
    refine leS (hs.hp h) ?_
    refine Bn_ltF (by omega) (If_F ?_)
    replace h := h.dr
    refine dlA h 0 rfl rfl ?_
    refine Dv_ad (by omega) (by omega) (diHz h ‹_› (by omega) (by omega) fun zb zo zk zv zc => ?_)
    refine dh0 h ‹_› ‹_› (by rfl) ?_
    refine diH h ‹_› (by omega) fun zb zo zk zv zc => ?_
    refine dh0 h ‹_› ‹_› (by rfl) ?_
    refine Dv_su (by omega) (by omega) (Dv_su (by omega) (by omega) (Dv_su (by omega) (by omega) (cl1 h n_ref25_factorial (cc2 h.ext) fun w h => ?_)))
    refine klA h 0 rfl rfl ?_
    refine kh0 h ‹_› ‹_› (by rfl) ?_
    refine kh0 h ‹_› ‹_› (by rfl) ?_
    refine Dv_mu (by omega) (by omega) (cl1 h n_ref25_factorial (cc3 h.ext) fun w h => ?_)
    refine klA h 0 rfl rfl ?_
    refine kh0 h ‹_› ‹_› (by rfl) ?_
    refine kh0 h ‹_› ‹_› (by rfl) ?_
    refine dvBx (fun w K hk => Bn_mu (by rw [e1, e2]; omega) (by rw [e1, e2]; omega) hk) ?_
    refine cl1 h n_ref25_factorial (cc4 h.ext) fun w h => ?_
    refine klA h 0 rfl rfl ?_
    refine kh0 h ‹_› ‹_› (by rfl) ?_
    refine kh0 h ‹_› ‹_› (by rfl) ?_
    refine cl1 h n_ref25_add (cc5 h.ext) fun w h => ?_
    refine stA h 0 rfl rfl rfl rfl fun w h => ?_
    refine Bn_ad (by omega) (by omega) ?_
    dsimp only [List.set] at h
    exact ⟨⟨s + 1, by omega, rfl, by rw [cMM_0 he]; exact h⟩, by show vsc.length - ((s : Int) + 1).toNat < vsc.length - (s : Int).toNat; omega⟩
  ·have e : cMM ks c s = (tmM ks l c).length := by rw [tmM_len, show s = (many ks).1 by omega]
   rw [e, List.take_length, shrM_mn] at h
   have es := many_sn (ks.take c) (ks.getD c 0)
   rw [← take_snoc ekc] at es
   have hmu : (((many (ks.take c)).1 : Nat) : Int) * ((ks.getD c 0 : Nat) + 1) = (((many (ks.take (c + 1))).1 : Nat) : Int) := by
    rw [es]
    show _ = (((many (ks.take c)).1 * (ks.getD c 0 + 1) : Nat) : Int)
    rw [Int.natCast_mul]; rfl
   have hm3 := many_take ks (c + 1)
   clear es
   refine leS (hu.hp h) ?_
   refine Bn_ltF (by omega) (If_F (ldA h 0 rfl rfl ?_))
   refine bs1A h (by rfl) (by decide) (by rfl) (by decide) fun v1 w h => ?_
   refine apR (by rfl) (by decide) h 2 rfl (qZ 0 h rfl) (by first | rfl | assumption) (by omega) fun v2 w h => ?_
   refine iaH h ‹_› (by omega) fun zb zo zk zv zc => ?_
   refine lh0 h ‹_› ‹_› (by rfl) ?_
   refine Bn_ad (by omega) (by omega) (Bn_mu (by omega) (by omega) (Bn_ad (by omega) (by omega) ?_))
   dsimp only [List.set] at h
   refine ⟨⟨c + 1, by omega, rfl, by rw [hmu], ?_⟩, by show ks.length - ((c : Int) + 1).toNat < ks.length - (c : Int).toNat; omega⟩
   rw [shrsM_snoc]
   exact h.pick [2] (by decide) rfl
 ·have e : c = ks.length := by omega
  subst e
  refine leS (hs.hp h) ?_
  refine Bn_ltF (by omega) (If_F ?_)
  exact Ret.mk ⟨_, rfl, ((Hp.init [] w0).x x1).cat1 h ro_sm⟩
end
end Go.Proofs.YthjhkpefammjkaaGreatDoor
