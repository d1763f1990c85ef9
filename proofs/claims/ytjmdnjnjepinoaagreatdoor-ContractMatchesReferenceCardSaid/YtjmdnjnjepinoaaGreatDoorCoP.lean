/-
  Contracts and plain lemmas. By an AI agent.
-/
import Derived.Test.YtjmdnjnjepinoaaGreatDoorCoL
set_option linter.unusedSimpArgs false
set_option linter.unusedVariables false
set_option linter.unusedSectionVars false
namespace Go.Proofs.YtjmdnjnjepinoaaGreatDoor
open Go Go.Eng Go.Proofs Go.Num Go.RowKit
set_option maxRecDepth 100000
theorem duesL_len (r : Int) : ∀ (l : List Int) (k : Nat), (duesL r k l).length ≤ l.length
 | [], k => by simp [duesL]
 | n :: l, k => by
  have := duesL_len r l (k + 1)
  unfold duesL
  split
  ·simp; omega
  ·simp; omega
theorem prev_seg {l : List LE} {j : Nat} {e : LE} (h : l[j - 1]? = some e) : Seg (l.flatMap fL) (((j : Int) - 1).toNat * 3) (fL e) := by
 have : ((j : Int) - 1).toNat = j - 1 := by omega
 rw [this]
 exact flat_seg (f := fL) (fun _ => rfl) h
theorem sh_nil {l : List RS} (h : l = []) : l.length = 0 := by rw [h]; rfl
theorem sh_cons {l : List RS} (h : l ≠ []) : 0 < l.length := List.length_pos_iff.2 h
theorem OkO.step {l : List LE} {j : Nat} {e : LE} (h : OkO (l.take j)) (he : l[j]? = some e) (hr : 0 ≤ e.rq ∧ e.rq ≤ 999) (hp : ∀ a, 0 < j → l[j - 1]? = some a → a.rq < e.rq) : OkO (l.take (j + 1)) := by
 rw [take_snoc he]
 have hj : j < l.length := (List.getElem?_eq_some_iff.1 he).1
 refine h.snoc hr fun a ha => ?_
 rw [take_len (by omega), List.getElem?_take] at ha
 by_cases h0 : 0 < j
 ·rw [if_pos (by omega)] at ha
  exact hp a h0 ha
 ·rw [if_neg (by omega)] at ha; cases ha
theorem billE_len {q : Int × LE} {D : List Du} (h : billE q = some D) : D.length ≤ 4 := by
 unfold billE at h
 split at h
 ·split at h
  ·cases h; decide
  ·cases h
 ·rcases hs : splO q.1 q.2.sh with _ | t
  ·rw [hs] at h; cases h
  ·rw [hs] at h
   simp only [Option.bind_some] at h
   split at h
   ·next h4 =>
    have e := Option.some.inj h
    have := duesL_len q.2.rq t 0
    rw [← e]; omega
   ·cases h
theorem flat_nil {D : List (List Du)} : (D ++ [[]]).flatten = D.flatten := by simp
theorem flat_one {D : List (List Du)} {x : List Du} : (D ++ [x]).flatten = D.flatten ++ x := by simp
theorem flat_le : ∀ {l : List (Int × LE)} {D : List (List Du)}, allO billE l = some D → D.flatten.length ≤ 4 * l.length
 | [], D, h => by cases h; decide
 | x :: l, D, h => by
  unfold allO at h
  split at h
  ·next e' r' h1 h2 =>
   cases h
   have := flat_le h2
   have := billE_len h1
   rw [List.flatten_cons, List.length_append, List.length_cons]; omega
  ·cases h
section
variable {w0 : World} {c : CT} {v : Value} {l : List LE} (hc : CTk c) (hv : SlC w0 3 v l.length (l.flatMap fL)) (hs : ∀ e ∈ l, SlC w0 2 (.slice e.a e.n e.k) e.sh.length (e.sh.flatMap fR)) (hk : ∀ e ∈ l, LEk e) (hll : l.length ≤ 1000)
include hc hv hs hk hll
set_option maxHeartbeats 16000000 in
theorem c_Bill (he0 : En w0) : Calls Tryz.prog 18 #[vC c, v] w0 (Ret (BilR w0 (bilO c l))) := by
 have hI : ∀ y ∈ l.map (·.lt), I64 y := fun y hy => by
  obtain ⟨e, he, rfl⟩ := List.mem_map.1 hy
  exact (hk e he).lt
 have hlm : (l.map (·.lt)).length = l.length := List.length_map ..
 obtain ⟨o, ho⟩ : ∃ o, bilO c l = o := ⟨_, rfl⟩
 rcases hpen : penO c (l.map (·.lt)) with _ | pen
 ·have hou : o = none := ho ▸ bilO_n1 hpen
  rw [ho]
  apply e_contract_Bill
  unfold s_contract_Bill
  have h := Hp.init [] w0
  refine bxA h fun g1 w h => ?_
  refine Cl_i n_contract_each_api_Late_int (c_eachL (hv.hp h) (by omega)) ?_
  rintro r w' hr
  have h := h.cat1 hr ro_sm
  refine ldA h 1 rfl rfl ?_
  refine Cl_i n_contract_Penalties (hpen ▸ c_Penalties hc (hlm ▸ h.sl (i := 0) rfl) hI (by omega) (he0.ext h.ext)) ?_
  rintro _ w' ⟨rfl, x⟩
  have h := h.x x
  refine Ex2 (Bn_neT (by omega) (If_T ?_))
  exact Ret.mk (by rw [hou]; exact ⟨rfl, h.ext⟩)
 have hpb := penO_bd hpen
 have hpl := hpb.1
 rw [hlm] at hpl
 rw [ho]
 apply e_contract_Bill
 unfold s_contract_Bill
 have h := Hp.init [] w0
 refine bxA h fun g1 w h => ?_
 refine Cl_i n_contract_each_api_Late_int (c_eachL (hv.hp h) (by omega)) ?_
 rintro r w' hr
 have h := h.cat1 hr ro_sm
 refine ldA h 1 rfl rfl ?_
 refine Cl_i n_contract_Penalties (hpen ▸ c_Penalties hc (hlm ▸ h.sl (i := 0) rfl) hI (by omega) (he0.ext h.ext)) ?_
 rintro _ w' ⟨pv, rfl, h2⟩
 have h := (h.cat1 h2 ro_sm).nil tD 3
 refine Ex2 (Bn_neF (by omega) (If_F (leS (hv.hp h) ?_)))
 refine Lp2.mk (fun u i W => ∃ (j n : Nat) (D : List (List Du)), j ≤ l.length ∧ i = .int .i64 j ∧ OkO (l.take j) ∧ allO billE ((pen.zip l).take j) = some D ∧ n = D.flatten.length ∧ Hp [] w0 W [ro tD 3 u n (D.flatten.flatMap fU), ro tI 1 pv pen.length (pen.flatMap fI)])
  (fun _ i _ => match i with | .int _ i' => l.length - i'.toNat | _ => 0) ⟨0, 0, [], by omega, rfl, OkO.nil, rfl, rfl, h.pick [0, 1] (by decide) rfl⟩ ?_
 clear h
 rintro u _ W ⟨j, n, D, hj, rfl, hok, hD, hn, h⟩
 have hDl := flat_le hD
 have hzt : ((pen.zip l).take j).length ≤ j := by rw [List.length_take]; omega
 by_cases hjl : j < l.length
 rotate_left
 ·have hjl' : j = l.length := by omega
  rw [List.take_of_length_le (by omega)] at hok
  rw [List.take_of_length_le (by rw [List.length_zip]; omega)] at hD
  have hou : o = some D.flatten := ho ▸ bilO_y hpen hok hD
  refine Bn_ltF (by omega) (If_F ?_)
  exact Ret.mk (by rw [hou]; exact ⟨u, rfl, by rw [← hn]; exact h.pick [0] (by decide) rfl⟩)
 refine Exists.elim (p := fun x => l[j]? = some x) ⟨_, List.getElem?_eq_getElem hjl⟩ fun e he => ?_
 refine Exists.elim (p := fun x => pen[j]? = some x) ⟨_, List.getElem?_eq_getElem (by omega)⟩ fun p hp => ?_
 have sx : Seg (l.flatMap fL) (j * 3) (fL e) := flat_seg (f := fL) (fun _ => rfl) he
 have sp : Seg (pen.flatMap fI) (j * 1) (fI p) := flat_seg (f := fI) (fun _ => rfl) hp
 have hem := List.mem_of_getElem? he
 have hek := hk e hem
 have hsh := hs e hem
 have hpb' := hpb.2 p (List.mem_of_getElem? hp)
 have hr1 := hek.rq
 have hr2 := hek.lt
 have hr3 := hek.sl
 by_cases hrq : 0 ≤ e.rq ∧ e.rq ≤ 999
 rotate_left
 ·have hou : o = none := ho ▸ bilO_n2 (fun h => hrq (h.rg e hem))
  have cc1 := fun {W : World} (_ : Ext w0 W) => c_inF (w := W) hrq
  refine Bn_ltT (by omega) (If_T (iaH h ‹_› (by omega) fun zb zo zk zv zc => ?_))
  refine lhA h ‹_› ‹_› (by rfl) ?_
  refine alS h fun g2 w h => ?_
  refine stA h 0 rfl rfl rfl rfl fun w h => ?_
  replace h := h.dr
  refine dfS (dl1 h 0 rfl rfl (cl1 h n_contract_in (cc1 h.ext) fun w h => ?_))
  refine Dv_nF (GdP_TF (GdP_TF (GdP_TF (GdP_U (GdP_U (GdP_U (GdP_U (GdP_U (GdP_U (GdP_U (GdP_U (GdP_U (GdP_TF (PickP_T (GdP_TF (GdP_TF (GdP_TF (GdP_TF (GdP_U (GdP_U (GdP_U (GdP_U (GdP_TF (PickP_T (If_T ?_)))))))))))))))))))))))))
  dsimp only [List.set] at h
  exact Ret.mk (by rw [hou]; exact ⟨rfl, h.ext⟩)
 have cc1 := fun {W : World} (_ : Ext w0 W) => c_inT (w := W) hrq
 by_cases hj0 : 0 < j
 rotate_left
 ·have hok' := hok.step he hrq (fun a h => absurd h hj0)
  by_cases h0 : e.lt = 0
  ·by_cases hsn : e.sh = []
   ·have hsl := sh_nil hsn
    have hb := allO_snoc hD (billE_0 (p := p) h0 hsn)
    rw [← zip_take hp he] at hb
    refine Bn_ltT (by omega) (If_T (iaH h ‹_› (by omega) fun zb zo zk zv zc => ?_))
    refine lhA h ‹_› ‹_› (by rfl) ?_
    refine alS h fun g2 w h => ?_
    refine stA h 0 rfl rfl rfl rfl fun w h => ?_
    replace h := h.dr
    refine dfS (dl1 h 0 rfl rfl (cl1 h n_contract_in (cc1 h.ext) fun w h => ?_))
    refine Dv_nT (GdP_F (GdP_F (Dv_gtF (by omega) (GdP_F (GdP_FT (GdP_FT (GdP_FT (GdP_FT (GdP_FT (GdP_FT (GdP_FT (GdP_FT (GdP_FT (GdP_F (PickP_F (PickP_F (GdP_F (dfS (GdP_F (dl1 h 0 rfl rfl (GdP_F (Dv_eqT (by omega) (GdP_F (GdP_T (dfS (GdP_T (dl1 h 0 rfl rfl (GdP_T (dlS (hsh.hp h) ?_)))))))))))))))))))))))))))))
    refine GdP_T (Dv_gtF (by omega) (GdP_F (PickP_T (PickP_F (If_F (faS (Eng.ld1 h 0 rfl rfl (Bn_eqT (by omega) (If_T (Bn_ad (by omega) (by omega) ?_))))))))))
    dsimp only [List.set] at h
    exact ⟨⟨j + 1, n, D ++ [[]], by omega, rfl, hok', hb, by rw [flat_nil]; exact hn, by rw [flat_nil]; exact h.pick [1, 2] (by decide) rfl⟩, by show l.length - ((j : Int) + 1).toNat < l.length - (j : Int).toNat; omega⟩
   ·have hsl := sh_cons hsn
    have hou : o = none := ho ▸ bilO_n3 hpen (List.mem_of_getElem? (zip_get hp he)) (billE_0n h0 hsn)
    refine Bn_ltT (by omega) (If_T (iaH h ‹_› (by omega) fun zb zo zk zv zc => ?_))
    refine lhA h ‹_› ‹_› (by rfl) ?_
    refine alS h fun g2 w h => ?_
    refine stA h 0 rfl rfl rfl rfl fun w h => ?_
    replace h := h.dr
    refine dfS (dl1 h 0 rfl rfl (cl1 h n_contract_in (cc1 h.ext) fun w h => ?_))
    refine Dv_nT (GdP_F (GdP_F (Dv_gtF (by omega) (GdP_F (GdP_FT (GdP_FT (GdP_FT (GdP_FT (GdP_FT (GdP_FT (GdP_FT (GdP_FT (GdP_FT (GdP_F (PickP_F (PickP_F (GdP_F (dfS (GdP_F (dl1 h 0 rfl rfl (GdP_F (Dv_eqT (by omega) (GdP_F (GdP_T (dfS (GdP_T (dl1 h 0 rfl rfl (GdP_T (dlS (hsh.hp h) ?_)))))))))))))))))))))))))))))
    refine GdP_T (Dv_gtT (by omega) (GdP_F (PickP_T (PickP_F (If_T ?_)))))
    dsimp only [List.set] at h
    exact Ret.mk (by rw [hou]; exact ⟨rfl, h.ext⟩)
  refine (oc (splO p e.sh)).elim (fun hsp => ?_) fun ht => Exists.elim ht fun t hsp => ?_
  ·have hou : o = none := ho ▸ bilO_n3 hpen (List.mem_of_getElem? (zip_get hp he)) (billE_n h0 hsp)
   refine Bn_ltT (by omega) (If_T (iaH h ‹_› (by omega) fun zb zo zk zv zc => ?_))
   refine lhA h ‹_› ‹_› (by rfl) ?_
   refine alS h fun g2 w h => ?_
   refine stA h 0 rfl rfl rfl rfl fun w h => ?_
   replace h := h.dr
   refine dfS (dl1 h 0 rfl rfl (cl1 h n_contract_in (cc1 h.ext) fun w h => ?_))
   refine Dv_nT (GdP_F (GdP_F (Dv_gtF (by omega) (GdP_F (GdP_FT (GdP_FT (GdP_FT (GdP_FT (GdP_FT (GdP_FT (GdP_FT (GdP_FT (GdP_FT (GdP_F (PickP_F (PickP_F (GdP_F (dfS (GdP_F (dl1 h 0 rfl rfl (GdP_F (Dv_eqF (by omega) (GdP_F (GdP_FT (GdP_FT (GdP_FT (GdP_FT (GdP_F (PickP_F (PickP_F (If_F (faS (Eng.ld1 h 0 rfl rfl (Bn_eqF (by omega) (If_F ?_)))))))))))))))))))))))))))))))))))
   replace h := h.dr
   refine diR h 2 rfl (by omega) fun zg zk zv => ?_
   refine dr0 h 2 rfl ‹_› ‹_› (by rfl) ?_
   refine dfS (dl1 h 0 rfl rfl ?_)
   dsimp only [List.set] at h
   refine Cl_i n_contract_Split (hsp ▸ c_Split (a := p) (hsh.hp h) hek.sh hek.sl (by omega) (he0.ext h.ext)) ?_
   rintro _ w' ⟨rfl, x⟩
   have h := h.x x
   refine ExP2 (Bn_neT (by omega) (Gd_TF (Gd_TF (Gd_TF (Pick_T (If_T ?_))))))
   exact Ret.mk (by rw [hou]; exact ⟨rfl, h.ext⟩)
  have htl := splO_len hsp
  have htb := splO_bd hsp
  by_cases h4 : t.length = 4
  rotate_left
  ·have hou : o = none := ho ▸ bilO_n3 hpen (List.mem_of_getElem? (zip_get hp he)) (billE_4 h0 hsp h4)
   refine Bn_ltT (by omega) (If_T (iaH h ‹_› (by omega) fun zb zo zk zv zc => ?_))
   refine lhA h ‹_› ‹_› (by rfl) ?_
   refine alS h fun g2 w h => ?_
   refine stA h 0 rfl rfl rfl rfl fun w h => ?_
   replace h := h.dr
   refine dfS (dl1 h 0 rfl rfl (cl1 h n_contract_in (cc1 h.ext) fun w h => ?_))
   refine Dv_nT (GdP_F (GdP_F (Dv_gtF (by omega) (GdP_F (GdP_FT (GdP_FT (GdP_FT (GdP_FT (GdP_FT (GdP_FT (GdP_FT (GdP_FT (GdP_FT (GdP_F (PickP_F (PickP_F (GdP_F (dfS (GdP_F (dl1 h 0 rfl rfl (GdP_F (Dv_eqF (by omega) (GdP_F (GdP_FT (GdP_FT (GdP_FT (GdP_FT (GdP_F (PickP_F (PickP_F (If_F (faS (Eng.ld1 h 0 rfl rfl (Bn_eqF (by omega) (If_F ?_)))))))))))))))))))))))))))))))))))
   replace h := h.dr
   refine diR h 2 rfl (by omega) fun zg zk zv => ?_
   refine dr0 h 2 rfl ‹_› ‹_› (by rfl) ?_
   refine dfS (dl1 h 0 rfl rfl ?_)
   dsimp only [List.set] at h
   refine Cl_i n_contract_Split (hsp ▸ c_Split (a := p) (hsh.hp h) hek.sh hek.sl (by omega) (he0.ext h.ext)) ?_
   rintro _ w' ⟨vt, rfl, h2⟩
   have h := h.cat1 h2 ro_sm
   refine ExP2 (Bn_neF (by omega) (Gd_F (Gd_F (leS (qZ 0 h rfl) ?_))))
   refine Gd_F (Bn_neT (by omega) (Pick_F (If_T ?_)))
   exact Ret.mk (by rw [hou]; exact ⟨rfl, h.ext⟩)
  have hb := allO_snoc hD (billE_y (p := p) h0 hsp h4)
  rw [← zip_take hp he] at hb
  refine Bn_ltT (by omega) (If_T (iaH h ‹_› (by omega) fun zb zo zk zv zc => ?_))
  refine lhA h ‹_› ‹_› (by rfl) ?_
  refine alS h fun g2 w h => ?_
  refine stA h 0 rfl rfl rfl rfl fun w h => ?_
  replace h := h.dr
  refine dfS (dl1 h 0 rfl rfl (cl1 h n_contract_in (cc1 h.ext) fun w h => ?_))
  refine Dv_nT (GdP_F (GdP_F (Dv_gtF (by omega) (GdP_F (GdP_FT (GdP_FT (GdP_FT (GdP_FT (GdP_FT (GdP_FT (GdP_FT (GdP_FT (GdP_FT (GdP_F (PickP_F (PickP_F (GdP_F (dfS (GdP_F (dl1 h 0 rfl rfl (GdP_F (Dv_eqF (by omega) (GdP_F (GdP_FT (GdP_FT (GdP_FT (GdP_FT (GdP_F (PickP_F (PickP_F (If_F (faS (Eng.ld1 h 0 rfl rfl (Bn_eqF (by omega) (If_F ?_)))))))))))))))))))))))))))))))))))
  replace h := h.dr
  refine diR h 2 rfl (by omega) fun zg zk zv => ?_
  refine dr0 h 2 rfl ‹_› ‹_› (by rfl) ?_
  refine dfS (dl1 h 0 rfl rfl ?_)
  dsimp only [List.set] at h
  refine Cl_i n_contract_Split (hsp ▸ c_Split (a := p) (hsh.hp h) hek.sh hek.sl (by omega) (he0.ext h.ext)) ?_
  rintro _ w' ⟨vt, rfl, h2⟩
  have h := h.cat1 h2 ro_sm
  refine ExP2 (Bn_neF (by omega) (Gd_F (Gd_F (leS (qZ 0 h rfl) ?_))))
  refine Gd_F (Bn_neF (by omega) (Pick_F (If_F (leS (qZ 0 h rfl) ?_))))
  refine Lp2.mk (fun u' i W => ∃ (k m : Nat), k ≤ 4 ∧ m ≤ k ∧ i = .int .i64 k ∧ m = (duesL e.rq 0 (t.take k)).length ∧ Hp [] w0 W [ro tI 1 vt t.length (t.flatMap fI), bx g2 31 (fL e), ro tD 3 u' (n + m) ((D.flatten ++ duesL e.rq 0 (t.take k)).flatMap fU), ro tI 1 pv pen.length (pen.flatMap fI)])
   (fun _ i _ => match i with | .int _ i' => 4 - i'.toNat | _ => 0) ⟨0, 0, by omega, by omega, rfl, by simp [duesL], by simpa [duesL] using h.pick [0, 1, 2, 3] (by decide) rfl⟩ ?_
  clear h
  rintro u' _ W ⟨k, m, hk4, hmk, rfl, hm, h⟩
  by_cases hkl : k < 4
  ·refine Exists.elim (p := fun x => t[k]? = some x) ⟨_, List.getElem?_eq_getElem (by omega)⟩ fun y hy => ?_
   have sy : Seg (t.flatMap fI) (k * 1) (fI y) := flat_seg (f := fI) (fun _ => rfl) hy
   have hyb := htb y (List.mem_of_getElem? hy)
   have hy1 := hyb.1
   have hy2 := hyb.2
   have hds := duesL_snoc e.rq y (t.take k) 0
   rw [← take_snoc hy, take_len (by omega), Nat.zero_add] at hds
   by_cases hy0 : 0 < y
   ·rw [if_pos hy0] at hds
    refine Bn_ltT (by omega) (If_T (iaR h 0 rfl (by omega) fun zg zk zv => ?_))
    refine lr0 h 0 rfl ‹_› ‹_› (by rfl) ?_
    refine Bn_gtT (by omega) (If_T (faS (Eng.ld1 h 1 rfl rfl (bdS (PC.cons (by rfl) (PC.cons (by rfl) (PC.cons (by rfl) PC.nil))) (by rfl) ?_))))
    refine bs1A h (by rfl) (by decide) (by rfl) (by decide) fun v1 w h => ?_
    refine apR (by rfl) (by decide) h 3 rfl (qZ 0 h rfl) (by first | rfl | assumption) (by omega) fun v2 w h => ?_
    refine Bn_ad (by omega) (by omega) ?_
    dsimp only [List.set] at h
    refine ⟨⟨k + 1, m + 1, by omega, by omega, rfl, by rw [hds, List.length_append, ← hm]; rfl, ?_⟩, by show 4 - ((k : Int) + 1).toNat < 4 - (k : Int).toNat; omega⟩
    rw [hds, ← List.append_assoc, List.flatMap_append]
    exact h.pick [1, 2, 3, 4] (by decide) rfl
   ·rw [if_neg hy0, List.append_nil] at hds
    refine Bn_ltT (by omega) (If_T (iaR h 0 rfl (by omega) fun zg zk zv => ?_))
    refine lr0 h 0 rfl ‹_› ‹_› (by rfl) ?_
    refine Bn_gtF (by omega) (If_F (Bn_ad (by omega) (by omega) ?_))
    exact ⟨⟨k + 1, m, by omega, by omega, rfl, by rw [hds, ← hm], by rw [hds]; exact h⟩, by show 4 - ((k : Int) + 1).toNat < 4 - (k : Int).toNat; omega⟩
  have hk' : k = 4 := by omega
  subst hk'
  rw [List.take_of_length_le (by omega)] at h hm
  refine Bn_ltF (by omega) (If_F (Bn_ad (by omega) (by omega) ?_))
  exact ⟨⟨j + 1, n + m, D ++ [duesL e.rq 0 t], by omega, rfl, hok', hb, by rw [flat_one, List.length_append, ← hn, ← hm], by rw [flat_one]; exact h.pick [2, 3] (by decide) rfl⟩, by show l.length - ((j : Int) + 1).toNat < l.length - (j : Int).toNat; omega⟩
 refine Exists.elim (p := fun x => l[j - 1]? = some x) ⟨_, List.getElem?_eq_getElem (by omega)⟩ fun e1 he1 => ?_
 have sx1 := prev_seg he1
 by_cases hup : e1.rq < e.rq
 rotate_left
 ·have hou : o = none := ho ▸ bilO_n2 (OkO.bad (j := j - 1) he1 (by rw [Nat.sub_add_cancel hj0]; exact he) hup)
  refine Bn_ltT (by omega) (If_T (iaH h ‹_› (by omega) fun zb zo zk zv zc => ?_))
  refine lhA h ‹_› ‹_› (by rfl) ?_
  refine alS h fun g2 w h => ?_
  refine stA h 0 rfl rfl rfl rfl fun w h => ?_
  replace h := h.dr
  refine dfS (dl1 h 0 rfl rfl (cl1 h n_contract_in (cc1 h.ext) fun w h => ?_))
  refine Dv_nT (GdP_F (GdP_F (Dv_gtT (by omega) (GdP_F (GdP_T (GdP_T (GdP_T (Dv_su (by omega) (by omega) (GdP_T (diHz h ‹_› (by omega) (by omega) fun zb zo zk zv zc => ?_))))))))))
  refine GdP_T (dfS (GdP_T (dh1 h ‹_› ‹_› (by rfl) ?_)))
  refine GdP_T (dfS (GdP_T (dl1 h 0 rfl rfl (GdP_T (Dv_geT (by omega) (GdP_F (PickP_T (PickP_F (GdP_TF (GdP_TF (GdP_TF (GdP_TF (GdP_U (GdP_U (GdP_U (GdP_U (GdP_TF (PickP_T (If_T ?_)))))))))))))))))))
  dsimp only [List.set] at h
  exact Ret.mk (by rw [hou]; exact ⟨rfl, h.ext⟩)
 have hok' := hok.step he hrq (fun a _ ha => by rw [he1] at ha; cases ha; exact hup)
 by_cases h0 : e.lt = 0
 ·by_cases hsn : e.sh = []
  ·have hsl := sh_nil hsn
   have hb := allO_snoc hD (billE_0 (p := p) h0 hsn)
   rw [← zip_take hp he] at hb
   refine Bn_ltT (by omega) (If_T (iaH h ‹_› (by omega) fun zb zo zk zv zc => ?_))
   refine lhA h ‹_› ‹_› (by rfl) ?_
   refine alS h fun g2 w h => ?_
   refine stA h 0 rfl rfl rfl rfl fun w h => ?_
   replace h := h.dr
   refine dfS (dl1 h 0 rfl rfl (cl1 h n_contract_in (cc1 h.ext) fun w h => ?_))
   refine Dv_nT (GdP_F (GdP_F (Dv_gtT (by omega) (GdP_F (GdP_T (GdP_T (GdP_T (Dv_su (by omega) (by omega) (GdP_T (diHz h ‹_› (by omega) (by omega) fun zb zo zk zv zc => ?_))))))))))
   refine GdP_T (dfS (GdP_T (dh1 h ‹_› ‹_› (by rfl) ?_)))
   refine GdP_T (dfS (GdP_T (dl1 h 0 rfl rfl (GdP_T (Dv_geF (by omega) (GdP_F (PickP_T (PickP_F (GdP_F (dfS (GdP_F (dl1 h 0 rfl rfl (GdP_F (Dv_eqT (by omega) (GdP_F (GdP_T (dfS (GdP_T (dl1 h 0 rfl rfl (GdP_T (dlS (hsh.hp h) ?_)))))))))))))))))))))
   refine GdP_T (Dv_gtF (by omega) (GdP_F (PickP_T (PickP_F (If_F (faS (Eng.ld1 h 0 rfl rfl (Bn_eqT (by omega) (If_T (Bn_ad (by omega) (by omega) ?_))))))))))
   dsimp only [List.set] at h
   exact ⟨⟨j + 1, n, D ++ [[]], by omega, rfl, hok', hb, by rw [flat_nil]; exact hn, by rw [flat_nil]; exact h.pick [1, 2] (by decide) rfl⟩, by show l.length - ((j : Int) + 1).toNat < l.length - (j : Int).toNat; omega⟩
  ·have hsl := sh_cons hsn
   have hou : o = none := ho ▸ bilO_n3 hpen (List.mem_of_getElem? (zip_get hp he)) (billE_0n h0 hsn)
   refine Bn_ltT (by omega) (If_T (iaH h ‹_› (by omega) fun zb zo zk zv zc => ?_))
   refine lhA h ‹_› ‹_› (by rfl) ?_
   refine alS h fun g2 w h => ?_
   refine stA h 0 rfl rfl rfl rfl fun w h => ?_
   replace h := h.dr
   refine dfS (dl1 h 0 rfl rfl (cl1 h n_contract_in (cc1 h.ext) fun w h => ?_))
   refine Dv_nT (GdP_F (GdP_F (Dv_gtT (by omega) (GdP_F (GdP_T (GdP_T (GdP_T (Dv_su (by omega) (by omega) (GdP_T (diHz h ‹_› (by omega) (by omega) fun zb zo zk zv zc => ?_))))))))))
   refine GdP_T (dfS (GdP_T (dh1 h ‹_› ‹_› (by rfl) ?_)))
   refine GdP_T (dfS (GdP_T (dl1 h 0 rfl rfl (GdP_T (Dv_geF (by omega) (GdP_F (PickP_T (PickP_F (GdP_F (dfS (GdP_F (dl1 h 0 rfl rfl (GdP_F (Dv_eqT (by omega) (GdP_F (GdP_T (dfS (GdP_T (dl1 h 0 rfl rfl (GdP_T (dlS (hsh.hp h) ?_)))))))))))))))))))))
   refine GdP_T (Dv_gtT (by omega) (GdP_F (PickP_T (PickP_F (If_T ?_)))))
   dsimp only [List.set] at h
   exact Ret.mk (by rw [hou]; exact ⟨rfl, h.ext⟩)
 refine (oc (splO p e.sh)).elim (fun hsp => ?_) fun ht => Exists.elim ht fun t hsp => ?_
 ·have hou : o = none := ho ▸ bilO_n3 hpen (List.mem_of_getElem? (zip_get hp he)) (billE_n h0 hsp)
  refine Bn_ltT (by omega) (If_T (iaH h ‹_› (by omega) fun zb zo zk zv zc => ?_))
  refine lhA h ‹_› ‹_› (by rfl) ?_
  refine alS h fun g2 w h => ?_
  refine stA h 0 rfl rfl rfl rfl fun w h => ?_
  replace h := h.dr
  refine dfS (dl1 h 0 rfl rfl (cl1 h n_contract_in (cc1 h.ext) fun w h => ?_))
  refine Dv_nT (GdP_F (GdP_F (Dv_gtT (by omega) (GdP_F (GdP_T (GdP_T (GdP_T (Dv_su (by omega) (by omega) (GdP_T (diHz h ‹_› (by omega) (by omega) fun zb zo zk zv zc => ?_))))))))))
  refine GdP_T (dfS (GdP_T (dh1 h ‹_› ‹_› (by rfl) ?_)))
  refine GdP_T (dfS (GdP_T (dl1 h 0 rfl rfl (GdP_T (Dv_geF (by omega) (GdP_F (PickP_T (PickP_F (GdP_F (dfS (GdP_F (dl1 h 0 rfl rfl (GdP_F (Dv_eqF (by omega) (GdP_F (GdP_FT (GdP_FT (GdP_FT (GdP_FT (GdP_F (PickP_F (PickP_F (If_F (faS (Eng.ld1 h 0 rfl rfl (Bn_eqF (by omega) (If_F ?_)))))))))))))))))))))))))))
  replace h := h.dr
  refine diR h 2 rfl (by omega) fun zg zk zv => ?_
  refine dr0 h 2 rfl ‹_› ‹_› (by rfl) ?_
  refine dfS (dl1 h 0 rfl rfl ?_)
  dsimp only [List.set] at h
  refine Cl_i n_contract_Split (hsp ▸ c_Split (a := p) (hsh.hp h) hek.sh hek.sl (by omega) (he0.ext h.ext)) ?_
  rintro _ w' ⟨rfl, x⟩
  have h := h.x x
  refine ExP2 (Bn_neT (by omega) (Gd_TF (Gd_TF (Gd_TF (Pick_T (If_T ?_))))))
  exact Ret.mk (by rw [hou]; exact ⟨rfl, h.ext⟩)
 have htl := splO_len hsp
 have htb := splO_bd hsp
 by_cases h4 : t.length = 4
 rotate_left
 ·have hou : o = none := ho ▸ bilO_n3 hpen (List.mem_of_getElem? (zip_get hp he)) (billE_4 h0 hsp h4)
  refine Bn_ltT (by omega) (If_T (iaH h ‹_› (by omega) fun zb zo zk zv zc => ?_))
  refine lhA h ‹_› ‹_› (by rfl) ?_
  refine alS h fun g2 w h => ?_
  refine stA h 0 rfl rfl rfl rfl fun w h => ?_
  replace h := h.dr
  refine dfS (dl1 h 0 rfl rfl (cl1 h n_contract_in (cc1 h.ext) fun w h => ?_))
  refine Dv_nT (GdP_F (GdP_F (Dv_gtT (by omega) (GdP_F (GdP_T (GdP_T (GdP_T (Dv_su (by omega) (by omega) (GdP_T (diHz h ‹_› (by omega) (by omega) fun zb zo zk zv zc => ?_))))))))))
  refine GdP_T (dfS (GdP_T (dh1 h ‹_› ‹_› (by rfl) ?_)))
  refine GdP_T (dfS (GdP_T (dl1 h 0 rfl rfl (GdP_T (Dv_geF (by omega) (GdP_F (PickP_T (PickP_F (GdP_F (dfS (GdP_F (dl1 h 0 rfl rfl (GdP_F (Dv_eqF (by omega) (GdP_F (GdP_FT (GdP_FT (GdP_FT (GdP_FT (GdP_F (PickP_F (PickP_F (If_F (faS (Eng.ld1 h 0 rfl rfl (Bn_eqF (by omega) (If_F ?_)))))))))))))))))))))))))))
  replace h := h.dr
  refine diR h 2 rfl (by omega) fun zg zk zv => ?_
  refine dr0 h 2 rfl ‹_› ‹_› (by rfl) ?_
  refine dfS (dl1 h 0 rfl rfl ?_)
  dsimp only [List.set] at h
  refine Cl_i n_contract_Split (hsp ▸ c_Split (a := p) (hsh.hp h) hek.sh hek.sl (by omega) (he0.ext h.ext)) ?_
  rintro _ w' ⟨vt, rfl, h2⟩
  have h := h.cat1 h2 ro_sm
  refine ExP2 (Bn_neF (by omega) (Gd_F (Gd_F (leS (qZ 0 h rfl) ?_))))
  refine Gd_F (Bn_neT (by omega) (Pick_F (If_T ?_)))
  exact Ret.mk (by rw [hou]; exact ⟨rfl, h.ext⟩)
 have hb := allO_snoc hD (billE_y (p := p) h0 hsp h4)
 rw [← zip_take hp he] at hb
 refine Bn_ltT (by omega) (If_T (iaH h ‹_› (by omega) fun zb zo zk zv zc => ?_))
 refine lhA h ‹_› ‹_› (by rfl) ?_
 refine alS h fun g2 w h => ?_
 refine stA h 0 rfl rfl rfl rfl fun w h => ?_
 replace h := h.dr
 refine dfS (dl1 h 0 rfl rfl (cl1 h n_contract_in (cc1 h.ext) fun w h => ?_))
 refine Dv_nT (GdP_F (GdP_F (Dv_gtT (by omega) (GdP_F (GdP_T (GdP_T (GdP_T (Dv_su (by omega) (by omega) (GdP_T (diHz h ‹_› (by omega) (by omega) fun zb zo zk zv zc => ?_))))))))))
 refine GdP_T (dfS (GdP_T (dh1 h ‹_› ‹_› (by rfl) ?_)))
 refine GdP_T (dfS (GdP_T (dl1 h 0 rfl rfl (GdP_T (Dv_geF (by omega) (GdP_F (PickP_T (PickP_F (GdP_F (dfS (GdP_F (dl1 h 0 rfl rfl (GdP_F (Dv_eqF (by omega) (GdP_F (GdP_FT (GdP_FT (GdP_FT (GdP_FT (GdP_F (PickP_F (PickP_F (If_F (faS (Eng.ld1 h 0 rfl rfl (Bn_eqF (by omega) (If_F ?_)))))))))))))))))))))))))))
 replace h := h.dr
 refine diR h 2 rfl (by omega) fun zg zk zv => ?_
 refine dr0 h 2 rfl ‹_› ‹_› (by rfl) ?_
 refine dfS (dl1 h 0 rfl rfl ?_)
 dsimp only [List.set] at h
 refine Cl_i n_contract_Split (hsp ▸ c_Split (a := p) (hsh.hp h) hek.sh hek.sl (by omega) (he0.ext h.ext)) ?_
 rintro _ w' ⟨vt, rfl, h2⟩
 have h := h.cat1 h2 ro_sm
 refine ExP2 (Bn_neF (by omega) (Gd_F (Gd_F (leS (qZ 0 h rfl) ?_))))
 refine Gd_F (Bn_neF (by omega) (Pick_F (If_F (leS (qZ 0 h rfl) ?_))))
 refine Lp2.mk (fun u' i W => ∃ (k m : Nat), k ≤ 4 ∧ m ≤ k ∧ i = .int .i64 k ∧ m = (duesL e.rq 0 (t.take k)).length ∧ Hp [] w0 W [ro tI 1 vt t.length (t.flatMap fI), bx g2 31 (fL e), ro tD 3 u' (n + m) ((D.flatten ++ duesL e.rq 0 (t.take k)).flatMap fU), ro tI 1 pv pen.length (pen.flatMap fI)])
  (fun _ i _ => match i with | .int _ i' => 4 - i'.toNat | _ => 0) ⟨0, 0, by omega, by omega, rfl, by simp [duesL], by simpa [duesL] using h.pick [0, 1, 2, 3] (by decide) rfl⟩ ?_
 clear h
 rintro u' _ W ⟨k, m, hk4, hmk, rfl, hm, h⟩
 by_cases hkl : k < 4
 ·refine Exists.elim (p := fun x => t[k]? = some x) ⟨_, List.getElem?_eq_getElem (by omega)⟩ fun y hy => ?_
  have sy : Seg (t.flatMap fI) (k * 1) (fI y) := flat_seg (f := fI) (fun _ => rfl) hy
  have hyb := htb y (List.mem_of_getElem? hy)
  have hy1 := hyb.1
  have hy2 := hyb.2
  have hds := duesL_snoc e.rq y (t.take k) 0
  rw [← take_snoc hy, take_len (by omega), Nat.zero_add] at hds
  by_cases hy0 : 0 < y
  ·rw [if_pos hy0] at hds
   refine Bn_ltT (by omega) (If_T (iaR h 0 rfl (by omega) fun zg zk zv => ?_))
   refine lr0 h 0 rfl ‹_› ‹_› (by rfl) ?_
   refine Bn_gtT (by omega) (If_T (faS (Eng.ld1 h 1 rfl rfl (bdS (PC.cons (by rfl) (PC.cons (by rfl) (PC.cons (by rfl) PC.nil))) (by rfl) ?_))))
   refine bs1A h (by rfl) (by decide) (by rfl) (by decide) fun v1 w h => ?_
   refine apR (by rfl) (by decide) h 3 rfl (qZ 0 h rfl) (by first | rfl | assumption) (by omega) fun v2 w h => ?_
   refine Bn_ad (by omega) (by omega) ?_
   dsimp only [List.set] at h
   refine ⟨⟨k + 1, m + 1, by omega, by omega, rfl, by rw [hds, List.length_append, ← hm]; rfl, ?_⟩, by show 4 - ((k : Int) + 1).toNat < 4 - (k : Int).toNat; omega⟩
   rw [hds, ← List.append_assoc, List.flatMap_append]
   exact h.pick [1, 2, 3, 4] (by decide) rfl
  ·rw [if_neg hy0, List.append_nil] at hds
   refine Bn_ltT (by omega) (If_T (iaR h 0 rfl (by omega) fun zg zk zv => ?_))
   refine lr0 h 0 rfl ‹_› ‹_› (by rfl) ?_
   refine Bn_gtF (by omega) (If_F (Bn_ad (by omega) (by omega) ?_))
   exact ⟨⟨k + 1, m, by omega, by omega, rfl, by rw [hds, ← hm], by rw [hds]; exact h⟩, by show 4 - ((k : Int) + 1).toNat < 4 - (k : Int).toNat; omega⟩
 have hk' : k = 4 := by omega
 subst hk'
 rw [List.take_of_length_le (by omega)] at h hm
 refine Bn_ltF (by omega) (If_F (Bn_ad (by omega) (by omega) ?_))
 exact ⟨⟨j + 1, n + m, D ++ [duesL e.rq 0 t], by omega, rfl, hok', hb, by rw [flat_one, List.length_append, ← hn, ← hm], by rw [flat_one]; exact h.pick [2, 3] (by decide) rfl⟩, by show l.length - ((j : Int) + 1).toNat < l.length - (j : Int).toNat; omega⟩
end
end Go.Proofs.YtjmdnjnjepinoaaGreatDoor
