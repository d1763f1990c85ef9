/-
  Contracts and plain lemmas. By an AI agent.
-/
import Derived.Test.YtjmdnjnjepinoaaGreatDoorCoP
set_option linter.unusedSimpArgs false
set_option linter.unusedVariables false
set_option linter.unusedSectionVars false
namespace Go.Proofs.YtjmdnjnjepinoaaGreatDoor
open Go Go.Eng Go.Proofs Go.Num Go.RowKit
set_option maxRecDepth 100000
theorem bil_e {c : CT} {l : List LE} {j : Nat} {e : LE} (he : l[j]? = some e) (h : 0 ≤ e.lt → ∀ p, billE (p, e) = none) : bilO c l = none := by
 rcases hp : penO c (l.map (·.lt)) with _ | pen
 ·exact bilO_n1 hp
 ·obtain ⟨x, _, hl, _⟩ := penO_some hp
  have hb := penO_bd hp
  have hj : j < pen.length := by rw [hb.1, List.length_map]; exact (List.getElem?_eq_some_iff.1 he).1
  have h0 := (hl.2 e.lt (List.mem_map.2 ⟨e, List.mem_of_getElem? he, rfl⟩)).1
  exact bilO_n3 hp (List.mem_of_getElem? (zip_get (List.getElem?_eq_getElem hj) he)) (h h0 _)
theorem bil_n4 {c : CT} {l : List LE} {j : Nat} {e : LE} (he : l[j]? = some e) (h1 : e.lt ≤ 0) (h2 : e.sh ≠ []) : bilO c l = none :=
 bil_e he fun h0 p => billE_0n (by omega) h2
theorem bil_n5 {c : CT} {l : List LE} {j : Nat} {e : LE} (he : l[j]? = some e) (h1 : 0 < e.lt) (h2 : e.sh.length ≠ 4) : bilO c l = none :=
 bil_e he fun h0 p => by
  rcases hs : splO p e.sh with _ | t
  ·exact billE_n (by omega) hs
  ·exact billE_4 (by omega) hs (by rw [(splO_len hs).1]; exact h2)
def okS (e : LE) : Prop := (e.lt ≤ 0 → e.sh = []) ∧ (0 < e.lt → e.sh.length = 4)
theorem okS_step {l : List LE} {j : Nat} {e : LE} (h : ∀ x ∈ l.take j, okS x) (he : l[j]? = some e) (ho : okS e) : ∀ x ∈ l.take (j + 1), okS x := fun x hx => by
 rw [take_snoc he] at hx
 rcases List.mem_append.1 hx with hx | hx
 ·exact h x hx
 ·simp at hx; subst hx; exact ho
section
variable {w0 : World} {c : CT} {v : Value} {l : List LE} (hc : CTk c) (hv : SlC w0 3 v l.length (l.flatMap fL)) (hs : ∀ e ∈ l, SlC w0 2 (.slice e.a e.n e.k) e.sh.length (e.sh.flatMap fR)) (hk : ∀ e ∈ l, LEk e) (hll : l.length ≤ 1000)
include hc hv hs hk hll
set_option maxHeartbeats 16000000 in
theorem c_fBill : Calls Tryz.prog 19 #[vC c, v] w0 (Ret (BilR w0 (bilO c l))) := by
 have hI : ∀ y ∈ l.map (·.lt), I64 y := fun y hy => by
  obtain ⟨e, he, rfl⟩ := List.mem_map.1 hy
  exact (hk e he).lt
 have hlm : (l.map (·.lt)).length = l.length := List.length_map ..
 obtain ⟨o, ho⟩ : ∃ o, bilO c l = o := ⟨_, rfl⟩
 rw [ho]
 apply e_ref26_Bill
 unfold s_ref26_Bill
 have h := Hp.init [] w0
 refine bxA h fun g1 w h => ?_
 have h := h.nil tI 1
 refine Lp2.mk (fun u i W => ∃ j : Nat, j ≤ l.length ∧ i = .int .i64 j ∧ OkO (l.take j) ∧ (∀ x ∈ l.take j, okS x) ∧ Hp [] w0 W [ro tI 1 u j (((l.take j).map (·.lt)).flatMap fI), bx g1 tC (fC c)])
  (fun _ i _ => match i with | .int _ i' => l.length - i'.toNat | _ => 0) ⟨0, by omega, rfl, OkO.nil, by simp, h⟩ ?_
 clear h
 rintro u _ W ⟨j, hj, rfl, hok, hos, h⟩
 by_cases hjl : j < l.length
 ·refine Exists.elim (p := fun x => l[j]? = some x) ⟨_, List.getElem?_eq_getElem hjl⟩ fun e he => ?_
  have sx : Seg (l.flatMap fL) (j * 3) (fL e) := flat_seg (f := fL) (fun _ => rfl) he
  have hem := List.mem_of_getElem? he
  have hek := hk e hem
  have hsh := hs e hem
  have hr1 := hek.rq
  have hr2 := hek.lt
  have hr3 := hek.sl
  by_cases hrq : 0 ≤ e.rq ∧ e.rq ≤ 999
  rotate_left
  ·have hou : o = none := ho ▸ bilO_n2 (fun h => hrq (h.rg e hem))
   have cc1 := fun {W : World} (_ : Ext w0 W) => c_finF (w := W) hrq
   refine leS (hv.hp h) ?_
   refine Bn_ltT (by omega) (If_T ?_)
   replace h := h.dr
   refine diH h ‹_› (by omega) fun zb zo zk zv zc => ?_
   refine dfS (dh1 h ‹_› ‹_› (by rfl) ?_)
   refine cl1 h n_ref26_in (cc1 h.ext) fun w h => ?_
   refine Dv_nF (GdP_TF (GdP_TF (GdP_TF (GdP_U (GdP_U (GdP_U (GdP_U (GdP_U (GdP_U (GdP_U (GdP_U (GdP_U (GdP_U (GdP_U (GdP_U (GdP_TF (PickP_T (GdP_TF (GdP_TF (GdP_TF (GdP_TF (GdP_TF (GdP_TF (GdP_TF (GdP_U (GdP_U (GdP_U (GdP_U (GdP_U (GdP_U (GdP_U (GdP_TF (PickP_T (GdP_TF (GdP_TF (GdP_TF (GdP_TF (GdP_TF (GdP_TF ?_)))))))))))))))))))))))))))))))))))))))
   refine GdP_TF (GdP_U (GdP_U (GdP_U (GdP_U (GdP_U (GdP_U (GdP_U (GdP_TF (PickP_T (If_T ?_))))))))))
   exact Ret.mk (by rw [hou]; exact ⟨rfl, h.ext⟩)
  have cc1 := fun {W : World} (_ : Ext w0 W) => c_finT (w := W) hrq
  by_cases hj0 : 0 < j
  rotate_left
  ·have hok' := hok.step he hrq (fun a h => absurd h hj0)
   by_cases h0 : e.lt ≤ 0
   ·by_cases hsn : e.sh = []
    ·have hsl := sh_nil hsn
     have hok2 := okS_step hos he ⟨fun _ => hsn, fun h => absurd h0 (by omega)⟩
     refine leS (hv.hp h) ?_
     refine Bn_ltT (by omega) (If_T ?_)
     replace h := h.dr
     refine diH h ‹_› (by omega) fun zb zo zk zv zc => ?_
     refine dfS (dh1 h ‹_› ‹_› (by rfl) ?_)
     refine cl1 h n_ref26_in (cc1 h.ext) fun w h => ?_
     refine Dv_nT (GdP_F (GdP_F (Dv_gtF (by omega) (GdP_F (GdP_FT (GdP_FT (GdP_FT (GdP_FT (GdP_FT (GdP_FT (GdP_FT (GdP_FT (GdP_FT (GdP_FT (GdP_FT (GdP_FT (GdP_F (PickP_F (PickP_F (GdP_F (GdP_F (GdP_F (diH h ‹_› (by omega) fun zb zo zk zv zc => ?_)))))))))))))))))))))))
     refine GdP_F (dfS (GdP_F (dh1 h ‹_› ‹_› (by rfl) ?_)))
     refine GdP_F (Dv_leT (by omega) (GdP_F (GdP_T (GdP_T (GdP_T (diH h ‹_› (by omega) fun zb zo zk zv zc => ?_))))))
     refine GdP_T (dfS (GdP_T (dh1 h ‹_› ‹_› (by rfl) ?_)))
     refine GdP_T (dlS (hsh.hp h) ?_)
     refine GdP_T (Dv_gtF (by omega) (GdP_F (PickP_T (PickP_F (GdP_F (GdP_F (GdP_F (diH h ‹_› (by omega) fun zb zo zk zv zc => ?_))))))))
     refine GdP_F (dfS (GdP_F (dh1 h ‹_› ‹_› (by rfl) ?_)))
     refine GdP_F (Dv_gtF (by omega) (GdP_F (GdP_FT (GdP_FT (GdP_FT (GdP_FT (GdP_FT (GdP_FT (GdP_FT (GdP_F (PickP_F (PickP_F (If_F (iaH h ‹_› (by omega) fun zb zo zk zv zc => ?_))))))))))))))
     refine faS (lh1 h ‹_› ‹_› (by rfl) ?_)
     refine bs1A h (by rfl) (by decide) (by rfl) (by decide) fun v1 w h => ?_
     refine apR (by rfl) (by decide) h 1 rfl (qZ 0 h rfl) (by first | rfl | assumption) (by omega) fun v2 w h => ?_
     refine Bn_ad (by omega) (by omega) ?_
     dsimp only [List.set] at h
     refine ⟨⟨j + 1, by omega, rfl, hok', hok2, ?_⟩, by show l.length - ((j : Int) + 1).toNat < l.length - (j : Int).toNat; omega⟩
     rw [take_snoc he, List.map_append, List.flatMap_append]
     exact h.pick [1, 2] (by decide) rfl
    ·have hsl := sh_cons hsn
     have hou : o = none := ho ▸ bil_n4 he h0 hsn
     refine leS (hv.hp h) ?_
     refine Bn_ltT (by omega) (If_T ?_)
     replace h := h.dr
     refine diH h ‹_› (by omega) fun zb zo zk zv zc => ?_
     refine dfS (dh1 h ‹_› ‹_› (by rfl) ?_)
     refine cl1 h n_ref26_in (cc1 h.ext) fun w h => ?_
     refine Dv_nT (GdP_F (GdP_F (Dv_gtF (by omega) (GdP_F (GdP_FT (GdP_FT (GdP_FT (GdP_FT (GdP_FT (GdP_FT (GdP_FT (GdP_FT (GdP_FT (GdP_FT (GdP_FT (GdP_FT (GdP_F (PickP_F (PickP_F (GdP_F (GdP_F (GdP_F (diH h ‹_› (by omega) fun zb zo zk zv zc => ?_)))))))))))))))))))))))
     refine GdP_F (dfS (GdP_F (dh1 h ‹_› ‹_› (by rfl) ?_)))
     refine GdP_F (Dv_leT (by omega) (GdP_F (GdP_T (GdP_T (GdP_T (diH h ‹_› (by omega) fun zb zo zk zv zc => ?_))))))
     refine GdP_T (dfS (GdP_T (dh1 h ‹_› ‹_› (by rfl) ?_)))
     refine GdP_T (dlS (hsh.hp h) ?_)
     refine GdP_T (Dv_gtT (by omega) (GdP_F (PickP_T (PickP_F (GdP_TF (GdP_TF (GdP_TF (GdP_TF (GdP_TF (GdP_TF (GdP_TF (GdP_U (GdP_U (GdP_U (GdP_U (GdP_U (GdP_U (GdP_U (GdP_TF (PickP_T (If_T ?_)))))))))))))))))))))
     exact Ret.mk (by rw [hou]; exact ⟨rfl, h.ext⟩)
   by_cases hs4 : e.sh.length = 4
   ·have hok2 := okS_step hos he ⟨fun h => absurd h h0, fun _ => hs4⟩
    refine leS (hv.hp h) ?_
    refine Bn_ltT (by omega) (If_T ?_)
    replace h := h.dr
    refine diH h ‹_› (by omega) fun zb zo zk zv zc => ?_
    refine dfS (dh1 h ‹_› ‹_› (by rfl) ?_)
    refine cl1 h n_ref26_in (cc1 h.ext) fun w h => ?_
    refine Dv_nT (GdP_F (GdP_F (Dv_gtF (by omega) (GdP_F (GdP_FT (GdP_FT (GdP_FT (GdP_FT (GdP_FT (GdP_FT (GdP_FT (GdP_FT (GdP_FT (GdP_FT (GdP_FT (GdP_FT (GdP_F (PickP_F (PickP_F (GdP_F (GdP_F (GdP_F (diH h ‹_› (by omega) fun zb zo zk zv zc => ?_)))))))))))))))))))))))
    refine GdP_F (dfS (GdP_F (dh1 h ‹_› ‹_› (by rfl) ?_)))
    refine GdP_F (Dv_leF (by omega) (GdP_F (GdP_FT (GdP_FT (GdP_FT (GdP_FT (GdP_FT (GdP_FT (GdP_FT (GdP_F (PickP_F (PickP_F (GdP_F (GdP_F (GdP_F (diH h ‹_› (by omega) fun zb zo zk zv zc => ?_))))))))))))))))
    refine GdP_F (dfS (GdP_F (dh1 h ‹_› ‹_› (by rfl) ?_)))
    refine GdP_F (Dv_gtT (by omega) (GdP_F (GdP_T (GdP_T (GdP_T (diH h ‹_› (by omega) fun zb zo zk zv zc => ?_))))))
    refine GdP_T (dfS (GdP_T (dh1 h ‹_› ‹_› (by rfl) ?_)))
    refine GdP_T (dlS (hsh.hp h) ?_)
    refine GdP_T (Dv_neF (by omega) (GdP_F (PickP_T (PickP_F (If_F (iaH h ‹_› (by omega) fun zb zo zk zv zc => ?_))))))
    refine faS (lh1 h ‹_› ‹_› (by rfl) ?_)
    refine bs1A h (by rfl) (by decide) (by rfl) (by decide) fun v1 w h => ?_
    refine apR (by rfl) (by decide) h 1 rfl (qZ 0 h rfl) (by first | rfl | assumption) (by omega) fun v2 w h => ?_
    refine Bn_ad (by omega) (by omega) ?_
    dsimp only [List.set] at h
    refine ⟨⟨j + 1, by omega, rfl, hok', hok2, ?_⟩, by show l.length - ((j : Int) + 1).toNat < l.length - (j : Int).toNat; omega⟩
    rw [take_snoc he, List.map_append, List.flatMap_append]
    exact h.pick [1, 2] (by decide) rfl
   ·have hou : o = none := ho ▸ bil_n5 he (by omega) hs4
    refine leS (hv.hp h) ?_
    refine Bn_ltT (by omega) (If_T ?_)
    replace h := h.dr
    refine diH h ‹_› (by omega) fun zb zo zk zv zc => ?_
    refine dfS (dh1 h ‹_› ‹_› (by rfl) ?_)
    refine cl1 h n_ref26_in (cc1 h.ext) fun w h => ?_
    refine Dv_nT (GdP_F (GdP_F (Dv_gtF (by omega) (GdP_F (GdP_FT (GdP_FT (GdP_FT (GdP_FT (GdP_FT (GdP_FT (GdP_FT (GdP_FT (GdP_FT (GdP_FT (GdP_FT (GdP_FT (GdP_F (PickP_F (PickP_F (GdP_F (GdP_F (GdP_F (diH h ‹_› (by omega) fun zb zo zk zv zc => ?_)))))))))))))))))))))))
    refine GdP_F (dfS (GdP_F (dh1 h ‹_› ‹_› (by rfl) ?_)))
    refine GdP_F (Dv_leF (by omega) (GdP_F (GdP_FT (GdP_FT (GdP_FT (GdP_FT (GdP_FT (GdP_FT (GdP_FT (GdP_F (PickP_F (PickP_F (GdP_F (GdP_F (GdP_F (diH h ‹_› (by omega) fun zb zo zk zv zc => ?_))))))))))))))))
    refine GdP_F (dfS (GdP_F (dh1 h ‹_› ‹_› (by rfl) ?_)))
    refine GdP_F (Dv_gtT (by omega) (GdP_F (GdP_T (GdP_T (GdP_T (diH h ‹_› (by omega) fun zb zo zk zv zc => ?_))))))
    refine GdP_T (dfS (GdP_T (dh1 h ‹_› ‹_› (by rfl) ?_)))
    refine GdP_T (dlS (hsh.hp h) ?_)
    refine GdP_T (Dv_neT (by omega) (GdP_F (PickP_T (PickP_F (If_T ?_)))))
    exact Ret.mk (by rw [hou]; exact ⟨rfl, h.ext⟩)
  refine Exists.elim (p := fun x => l[j - 1]? = some x) ⟨_, List.getElem?_eq_getElem (by omega)⟩ fun e1 he1 => ?_
  have sx1 := prev_seg he1
  by_cases hup : e1.rq < e.rq
  rotate_left
  ·have hou : o = none := ho ▸ bilO_n2 (OkO.bad (j := j - 1) he1 (by rw [Nat.sub_add_cancel hj0]; exact he) hup)
   refine leS (hv.hp h) ?_
   refine Bn_ltT (by omega) (If_T ?_)
   replace h := h.dr
   refine diH h ‹_› (by omega) fun zb zo zk zv zc => ?_
   refine dfS (dh1 h ‹_› ‹_› (by rfl) ?_)
   refine cl1 h n_ref26_in (cc1 h.ext) fun w h => ?_
   refine Dv_nT (GdP_F (GdP_F (Dv_gtT (by omega) (GdP_F (GdP_T (GdP_T (GdP_T (diH h ‹_› (by omega) fun zb zo zk zv zc => ?_))))))))
   refine GdP_T (dfS (GdP_T (dh1 h ‹_› ‹_› (by rfl) ?_)))
   refine GdP_T (GdP_T (GdP_T (Dv_su (by omega) (by omega) (GdP_T (diHz h ‹_› (by omega) (by omega) fun zb zo zk zv zc => ?_)))))
   refine GdP_T (dfS (GdP_T (dh1 h ‹_› ‹_› (by rfl) ?_)))
   refine GdP_T (Dv_leT (by omega) (GdP_F (PickP_T (PickP_F (GdP_TF (GdP_TF (GdP_TF (GdP_TF (GdP_TF (GdP_TF (GdP_TF (GdP_U (GdP_U (GdP_U (GdP_U (GdP_U (GdP_U (GdP_U (GdP_TF (PickP_T (GdP_TF (GdP_TF (GdP_TF (GdP_TF (GdP_TF (GdP_TF (GdP_TF (GdP_U (GdP_U (GdP_U (GdP_U (GdP_U (GdP_U (GdP_U (GdP_TF (PickP_T (If_T ?_)))))))))))))))))))))))))))))))))))))
   exact Ret.mk (by rw [hou]; exact ⟨rfl, h.ext⟩)
  have hok' := hok.step he hrq (fun a _ ha => by rw [he1] at ha; cases ha; exact hup)
  by_cases h0 : e.lt ≤ 0
  ·by_cases hsn : e.sh = []
   ·have hsl := sh_nil hsn
    have hok2 := okS_step hos he ⟨fun _ => hsn, fun h => absurd h0 (by omega)⟩
    refine leS (hv.hp h) ?_
    refine Bn_ltT (by omega) (If_T ?_)
    replace h := h.dr
    refine diH h ‹_› (by omega) fun zb zo zk zv zc => ?_
    refine dfS (dh1 h ‹_› ‹_› (by rfl) ?_)
    refine cl1 h n_ref26_in (cc1 h.ext) fun w h => ?_
    refine Dv_nT (GdP_F (GdP_F (Dv_gtT (by omega) (GdP_F (GdP_T (GdP_T (GdP_T (diH h ‹_› (by omega) fun zb zo zk zv zc => ?_))))))))
    refine GdP_T (dfS (GdP_T (dh1 h ‹_› ‹_› (by rfl) ?_)))
    refine GdP_T (GdP_T (GdP_T (Dv_su (by omega) (by omega) (GdP_T (diHz h ‹_› (by omega) (by omega) fun zb zo zk zv zc => ?_)))))
    refine GdP_T (dfS (GdP_T (dh1 h ‹_› ‹_› (by rfl) ?_)))
    refine GdP_T (Dv_leF (by omega) (GdP_F (PickP_T (PickP_F (GdP_F (GdP_F (GdP_F (diH h ‹_› (by omega) fun zb zo zk zv zc => ?_))))))))
    refine GdP_F (dfS (GdP_F (dh1 h ‹_› ‹_› (by rfl) ?_)))
    refine GdP_F (Dv_leT (by omega) (GdP_F (GdP_T (GdP_T (GdP_T (diH h ‹_› (by omega) fun zb zo zk zv zc => ?_))))))
    refine GdP_T (dfS (GdP_T (dh1 h ‹_› ‹_› (by rfl) ?_)))
    refine GdP_T (dlS (hsh.hp h) ?_)
    refine GdP_T (Dv_gtF (by omega) (GdP_F (PickP_T (PickP_F (GdP_F (GdP_F (GdP_F (diH h ‹_› (by omega) fun zb zo zk zv zc => ?_))))))))
    refine GdP_F (dfS (GdP_F (dh1 h ‹_› ‹_› (by rfl) ?_)))
    refine GdP_F (Dv_gtF (by omega) (GdP_F (GdP_FT (GdP_FT (GdP_FT (GdP_FT (GdP_FT (GdP_FT (GdP_FT (GdP_F (PickP_F (PickP_F (If_F (iaH h ‹_› (by omega) fun zb zo zk zv zc => ?_))))))))))))))
    refine faS (lh1 h ‹_› ‹_› (by rfl) ?_)
    refine bs1A h (by rfl) (by decide) (by rfl) (by decide) fun v1 w h => ?_
    refine apR (by rfl) (by decide) h 1 rfl (qZ 0 h rfl) (by first | rfl | assumption) (by omega) fun v2 w h => ?_
    refine Bn_ad (by omega) (by omega) ?_
    dsimp only [List.set] at h
    refine ⟨⟨j + 1, by omega, rfl, hok', hok2, ?_⟩, by show l.length - ((j : Int) + 1).toNat < l.length - (j : Int).toNat; omega⟩
    rw [take_snoc he, List.map_append, List.flatMap_append]
    exact h.pick [1, 2] (by decide) rfl
   ·have hsl := sh_cons hsn
    have hou : o = none := ho ▸ bil_n4 he h0 hsn
    refine leS (hv.hp h) ?_
    refine Bn_ltT (by omega) (If_T ?_)
    replace h := h.dr
    refine diH h ‹_› (by omega) fun zb zo zk zv zc => ?_
    refine dfS (dh1 h ‹_› ‹_› (by rfl) ?_)
    refine cl1 h n_ref26_in (cc1 h.ext) fun w h => ?_
    refine Dv_nT (GdP_F (GdP_F (Dv_gtT (by omega) (GdP_F (GdP_T (GdP_T (GdP_T (diH h ‹_› (by omega) fun zb zo zk zv zc => ?_))))))))
    refine GdP_T (dfS (GdP_T (dh1 h ‹_› ‹_› (by rfl) ?_)))
    refine GdP_T (GdP_T (GdP_T (Dv_su (by omega) (by omega) (GdP_T (diHz h ‹_› (by omega) (by omega) fun zb zo zk zv zc => ?_)))))
    refine GdP_T (dfS (GdP_T (dh1 h ‹_› ‹_› (by rfl) ?_)))
    refine GdP_T (Dv_leF (by omega) (GdP_F (PickP_T (PickP_F (GdP_F (GdP_F (GdP_F (diH h ‹_› (by omega) fun zb zo zk zv zc => ?_))))))))
    refine GdP_F (dfS (GdP_F (dh1 h ‹_› ‹_› (by rfl) ?_)))
    refine GdP_F (Dv_leT (by omega) (GdP_F (GdP_T (GdP_T (GdP_T (diH h ‹_› (by omega) fun zb zo zk zv zc => ?_))))))
    refine GdP_T (dfS (GdP_T (dh1 h ‹_› ‹_› (by rfl) ?_)))
    refine GdP_T (dlS (hsh.hp h) ?_)
    refine GdP_T (Dv_gtT (by omega) (GdP_F (PickP_T (PickP_F (GdP_TF (GdP_TF (GdP_TF (GdP_TF (GdP_TF (GdP_TF (GdP_TF (GdP_U (GdP_U (GdP_U (GdP_U (GdP_U (GdP_U (GdP_U (GdP_TF (PickP_T (If_T ?_)))))))))))))))))))))
    exact Ret.mk (by rw [hou]; exact ⟨rfl, h.ext⟩)
  by_cases hs4 : e.sh.length = 4
  ·have hok2 := okS_step hos he ⟨fun h => absurd h h0, fun _ => hs4⟩
   refine leS (hv.hp h) ?_
   refine Bn_ltT (by omega) (If_T ?_)
   replace h := h.dr
   refine diH h ‹_› (by omega) fun zb zo zk zv zc => ?_
   refine dfS (dh1 h ‹_› ‹_› (by rfl) ?_)
   refine cl1 h n_ref26_in (cc1 h.ext) fun w h => ?_
   refine Dv_nT (GdP_F (GdP_F (Dv_gtT (by omega) (GdP_F (GdP_T (GdP_T (GdP_T (diH h ‹_› (by omega) fun zb zo zk zv zc => ?_))))))))
   refine GdP_T (dfS (GdP_T (dh1 h ‹_› ‹_› (by rfl) ?_)))
   refine GdP_T (GdP_T (GdP_T (Dv_su (by omega) (by omega) (GdP_T (diHz h ‹_› (by omega) (by omega) fun zb zo zk zv zc => ?_)))))
   refine GdP_T (dfS (GdP_T (dh1 h ‹_› ‹_› (by rfl) ?_)))
   refine GdP_T (Dv_leF (by omega) (GdP_F (PickP_T (PickP_F (GdP_F (GdP_F (GdP_F (diH h ‹_› (by omega) fun zb zo zk zv zc => ?_))))))))
   refine GdP_F (dfS (GdP_F (dh1 h ‹_› ‹_› (by rfl) ?_)))
   refine GdP_F (Dv_leF (by omega) (GdP_F (GdP_FT (GdP_FT (GdP_FT (GdP_FT (GdP_FT (GdP_FT (GdP_FT (GdP_F (PickP_F (PickP_F (GdP_F (GdP_F (GdP_F (diH h ‹_› (by omega) fun zb zo zk zv zc => ?_))))))))))))))))
   refine GdP_F (dfS (GdP_F (dh1 h ‹_› ‹_› (by rfl) ?_)))
   refine GdP_F (Dv_gtT (by omega) (GdP_F (GdP_T (GdP_T (GdP_T (diH h ‹_› (by omega) fun zb zo zk zv zc => ?_))))))
   refine GdP_T (dfS (GdP_T (dh1 h ‹_› ‹_› (by rfl) ?_)))
   refine GdP_T (dlS (hsh.hp h) ?_)
   refine GdP_T (Dv_neF (by omega) (GdP_F (PickP_T (PickP_F (If_F (iaH h ‹_› (by omega) fun zb zo zk zv zc => ?_))))))
   refine faS (lh1 h ‹_› ‹_› (by rfl) ?_)
   refine bs1A h (by rfl) (by decide) (by rfl) (by decide) fun v1 w h => ?_
   refine apR (by rfl) (by decide) h 1 rfl (qZ 0 h rfl) (by first | rfl | assumption) (by omega) fun v2 w h => ?_
   refine Bn_ad (by omega) (by omega) ?_
   dsimp only [List.set] at h
   refine ⟨⟨j + 1, by omega, rfl, hok', hok2, ?_⟩, by show l.length - ((j : Int) + 1).toNat < l.length - (j : Int).toNat; omega⟩
   rw [take_snoc he, List.map_append, List.flatMap_append]
   exact h.pick [1, 2] (by decide) rfl
  ·have hou : o = none := ho ▸ bil_n5 he (by omega) hs4
   refine leS (hv.hp h) ?_
   refine Bn_ltT (by omega) (If_T ?_)
   replace h := h.dr
   refine diH h ‹_› (by omega) fun zb zo zk zv zc => ?_
   refine dfS (dh1 h ‹_› ‹_› (by rfl) ?_)
   refine cl1 h n_ref26_in (cc1 h.ext) fun w h => ?_
   refine Dv_nT (GdP_F (GdP_F (Dv_gtT (by omega) (GdP_F (GdP_T (GdP_T (GdP_T (diH h ‹_› (by omega) fun zb zo zk zv zc => ?_))))))))
   refine GdP_T (dfS (GdP_T (dh1 h ‹_› ‹_› (by rfl) ?_)))
   refine GdP_T (GdP_T (GdP_T (Dv_su (by omega) (by omega) (GdP_T (diHz h ‹_› (by omega) (by omega) fun zb zo zk zv zc => ?_)))))
   refine GdP_T (dfS (GdP_T (dh1 h ‹_› ‹_› (by rfl) ?_)))
   refine GdP_T (Dv_leF (by omega) (GdP_F (PickP_T (PickP_F (GdP_F (GdP_F (GdP_F (diH h ‹_› (by omega) fun zb zo zk zv zc => ?_))))))))
   refine GdP_F (dfS (GdP_F (dh1 h ‹_› ‹_› (by rfl) ?_)))
   refine GdP_F (Dv_leF (by omega) (GdP_F (GdP_FT (GdP_FT (GdP_FT (GdP_FT (GdP_FT (GdP_FT (GdP_FT (GdP_F (PickP_F (PickP_F (GdP_F (GdP_F (GdP_F (diH h ‹_› (by omega) fun zb zo zk zv zc => ?_))))))))))))))))
   refine GdP_F (dfS (GdP_F (dh1 h ‹_› ‹_› (by rfl) ?_)))
   refine GdP_F (Dv_gtT (by omega) (GdP_F (GdP_T (GdP_T (GdP_T (diH h ‹_› (by omega) fun zb zo zk zv zc => ?_))))))
   refine GdP_T (dfS (GdP_T (dh1 h ‹_› ‹_› (by rfl) ?_)))
   refine GdP_T (dlS (hsh.hp h) ?_)
   refine GdP_T (Dv_neT (by omega) (GdP_F (PickP_T (PickP_F (If_T ?_)))))
   exact Ret.mk (by rw [hou]; exact ⟨rfl, h.ext⟩)
 have hjl' : j = l.length := by omega
 subst hjl'
 rw [List.take_length] at hok hos h
 refine (oc (penO c (l.map (·.lt)))).elim (fun hpen => ?_) fun hp => Exists.elim hp fun pen hpen => ?_
 ·have hou : o = none := ho ▸ bilO_n1 hpen
  refine leS (hv.hp h) ?_
  refine Bn_ltF (by omega) (If_F (ldA h 1 rfl rfl ?_))
  refine Cl_i n_ref26_Penalties (hpen ▸ c_fPenalties hc (hlm ▸ h.sl (i := 0) rfl) hI (by omega)) ?_
  rintro _ w' ⟨rfl, x⟩
  have h := h.x x
  refine Ex2 (Bn_neT (by omega) (If_T ?_))
  exact Ret.mk (by rw [hou]; exact ⟨rfl, h.ext⟩)
 have hpb := penO_bd hpen
 have hpl := hpb.1
 rw [hlm] at hpl
 refine leS (hv.hp h) ?_
 refine Bn_ltF (by omega) (If_F (ldA h 1 rfl rfl ?_))
 refine Cl_i n_ref26_Penalties (hpen ▸ c_fPenalties hc (hlm ▸ h.sl (i := 0) rfl) hI (by omega)) ?_
 rintro _ w' ⟨pv, rfl, h2⟩
 have h := (h.cat1 h2 ro_sm).nil tD 3
 refine Ex2 (Bn_neF (by omega) (If_F ?_))
 refine Lp2.mk (fun u i W => ∃ (j n : Nat) (D : List (List Du)), j ≤ l.length ∧ i = .int .i64 j ∧ allO billE ((pen.zip l).take j) = some D ∧ n = D.flatten.length ∧ Hp [] w0 W [ro tD 3 u n (D.flatten.flatMap fU), ro tI 1 pv pen.length (pen.flatMap fI)])
  (fun _ i _ => match i with | .int _ i' => l.length - i'.toNat | _ => 0) ⟨0, 0, [], by omega, rfl, rfl, rfl, h.pick [0, 1] (by decide) rfl⟩ ?_
 clear h
 rintro u _ W ⟨j, n, D, hj, rfl, hD, hn, h⟩
 have hDl := flat_le hD
 have hzt : ((pen.zip l).take j).length ≤ j := by rw [List.length_take]; omega
 by_cases hjl : j < l.length
 rotate_left
 ·have hjl' : j = l.length := by omega
  rw [List.take_of_length_le (by rw [List.length_zip]; omega)] at hD
  have hou : o = some D.flatten := ho ▸ bilO_y hpen hok hD
  refine leS (hv.hp h) ?_
  refine Bn_ltF (by omega) (If_F ?_)
  exact Ret.mk (by rw [hou]; exact ⟨u, rfl, by rw [← hn]; exact h.pick [0] (by decide) rfl⟩)
 refine Exists.elim (p := fun x => l[j]? = some x) ⟨_, List.getElem?_eq_getElem hjl⟩ fun e he => ?_
 refine Exists.elim (p := fun x => pen[j]? = some x) ⟨_, List.getElem?_eq_getElem (by omega)⟩ fun p hp => ?_
 have sx : Seg (l.flatMap fL) (j * 3) (fL e) := flat_seg (f := fL) (fun _ => rfl) he
 have sp : Seg (pen.flatMap fI) (j * 1) (fI p) := flat_seg (f := fI) (fun _ => rfl) hp
 have hem := List.mem_of_getElem? he
 have hek := hk e hem
 have hsh := hs e hem
 have hoe := hos e hem
 have hpb' := hpb.2 p (List.mem_of_getElem? hp)
 have hr1 := hek.rq
 have hr2 := hek.lt
 have hr3 := hek.sl
 by_cases h0 : e.lt = 0
 ·have hb := allO_snoc hD (billE_0 (p := p) h0 (hoe.1 (by omega)))
  rw [← zip_take hp he] at hb
  refine leS (hv.hp h) ?_
  refine Bn_ltT (by omega) (If_T (iaH h ‹_› (by omega) fun zb zo zk zv zc => ?_))
  refine faS (lh1 h ‹_› ‹_› (by rfl) ?_)
  refine Bn_eqT (by omega) (If_T (Bn_ad (by omega) (by omega) ?_))
  exact ⟨⟨j + 1, n, D ++ [[]], by omega, rfl, hb, by rw [flat_nil]; exact hn, by rw [flat_nil]; exact h⟩, by show l.length - ((j : Int) + 1).toNat < l.length - (j : Int).toNat; omega⟩
 have hlt0 : 0 ≤ e.lt := by
  obtain ⟨x, _, hl, _⟩ := penO_some hpen
  exact (hl.2 e.lt (List.mem_map.2 ⟨e, hem, rfl⟩)).1
 refine (oc (splO p e.sh)).elim (fun hsp => ?_) fun ht => Exists.elim ht fun t hsp => ?_
 ·have hou : o = none := ho ▸ bilO_n3 hpen (List.mem_of_getElem? (zip_get hp he)) (billE_n h0 hsp)
  refine leS (hv.hp h) ?_
  refine Bn_ltT (by omega) (If_T (iaH h ‹_› (by omega) fun zb zo zk zv zc => ?_))
  refine faS (lh1 h ‹_› ‹_› (by rfl) ?_)
  refine Bn_eqF (by omega) (If_F ?_)
  replace h := h.dr
  refine diR h 1 rfl (by omega) fun zg zk zv => ?_
  refine dr0 h 1 rfl ‹_› ‹_› (by rfl) ?_
  refine diH h ‹_› (by omega) fun zb zo zk zv zc => ?_
  refine dfS (dh1 h ‹_› ‹_› (by rfl) ?_)
  refine Cl_i n_ref26_Split (hsp ▸ c_fSplit (a := p) (hsh.hp h) hek.sh hek.sl (by omega)) ?_
  rintro _ w' ⟨rfl, x⟩
  have h := h.x x
  refine ExP2 (Bn_neT (by omega) (If_T ?_))
  exact Ret.mk (by rw [hou]; exact ⟨rfl, h.ext⟩)
 have htl := splO_len hsp
 have htb := splO_bd hsp
 have h4 : t.length = 4 := by rw [htl.1]; exact hoe.2 (by omega)
 have hb := allO_snoc hD (billE_y (p := p) h0 hsp h4)
 rw [← zip_take hp he] at hb
 refine leS (hv.hp h) ?_
 refine Bn_ltT (by omega) (If_T (iaH h ‹_› (by omega) fun zb zo zk zv zc => ?_))
 refine faS (lh1 h ‹_› ‹_› (by rfl) ?_)
 refine Bn_eqF (by omega) (If_F ?_)
 replace h := h.dr
 refine diR h 1 rfl (by omega) fun zg zk zv => ?_
 refine dr0 h 1 rfl ‹_› ‹_› (by rfl) ?_
 refine diH h ‹_› (by omega) fun zb zo zk zv zc => ?_
 refine dfS (dh1 h ‹_› ‹_› (by rfl) ?_)
 refine Cl_i n_ref26_Split (hsp ▸ c_fSplit (a := p) (hsh.hp h) hek.sh hek.sl (by omega)) ?_
 rintro _ w' ⟨vt, rfl, h2⟩
 have h := h.cat1 h2 ro_sm
 refine ExP2 (Bn_neF (by omega) (If_F ?_))
 refine Lp2.mk (fun u' i W => ∃ (k m : Nat), k ≤ 4 ∧ m ≤ k ∧ i = .int .i64 k ∧ m = (duesL e.rq 0 (t.take k)).length ∧ Hp [] w0 W [ro tI 1 vt t.length (t.flatMap fI), ro tD 3 u' (n + m) ((D.flatten ++ duesL e.rq 0 (t.take k)).flatMap fU), ro tI 1 pv pen.length (pen.flatMap fI)])
  (fun _ i _ => match i with | .int _ i' => 4 - i'.toNat | _ => 0) ⟨0, 0, by omega, by omega, rfl, by simp [duesL], by simpa [duesL] using h⟩ ?_
 clear h
 rintro u' _ W ⟨k, m, hk4, hmk, rfl, hm, h⟩
 by_cases hkl : k < 4
 ·refine Exists.elim (p := fun x => t[k]? = some x) ⟨_, List.getElem?_eq_getElem (by omega)⟩ fun y hy => ?_
  have sy : Seg (t.flatMap fI) (k * 1) (fI y) := flat_seg (f := fI) (fun _ => rfl) hy
  have hyb := htb y (List.mem_of_getElem? hy)
  have hy1 := hyb.1
  have hy2 := hyb.2
  have hds := duesL_snoc e.rq y (t.take k) 0
  rw [← take_snoc hy, take_len (by omega), Nat.zero_add] at hds
  by_cases hy0 : 0 < y
  ·rw [if_pos hy0] at hds
   refine leS (qZ 0 h rfl) ?_
   refine Bn_ltT (by omega) (If_T (iaR h 0 rfl (by omega) fun zg zk zv => ?_))
   refine lr0 h 0 rfl ‹_› ‹_› (by rfl) ?_
   refine Bn_gtT (by omega) (If_T ?_)
   replace h := h.dr
   refine diH h ‹_› (by omega) fun zb zo zk zv zc => ?_
   refine dfS (dh1 h ‹_› ‹_› (by rfl) ?_)
   refine diR h 0 rfl (by omega) fun zg zk zv => ?_
   refine dr0 h 0 rfl ‹_› ‹_› (by rfl) ?_
   refine dbS (PC.cons (by rfl) (PC.cons (by rfl) (PC.cons (by rfl) PC.nil))) (by rfl) ?_
   refine bs1A h (by rfl) (by decide) (by rfl) (by decide) fun v1 w h => ?_
   refine apR (by rfl) (by decide) h 2 rfl (qZ 0 h rfl) (by first | rfl | assumption) (by omega) fun v2 w h => ?_
   refine Bn_ad (by omega) (by omega) ?_
   dsimp only [List.set] at h
   refine ⟨⟨k + 1, m + 1, by omega, by omega, rfl, by rw [hds, List.length_append, ← hm]; rfl, ?_⟩, by show 4 - ((k : Int) + 1).toNat < 4 - (k : Int).toNat; omega⟩
   rw [hds, ← List.append_assoc, List.flatMap_append]
   exact h.pick [1, 2, 3] (by decide) rfl
  ·rw [if_neg hy0, List.append_nil] at hds
   refine leS (qZ 0 h rfl) ?_
   refine Bn_ltT (by omega) (If_T (iaR h 0 rfl (by omega) fun zg zk zv => ?_))
   refine lr0 h 0 rfl ‹_› ‹_› (by rfl) ?_
   refine Bn_gtF (by omega) (If_F (Bn_ad (by omega) (by omega) ?_))
   exact ⟨⟨k + 1, m, by omega, by omega, rfl, by rw [hds, ← hm], by rw [hds]; exact h⟩, by show 4 - ((k : Int) + 1).toNat < 4 - (k : Int).toNat; omega⟩
 have hk' : k = 4 := by omega
 subst hk'
 rw [List.take_of_length_le (by omega)] at h hm
 refine leS (qZ 0 h rfl) ?_
 refine Bn_ltF (by omega) (If_F (Bn_ad (by omega) (by omega) ?_))
 exact ⟨⟨j + 1, n + m, D ++ [duesL e.rq 0 t], by omega, rfl, hb, by rw [flat_one, List.length_append, ← hn, ← hm], by rw [flat_one]; exact h.pick [1, 2] (by decide) rfl⟩, by show l.length - ((j : Int) + 1).toNat < l.length - (j : Int).toNat; omega⟩
end
end Go.Proofs.YtjmdnjnjepinoaaGreatDoor
