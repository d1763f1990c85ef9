/-
  Contracts and plain lemmas. By an AI agent.
-/
import Derived.Test.YtjgjeccfhmlcnaaGreatDoorLSnE
import Derived.Test.YtjgjeccfhmlcnaaGreatDoorSmY
import Derived.Test.YtjgjeccfhmlcnaaGreatDoorPlain
import Derived.Test.YtjgjeccfhmlcnaaGreatDoorEngW
import Derived.Test.YtjgjeccfhmlcnaaGreatDoorSnD
set_option linter.unusedSimpArgs false
set_option linter.unusedVariables false
set_option linter.unusedSectionVars false
namespace Go.Proofs.YtjgjeccfhmlcnaaGreatDoor
open Go Go.Eng Go.Proofs Go.Num Go.RowKit
set_option maxRecDepth 100000
abbrev I4 := Int × Int × Int × Int
abbrev fQ (a : I4) : List Value := [.int .i64 a.1, .int .i64 a.2.1, .int .i64 a.2.2.1, .int .i64 a.2.2.2]
abbrev I4ok (x : I4) : Prop := Iw x.1 ∧ Iw x.2.1 ∧ Iw x.2.2.1 ∧ Iw x.2.2.2
theorem c_pickR {w : World} {c n : Int} (hc : Iw c) (hn : 0 < n) (hn2 : n ≤ 10000000000000) : Calls Tryz.prog 33 #[.int .i64 c, .int .i64 n] w (Ret fun r w' => Ext w w' ∧ r = .int .i64 (pickZ c n)) := by
 apply e_ref14_pick
 unfold s_ref14_pick
 have h := Hp.init [] w
 by_cases h0 : c < 0
 ·have e : pickZ c n = (-(c + 1)) % n := by unfold pickZ; rw [if_pos h0]
  rw [e]
  refine Bn_ltT (by omega) (If_T (Bn_ad (by omega) (by omega) (Eng.Un_ng (by omega) (by omega) (Bn_rm (by omega) (by omega) ?_))))
  exact Ret.mk ⟨h.ext, rfl⟩
 ·have e : pickZ c n = c % n := by unfold pickZ; rw [if_neg h0]
  rw [e]
  refine Bn_ltF (by omega) (If_F (Bn_rm (by omega) (by omega) ?_))
  exact Ret.mk ⟨h.ext, rfl⟩
def mkF (x : I4) : Ft :=
 let sv := pickZ x.2.1 2
 let tr := pickZ x.1 30
 let lo := if pickZ x.2.2.2 4 = 3 then pickZ x.2.2.1 2199023255552 else pickZ x.2.2.1 40
 ⟨tr, pickZ (x.1.tdiv 30) 4, sv, pickZ (x.2.1.tdiv 2) 3, 2 * sv + pickZ (x.2.1.tdiv 3000) 2, pickZ (x.2.1.tdiv 6) 5 - 1, tr / 10, lo, lo + pickZ (x.2.2.2.tdiv 4) 3 * pickZ (x.2.2.2.tdiv 12) 30, pickZ (x.2.1.tdiv 30) 100⟩
theorem tdiv_Iw {c n : Int} (hc : Iw c) (hn : 0 < n) : Iw (c.tdiv n) := tdiv_bd hc.1 hc.2 hn
def bef (f g : Ft) : Bool := decide (f.tr < g.tr) || (decide (f.tr = g.tr) && decide (f.sp < g.sp))
def atF (f : Ft) : List Ft → Nat
 | [] => 0
 | g :: l => if bef g f then atF f l + 1 else 0
def insF (l : List Ft) (f : Ft) : List Ft :=
 match l[atF f l]? with
 | some g => if g.tr = f.tr ∧ g.sp = f.sp then l else l.take (atF f l) ++ f :: l.drop (atF f l)
 | none => l ++ [f]
def made (l : List I4) : List Ft := (l.take 40).foldl (fun a x => insF a (mkF x)) []
theorem atF_le (f : Ft) : ∀ l : List Ft, atF f l ≤ l.length
 | [] => Nat.le_refl _
 | g :: l => by
  have := atF_le f l
  unfold atF
  split
  ·simp; omega
  ·simp
theorem atF_in {f : Ft} : ∀ {l : List Ft} {i : Nat} {x : Ft}, i < atF f l → l[i]? = some x → bef x f = true
 | [], _, _, h, _ => by simp [atF] at h
 | g :: l, 0, x, h, hx => by
  unfold atF at h
  split at h
  ·next hk => have : g = x := by simpa using hx
              subst this; exact hk
  ·omega
 | g :: l, i + 1, x, h, hx => by
  unfold atF at h
  split at h
  ·exact atF_in (f := f) (l := l) (i := i) (by omega) (by simpa using hx)
  ·omega
theorem atF_out {f : Ft} : ∀ {l : List Ft} {x : Ft}, l[atF f l]? = some x → bef x f = false
 | [], _, hx => by simp at hx
 | g :: l, x, hx => by
  unfold atF at hx
  split at hx
  ·exact atF_out (f := f) (l := l) (by simpa using hx)
  ·next hk => have : g = x := by simpa using hx
              subst this; simpa using hk
theorem insF_len (l : List Ft) (f : Ft) : (insF l f).length ≤ l.length + 1 := by
 unfold insF
 split
 ·split
  ·omega
  ·rw [List.length_append, List.length_cons, List.length_take, List.length_drop]
   have := atF_le f l
   omega
 ·simp
theorem foldl_len {α : Type} (F : List Ft → α → List Ft) (h : ∀ a x, (F a x).length ≤ a.length + 1) : ∀ (l : List α) (a : List Ft), (l.foldl F a).length ≤ a.length + l.length
 | [], a => by simp
 | x :: l, a => by
  have h1 := foldl_len F h l (F a x)
  have h2 := h a x
  rw [List.foldl_cons, List.length_cons]; omega
theorem made_len (l : List I4) : (made l).length ≤ 40 := by
 have h := foldl_len (fun a x => insF a (mkF x)) (fun a x => insF_len a (mkF x)) (l.take 40) []
 have : (l.take 40).length ≤ 40 := by rw [List.length_take]; omega
 unfold made
 simp at h
 omega
theorem pz {c n m : Int} (h : 0 < n) (e : m = n - 1) : 0 ≤ pickZ c n ∧ pickZ c n ≤ m := by
 have := pickZ_bd (c := c) h
 omega
structure MF (f : Ft) : Prop where
 tr : 0 ≤ f.tr ∧ f.tr ≤ 29
 sp : 0 ≤ f.sp ∧ f.sp ≤ 3
 sv : 0 ≤ f.sv ∧ f.sv ≤ 1
 ve : 0 ≤ f.ve ∧ f.ve ≤ 2
 op : 0 ≤ f.op ∧ f.op ≤ 3
 pe : -1 ≤ f.pe ∧ f.pe ≤ 3
 da : f.da = f.tr / 10
 lo : 0 ≤ f.lo ∧ f.lo ≤ 2199023255551
 hi : f.lo ≤ f.hi ∧ f.hi ≤ f.lo + 58
 by' : 0 ≤ f.by' ∧ f.by' ≤ 99
theorem mkF_ok (x : I4) : MF (mkF x) := by
 have a1 := pz (c := x.1) (n := 30) (m := 29) (by decide) (by decide)
 have a2 := pz (c := x.1.tdiv 30) (n := 4) (m := 3) (by decide) (by decide)
 have a3 := pz (c := x.2.1) (n := 2) (m := 1) (by decide) (by decide)
 have a4 := pz (c := x.2.1.tdiv 2) (n := 3) (m := 2) (by decide) (by decide)
 have a5 := pz (c := x.2.1.tdiv 3000) (n := 2) (m := 1) (by decide) (by decide)
 have a6 := pz (c := x.2.1.tdiv 6) (n := 5) (m := 4) (by decide) (by decide)
 have a7 := pz (c := x.2.2.1) (n := 2199023255552) (m := 2199023255551) (by decide) (by decide)
 have a8 := pz (c := x.2.2.1) (n := 40) (m := 39) (by decide) (by decide)
 have a9 := pz (c := x.2.2.2.tdiv 4) (n := 3) (m := 2) (by decide) (by decide)
 have a10 := pz (c := x.2.2.2.tdiv 12) (n := 30) (m := 29) (by decide) (by decide)
 have a11 := pz (c := x.2.1.tdiv 30) (n := 100) (m := 99) (by decide) (by decide)
 have hm : 0 ≤ pickZ (x.2.2.2.tdiv 4) 3 * pickZ (x.2.2.2.tdiv 12) 30 ∧ pickZ (x.2.2.2.tdiv 4) 3 * pickZ (x.2.2.2.tdiv 12) 30 ≤ 58 := by
  refine ⟨Int.mul_nonneg a9.1 a10.1, ?_⟩
  have := Int.mul_le_mul a9.2 a10.2 a10.1 (by decide)
  omega
 unfold mkF
 refine ⟨a1, a2, a3, a4, ?_, ?_, rfl, ?_, ?_, a11⟩ <;> dsimp only
 ·omega
 ·omega
 ·split <;> omega
 ·omega
theorem insF_mem {l : List Ft} {f x : Ft} (h : x ∈ insF l f) : x ∈ l ∨ x = f := by
 unfold insF at h
 split at h
 ·split at h
  ·exact .inl h
  ·rcases List.mem_append.1 h with h | h
   ·exact .inl (List.mem_of_mem_take h)
   ·rcases List.mem_cons.1 h with h | h
    ·exact .inr h
    ·exact .inl (List.mem_of_mem_drop h)
 ·rcases List.mem_append.1 h with h | h
  ·exact .inl h
  ·exact .inr (List.mem_singleton.1 h)
theorem made_MF (l : List I4) : ∀ f ∈ made l, MF f := by
 have : ∀ (l : List I4) (a : List Ft), (∀ f ∈ a, MF f) → ∀ f ∈ l.foldl (fun a x => insF a (mkF x)) a, MF f := by
  intro l
  induction l with
  | nil => intro a ha; exact ha
  | cons x l ih =>
   intro a ha
   refine ih _ fun f hf => ?_
   rcases insF_mem hf with h | h
   ·exact ha f h
   ·rw [h]; exact mkF_ok x
 exact this _ _ (by simp)
theorem ord_ins {l : List Ft} {f : Ft} (h : l.Pairwise ltF) : (insF l f).Pairwise ltF := by
 have hle := atF_le f l
 have bef_lt : ∀ {g h : Ft}, bef g h = true → ltF g h := fun {g h} hb => by
  unfold bef at hb
  simp only [Bool.or_eq_true, Bool.and_eq_true, decide_eq_true_eq] at hb
  exact hb
 have before : ∀ x ∈ l.take (atF f l), ltF x f := fun x hx => by
  obtain ⟨i, hi, e⟩ := List.getElem_of_mem hx
  rw [List.length_take] at hi
  rw [List.getElem_take] at e
  exact bef_lt (atF_in (f := f) (l := l) (i := i) (by omega) (by rw [List.getElem?_eq_getElem (by omega), e]))
 unfold insF
 split
 ·next g hg =>
  split
  ·exact h
  ·next hne =>
   have ho := atF_out hg
   have hfg : ltF f g := by
    unfold bef at ho
    simp only [Bool.or_eq_false_iff, Bool.and_eq_false_iff, decide_eq_false_iff_not] at ho
    unfold ltF
    omega
   have hd : l.drop (atF f l) = g :: l.drop (atF f l + 1) := drop_cons hg
   have hp : (l.drop (atF f l)).Pairwise ltF := h.sublist (List.drop_sublist _ _)
   have after : ∀ x ∈ l.drop (atF f l), ltF f x := fun x hx => by
    rw [hd] at hx hp
    rcases List.mem_cons.1 hx with rfl | hx
    ·exact hfg
    ·have h1 := (List.pairwise_cons.1 hp).1 x hx
     unfold ltF at hfg h1 ⊢
     omega
   refine List.pairwise_append.2 ⟨h.sublist (List.take_sublist _ _), List.pairwise_cons.2 ⟨after, hp⟩, fun x hx y hy => ?_⟩
   rcases List.mem_cons.1 hy with rfl | hy
   ·exact before x hx
   ·have h1 := before x hx
    have h2 := after y hy
    unfold ltF at h1 h2 ⊢
    omega
 ·next hn =>
  have he : atF f l = l.length := by
   have := List.getElem?_eq_none_iff.1 hn
   omega
  rw [he, List.take_of_length_le (Nat.le_refl _)] at before
  exact List.pairwise_append.2 ⟨h, List.pairwise_singleton _ _, fun x hx y hy => by rw [List.mem_singleton.1 hy]; exact before x hx⟩
theorem made_ord (l : List I4) : OrdF (made l) := by
 have : ∀ (l : List I4) (a : List Ft), a.Pairwise ltF → (l.foldl (fun a x => insF a (mkF x)) a).Pairwise ltF := by
  intro l
  induction l with
  | nil => intro a ha; exact ha
  | cons x l ih => intro a ha; exact ih _ (ord_ins ha)
 have h := this (l.take 40) [] .nil
 intro i a b h1 h2
 obtain ⟨hi, rfl⟩ := List.getElem?_eq_some_iff.1 h1
 obtain ⟨hj, rfl⟩ := List.getElem?_eq_some_iff.1 h2
 exact List.pairwise_iff_getElem.1 h i (i + 1) hi hj (by omega)
theorem MF.VF {f : Ft} (h : MF f) : VF f := by
 obtain ⟨h1, h2, h3, h4, h5, h6, h7, h8, h9, h10⟩ := h
 exact ⟨by omega, by omega, by omega, by omega, by omega, by omega, h7, by omega, by omega, by omega⟩
theorem MF.FI {f : Ft} (h : MF f) : FI f := by
 obtain ⟨h1, h2, h3, h4, h5, h6, h7, h8, h9, h10⟩ := h
 constructor <;> constructor <;> omega
theorem made_VFs (l : List I4) : VFs (made l) := ⟨by have := made_len l; omega, fun f hf => (made_MF l f hf).VF, made_ord l⟩
theorem Jn0.cut {A : (World → Prop) → Prop} {B : World → Prop} (I : World → Prop) (hB : ∀ w, I w → B w) (hA : ∀ K : World → Prop, (∀ w, I w → K w) → A K) : Jn0 A B :=
 Jn0.mk fun K lf => hA K fun w hI => lf w (hB w hI)
theorem flat_oneF : ∀ l : List Ft, ((l.flatMap fF).all fun x => x.oneCell') = true
 | [] => rfl
 | f :: l => by rw [List.flatMap_cons, List.all_append, flat_oneF l]; rfl
theorem flat_one {l : List Ft} {k : Nat} : (((l.flatMap fF).drop (k * 10)).all fun x => x.oneCell') = true := by
 rw [flat_drop (f := fF) (c := 10) (fun _ => rfl)]
 exact flat_oneF _
theorem flat_two {l : List Ft} {k : Nat} {F : Ft} : ((fF F ++ (l.flatMap fF).drop (k * 10)).all fun x => x.oneCell') = true := by
 rw [List.all_append, flat_one]
 rfl
theorem ins_cells {l : List Ft} {k : Nat} {F : Ft} {v : Value} (hk : k ≤ l.length) : [ro tFt 10 v (k + (1 + (l.length - k))) ((l.flatMap fF).take (k * 10) ++ (fF F ++ (l.flatMap fF).drop (k * 10)))] = [ro tFt 10 v (l.take k ++ F :: l.drop k).length ((l.take k ++ F :: l.drop k).flatMap fF)] := by
 rw [flat_take (f := fF) (c := 10) (fun _ => rfl), flat_drop (f := fF) (c := 10) (fun _ => rfl), List.flatMap_append, List.flatMap_cons, List.length_append, List.length_take, List.length_cons, List.length_drop, Nat.min_eq_left hk]
 congr 2
 omega
section
variable {w0 : World} {v : Value} {l : List I4} (hv : SlC w0 4 v l.length (l.flatMap fQ)) (hok : ∀ x ∈ l, I4ok x) (hl : l.length ≤ 9223372036854775807)
include hv hok hl
set_option maxHeartbeats 16000000 in
theorem c_Made : Calls Tryz.prog 13 #[v] w0 (Ret fun r w' => ∃ u, r = u ∧ Hp [] w0 w' [ro tFt 10 u (made l).length ((made l).flatMap fF)]) := by
 apply e_ref14_MadeFacts
 unfold s_ref14_MadeFacts
 have h := Hp.init [] w0
 skip
 have h := h.nil tFt 10
 refine Lp2.mkK (fun a i W => ∃ (j : Nat) (m : List Ft), j ≤ 40 ∧ j ≤ l.length ∧ i = .int .i64 j ∧ m = (l.take j).foldl (fun a x => insF a (mkF x)) [] ∧ m.length ≤ j ∧ (∀ f ∈ m, MF f) ∧ Hp [] w0 W [ro tFt 10 a m.length (m.flatMap fF)])
  (fun _ i _ => match i with | .int _ x => 40 - x.toNat | _ => 0) ⟨0, [], by omega, by omega, rfl, rfl, by simp, by simp, h⟩ ?_
 clear h
 rintro a _ W ⟨j, m, hj, hjn, rfl, hm, hml, hmf, h⟩ K hK
 by_cases hjl : j < l.length
 rotate_left
 ·have e : made l = m := by
   rw [hm]; unfold made
   rw [take_all (l := l) (show l.length ≤ 40 by omega), take_all (l := l) (show l.length ≤ j by omega)]
  refine leS (hv.hp h) ?_
  refine Bn_ltF (by omega) (Gd_FT (Gd_FT (Pick_F (If_F ?_))))
  exact Ret.mk ⟨_, rfl, by rw [e]; exact h⟩
 by_cases hj40 : j < 40
 rotate_left
 ·have e : made l = m := by
   rw [hm]; unfold made
   rw [show j = 40 by omega]
  refine leS (hv.hp h) ?_
  refine Bn_ltT (by omega) (Gd_T (Gd_T (Bn_ltF (by omega) (Pick_T (If_F ?_)))))
  exact Ret.mk ⟨_, rfl, by rw [e]; exact h⟩
 refine Exists.elim (p := fun x => l[j]? = some x) ⟨_, List.getElem?_eq_getElem hjl⟩ fun x hx => ?_
 have sx : Seg (l.flatMap fQ) (j * 4) (fQ x) := flat_seg (f := fQ) (fun _ => rfl) hx
 have hxo := hok x (List.mem_of_getElem? hx)
 have i0 := hxo.1
 have i1 := hxo.2.1
 have i2 := hxo.2.2.1
 have i3 := hxo.2.2.2
 have cc1 := fun {W : World} (_ : Ext w0 W) => c_pickR (w := W) (n := 30) i0 (by decide) (by decide)
 have cc2 := fun {W : World} (_ : Ext w0 W) => c_pickR (w := W) (n := 4) (tdiv_Iw (n := 30) i0 (by decide)) (by decide) (by decide)
 have cc3 := fun {W : World} (_ : Ext w0 W) => c_pickR (w := W) (n := 2) i1 (by decide) (by decide)
 have cc4 := fun {W : World} (_ : Ext w0 W) => c_pickR (w := W) (n := 3) (tdiv_Iw (n := 2) i1 (by decide)) (by decide) (by decide)
 have cc5 := fun {W : World} (_ : Ext w0 W) => c_pickR (w := W) (n := 5) (tdiv_Iw (n := 6) i1 (by decide)) (by decide) (by decide)
 have cc6 := fun {W : World} (_ : Ext w0 W) => c_pickR (w := W) (n := 40) i2 (by decide) (by decide)
 have cc7 := fun {W : World} (_ : Ext w0 W) => c_pickR (w := W) (n := 100) (tdiv_Iw (n := 30) i1 (by decide)) (by decide) (by decide)
 have b5 := pz (c := x.2.1.tdiv 6) (n := 5) (m := 4) (by decide) (by decide)
 refine leS (hv.hp h) ?_
 refine Bn_ltT (by omega) (Gd_T (Gd_T (Bn_ltT (by omega) (Pick_T (If_T ?_)))))
 refine Jn1.lfb tFt [.int .i64 (pickZ x.1 30), .int .i64 (pickZ (x.1.tdiv 30) 4), .int .i64 (pickZ x.2.1 2), .int .i64 (pickZ (x.2.1.tdiv 2) 3), .int .i64 0, .int .i64 (pickZ (x.2.1.tdiv 6) 5 - 1), .int .i64 0, .int .i64 (pickZ x.2.2.1 40), .int .i64 0, .int .i64 (pickZ (x.2.1.tdiv 30) 100)] h (fun K lf1 => ?_) (fun gx w h => ?_)
 ·replace h := h.dr
  refine diH h ‹_› (by omega) fun zb zo zk zv zc => ?_
  refine diZ (by decide) (by decide) ?_
  refine dh1 h ‹_› ‹_› (by rfl) ?_
  refine diH h ‹_› (by omega) fun zb zo zk zv zc => ?_
  refine diZ (by decide) (by decide) ?_
  refine dh1 h ‹_› ‹_› (by rfl) ?_
  refine Dv_qt (by omega) (by omega) (by omega) (diH h ‹_› (by omega) fun zb zo zk zv zc => ?_)
  refine diZ (by decide) (by decide) ?_
  refine dh1 h ‹_› ‹_› (by rfl) ?_
  refine diH h ‹_› (by omega) fun zb zo zk zv zc => ?_
  refine diZ (by decide) (by decide) ?_
  refine dh1 h ‹_› ‹_› (by rfl) ?_
  refine Dv_qt (by omega) (by omega) (by omega) (diH h ‹_› (by omega) fun zb zo zk zv zc => ?_)
  refine diZ (by decide) (by decide) ?_
  refine dh1 h ‹_› ‹_› (by rfl) ?_
  refine Dv_qt (by omega) (by omega) (by omega) (diH h ‹_› (by omega) fun zb zo zk zv zc => ?_)
  refine diZ (by decide) (by decide) ?_
  refine dh1 h ‹_› ‹_› (by rfl) ?_
  refine diH h ‹_› (by omega) fun zb zo zk zv zc => ?_
  refine diZ (by decide) (by decide) ?_
  refine dh1 h ‹_› ‹_› (by rfl) ?_
  refine Dv_qt (by omega) (by omega) (by omega) ?_
  refine ⟨?_, ?_⟩
  refine cl1 h n_ref14_pick (cc1 h.ext) fun w h => ?_
  refine kh1 h ‹_› ‹_› (by rfl) ?_
  refine kh1 h ‹_› ‹_› (by rfl) ?_
  refine kh1 h ‹_› ‹_› (by rfl) ?_
  refine kh1 h ‹_› ‹_› (by rfl) ?_
  refine kh1 h ‹_› ‹_› (by rfl) ?_
  refine kh1 h ‹_› ‹_› (by rfl) ?_
  refine ⟨?_, ?_⟩
  refine cl1 h n_ref14_pick (cc2 h.ext) fun w h => ?_
  refine kh1 h ‹_› ‹_› (by rfl) ?_
  refine kh1 h ‹_› ‹_› (by rfl) ?_
  refine kh1 h ‹_› ‹_› (by rfl) ?_
  refine kh1 h ‹_› ‹_› (by rfl) ?_
  refine kh1 h ‹_› ‹_› (by rfl) ?_
  refine ⟨?_, ?_⟩
  refine cl1 h n_ref14_pick (cc3 h.ext) fun w h => ?_
  refine kh1 h ‹_› ‹_› (by rfl) ?_
  refine kh1 h ‹_› ‹_› (by rfl) ?_
  refine kh1 h ‹_› ‹_› (by rfl) ?_
  refine kh1 h ‹_› ‹_› (by rfl) ?_
  refine ⟨?_, ?_⟩
  refine cl1 h n_ref14_pick (cc4 h.ext) fun w h => ?_
  refine kh1 h ‹_› ‹_› (by rfl) ?_
  refine kh1 h ‹_› ‹_› (by rfl) ?_
  refine kh1 h ‹_› ‹_› (by rfl) ?_
  refine ⟨?_, ?_⟩
  refine cl1 h n_ref14_pick (cc5 h.ext) fun w h => ?_
  refine kh1 h ‹_› ‹_› (by rfl) ?_
  refine kh1 h ‹_› ‹_› (by rfl) ?_
  refine Dv_su (by omega) (by omega) ?_
  refine ⟨?_, ?_⟩
  refine cl1 h n_ref14_pick (cc6 h.ext) fun w h => ?_
  refine kh1 h ‹_› ‹_› (by rfl) ?_
  refine ⟨?_, ?_⟩
  refine cl1 h n_ref14_pick (cc7 h.ext) fun w h => ?_
  refine dbS (PC.cons (by rfl) (PC.cons (by rfl) (PC.cons (by rfl) (PC.cons (by rfl) (PC.cons (by rfl) (PC.cons (by rfl) (PC.cons (by rfl) PC.nil))))))) (by rfl) ?_
  refine alS h fun g1 w h => ?_
  refine kh1 h ‹_› ‹_› (by rfl) ?_
  refine kh1 h ‹_› ‹_› (by rfl) ?_
  refine kh1 h ‹_› ‹_› (by rfl) ?_
  refine kh1 h ‹_› ‹_› (by rfl) ?_
  refine kh1 h ‹_› ‹_› (by rfl) ?_
  refine kh1 h ‹_› ‹_› (by rfl) ?_
  refine kh1 h ‹_› ‹_› (by rfl) ?_
  refine stA h 0 rfl rfl rfl rfl fun w h => ?_
  exact lf1 _ _ h
  refine alS h fun g1 w h => ?_
  refine kh1 h ‹_› ‹_› (by rfl) ?_
  refine kh1 h ‹_› ‹_› (by rfl) ?_
  refine kh1 h ‹_› ‹_› (by rfl) ?_
  refine kh1 h ‹_› ‹_› (by rfl) ?_
  refine kh1 h ‹_› ‹_› (by rfl) ?_
  refine kh1 h ‹_› ‹_› (by rfl) ?_
  refine kh1 h ‹_› ‹_› (by rfl) ?_
  refine cl1 h n_ref14_pick (cc7 h.ext) fun w h => ?_
  refine dbS (PC.cons (by rfl) (PC.cons (by rfl) (PC.cons (by rfl) (PC.cons (by rfl) (PC.cons (by rfl) (PC.cons (by rfl) (PC.cons (by rfl) PC.nil))))))) (by rfl) ?_
  refine stA h 0 rfl rfl rfl rfl fun w h => ?_
  exact lf1 _ _ h
  refine alS h fun g1 w h => ?_
  refine kh1 h ‹_› ‹_› (by rfl) ?_
  refine kh1 h ‹_› ‹_› (by rfl) ?_
  refine kh1 h ‹_› ‹_› (by rfl) ?_
  refine kh1 h ‹_› ‹_› (by rfl) ?_
  refine kh1 h ‹_› ‹_› (by rfl) ?_
  refine kh1 h ‹_› ‹_› (by rfl) ?_
  refine kh1 h ‹_› ‹_› (by rfl) ?_
  refine cl1 h n_ref14_pick (cc6 h.ext) fun w h => ?_
  refine kh1 h ‹_› ‹_› (by rfl) ?_
  refine cl1 h n_ref14_pick (cc7 h.ext) fun w h => ?_
  refine dbS (PC.cons (by rfl) (PC.cons (by rfl) (PC.cons (by rfl) (PC.cons (by rfl) (PC.cons (by rfl) (PC.cons (by rfl) (PC.cons (by rfl) PC.nil))))))) (by rfl) ?_
  refine stA h 0 rfl rfl rfl rfl fun w h => ?_
  exact lf1 _ _ h
  refine alS h fun g1 w h => ?_
  refine kh1 h ‹_› ‹_› (by rfl) ?_
  refine kh1 h ‹_› ‹_› (by rfl) ?_
  refine kh1 h ‹_› ‹_› (by rfl) ?_
  refine kh1 h ‹_› ‹_› (by rfl) ?_
  refine kh1 h ‹_› ‹_› (by rfl) ?_
  refine kh1 h ‹_› ‹_› (by rfl) ?_
  refine kh1 h ‹_› ‹_› (by rfl) ?_
  refine cl1 h n_ref14_pick (cc5 h.ext) fun w h => ?_
  refine kh1 h ‹_› ‹_› (by rfl) ?_
  refine kh1 h ‹_› ‹_› (by rfl) ?_
  refine Dv_su (by omega) (by omega) (cl1 h n_ref14_pick (cc6 h.ext) fun w h => ?_)
  refine kh1 h ‹_› ‹_› (by rfl) ?_
  refine cl1 h n_ref14_pick (cc7 h.ext) fun w h => ?_
  refine dbS (PC.cons (by rfl) (PC.cons (by rfl) (PC.cons (by rfl) (PC.cons (by rfl) (PC.cons (by rfl) (PC.cons (by rfl) (PC.cons (by rfl) PC.nil))))))) (by rfl) ?_
  refine stA h 0 rfl rfl rfl rfl fun w h => ?_
  exact lf1 _ _ h
  refine alS h fun g1 w h => ?_
  refine kh1 h ‹_› ‹_› (by rfl) ?_
  refine kh1 h ‹_› ‹_› (by rfl) ?_
  refine kh1 h ‹_› ‹_› (by rfl) ?_
  refine kh1 h ‹_› ‹_› (by rfl) ?_
  refine kh1 h ‹_› ‹_› (by rfl) ?_
  refine kh1 h ‹_› ‹_› (by rfl) ?_
  refine kh1 h ‹_› ‹_› (by rfl) ?_
  refine cl1 h n_ref14_pick (cc4 h.ext) fun w h => ?_
  refine kh1 h ‹_› ‹_› (by rfl) ?_
  refine kh1 h ‹_› ‹_› (by rfl) ?_
  refine kh1 h ‹_› ‹_› (by rfl) ?_
  refine cl1 h n_ref14_pick (cc5 h.ext) fun w h => ?_
  refine kh1 h ‹_› ‹_› (by rfl) ?_
  refine kh1 h ‹_› ‹_› (by rfl) ?_
  refine Dv_su (by omega) (by omega) (cl1 h n_ref14_pick (cc6 h.ext) fun w h => ?_)
  refine kh1 h ‹_› ‹_› (by rfl) ?_
  refine cl1 h n_ref14_pick (cc7 h.ext) fun w h => ?_
  refine dbS (PC.cons (by rfl) (PC.cons (by rfl) (PC.cons (by rfl) (PC.cons (by rfl) (PC.cons (by rfl) (PC.cons (by rfl) (PC.cons (by rfl) PC.nil))))))) (by rfl) ?_
  refine stA h 0 rfl rfl rfl rfl fun w h => ?_
  exact lf1 _ _ h
  refine alS h fun g1 w h => ?_
  refine kh1 h ‹_› ‹_› (by rfl) ?_
  refine kh1 h ‹_› ‹_› (by rfl) ?_
  refine kh1 h ‹_› ‹_› (by rfl) ?_
  refine kh1 h ‹_› ‹_› (by rfl) ?_
  refine kh1 h ‹_› ‹_› (by rfl) ?_
  refine kh1 h ‹_› ‹_› (by rfl) ?_
  refine kh1 h ‹_› ‹_› (by rfl) ?_
  refine cl1 h n_ref14_pick (cc3 h.ext) fun w h => ?_
  refine kh1 h ‹_› ‹_› (by rfl) ?_
  refine kh1 h ‹_› ‹_› (by rfl) ?_
  refine kh1 h ‹_› ‹_› (by rfl) ?_
  refine kh1 h ‹_› ‹_› (by rfl) ?_
  refine cl1 h n_ref14_pick (cc4 h.ext) fun w h => ?_
  refine kh1 h ‹_› ‹_› (by rfl) ?_
  refine kh1 h ‹_› ‹_› (by rfl) ?_
  refine kh1 h ‹_› ‹_› (by rfl) ?_
  refine cl1 h n_ref14_pick (cc5 h.ext) fun w h => ?_
  refine kh1 h ‹_› ‹_› (by rfl) ?_
  refine kh1 h ‹_› ‹_› (by rfl) ?_
  refine Dv_su (by omega) (by omega) (cl1 h n_ref14_pick (cc6 h.ext) fun w h => ?_)
  refine kh1 h ‹_› ‹_› (by rfl) ?_
  refine cl1 h n_ref14_pick (cc7 h.ext) fun w h => ?_
  refine dbS (PC.cons (by rfl) (PC.cons (by rfl) (PC.cons (by rfl) (PC.cons (by rfl) (PC.cons (by rfl) (PC.cons (by rfl) (PC.cons (by rfl) PC.nil))))))) (by rfl) ?_
  refine stA h 0 rfl rfl rfl rfl fun w h => ?_
  exact lf1 _ _ h
  refine alS h fun g1 w h => ?_
  refine kh1 h ‹_› ‹_› (by rfl) ?_
  refine kh1 h ‹_› ‹_› (by rfl) ?_
  refine kh1 h ‹_› ‹_› (by rfl) ?_
  refine kh1 h ‹_› ‹_› (by rfl) ?_
  refine kh1 h ‹_› ‹_› (by rfl) ?_
  refine kh1 h ‹_› ‹_› (by rfl) ?_
  refine kh1 h ‹_› ‹_› (by rfl) ?_
  refine cl1 h n_ref14_pick (cc2 h.ext) fun w h => ?_
  refine kh1 h ‹_› ‹_› (by rfl) ?_
  refine kh1 h ‹_› ‹_› (by rfl) ?_
  refine kh1 h ‹_› ‹_› (by rfl) ?_
  refine kh1 h ‹_› ‹_› (by rfl) ?_
  refine kh1 h ‹_› ‹_› (by rfl) ?_
  refine cl1 h n_ref14_pick (cc3 h.ext) fun w h => ?_
  refine kh1 h ‹_› ‹_› (by rfl) ?_
  refine kh1 h ‹_› ‹_› (by rfl) ?_
  refine kh1 h ‹_› ‹_› (by rfl) ?_
  refine kh1 h ‹_› ‹_› (by rfl) ?_
  refine cl1 h n_ref14_pick (cc4 h.ext) fun w h => ?_
  refine kh1 h ‹_› ‹_› (by rfl) ?_
  refine kh1 h ‹_› ‹_› (by rfl) ?_
  refine kh1 h ‹_› ‹_› (by rfl) ?_
  refine cl1 h n_ref14_pick (cc5 h.ext) fun w h => ?_
  refine kh1 h ‹_› ‹_› (by rfl) ?_
  refine kh1 h ‹_› ‹_› (by rfl) ?_
  refine Dv_su (by omega) (by omega) (cl1 h n_ref14_pick (cc6 h.ext) fun w h => ?_)
  refine kh1 h ‹_› ‹_› (by rfl) ?_
  refine cl1 h n_ref14_pick (cc7 h.ext) fun w h => ?_
  refine dbS (PC.cons (by rfl) (PC.cons (by rfl) (PC.cons (by rfl) (PC.cons (by rfl) (PC.cons (by rfl) (PC.cons (by rfl) (PC.cons (by rfl) PC.nil))))))) (by rfl) ?_
  refine stA h 0 rfl rfl rfl rfl fun w h => ?_
  exact lf1 _ _ h
  refine alS h fun g1 w h => ?_
  refine kh1 h ‹_› ‹_› (by rfl) ?_
  refine kh1 h ‹_› ‹_› (by rfl) ?_
  refine kh1 h ‹_› ‹_› (by rfl) ?_
  refine kh1 h ‹_› ‹_› (by rfl) ?_
  refine kh1 h ‹_› ‹_› (by rfl) ?_
  refine kh1 h ‹_› ‹_› (by rfl) ?_
  refine kh1 h ‹_› ‹_› (by rfl) ?_
  refine cl1 h n_ref14_pick (cc1 h.ext) fun w h => ?_
  refine kh1 h ‹_› ‹_› (by rfl) ?_
  refine kh1 h ‹_› ‹_› (by rfl) ?_
  refine kh1 h ‹_› ‹_› (by rfl) ?_
  refine kh1 h ‹_› ‹_› (by rfl) ?_
  refine kh1 h ‹_› ‹_› (by rfl) ?_
  refine kh1 h ‹_› ‹_› (by rfl) ?_
  refine cl1 h n_ref14_pick (cc2 h.ext) fun w h => ?_
  refine kh1 h ‹_› ‹_› (by rfl) ?_
  refine kh1 h ‹_› ‹_› (by rfl) ?_
  refine kh1 h ‹_› ‹_› (by rfl) ?_
  refine kh1 h ‹_› ‹_› (by rfl) ?_
  refine kh1 h ‹_› ‹_› (by rfl) ?_
  refine cl1 h n_ref14_pick (cc3 h.ext) fun w h => ?_
  refine kh1 h ‹_› ‹_› (by rfl) ?_
  refine kh1 h ‹_› ‹_› (by rfl) ?_
  refine kh1 h ‹_› ‹_› (by rfl) ?_
  refine kh1 h ‹_› ‹_› (by rfl) ?_
  refine cl1 h n_ref14_pick (cc4 h.ext) fun w h => ?_
  refine kh1 h ‹_› ‹_› (by rfl) ?_
  refine kh1 h ‹_› ‹_› (by rfl) ?_
  refine kh1 h ‹_› ‹_› (by rfl) ?_
  refine cl1 h n_ref14_pick (cc5 h.ext) fun w h => ?_
  refine kh1 h ‹_› ‹_› (by rfl) ?_
  refine kh1 h ‹_› ‹_› (by rfl) ?_
  refine Dv_su (by omega) (by omega) (cl1 h n_ref14_pick (cc6 h.ext) fun w h => ?_)
  refine kh1 h ‹_› ‹_› (by rfl) ?_
  refine cl1 h n_ref14_pick (cc7 h.ext) fun w h => ?_
  refine dbS (PC.cons (by rfl) (PC.cons (by rfl) (PC.cons (by rfl) (PC.cons (by rfl) (PC.cons (by rfl) (PC.cons (by rfl) (PC.cons (by rfl) PC.nil))))))) (by rfl) ?_
  refine stA h 0 rfl rfl rfl rfl fun w h => ?_
  exact lf1 _ _ h
 clear cc1 cc2 cc3 cc4 cc5 cc6 cc7 b5
 have b1 := pz (c := x.2.1) (n := 2) (m := 1) (by decide) (by decide)
 have b2 := pz (c := x.2.1.tdiv 3000) (n := 2) (m := 1) (by decide) (by decide)
 have cc1 := fun {W : World} (_ : Ext w0 W) => c_pickR (w := W) (n := 2) (tdiv_Iw (n := 3000) i1 (by decide)) (by decide) (by decide)
 replace h := h.dr
 refine dfS (dl1 h 0 rfl rfl (Dv_mu (by omega) (by omega) (diH h ‹_› (by omega) fun zb zo zk zv zc => ?_)))
 refine diZ (by decide) (by decide) ?_
 refine dh1 h ‹_› ‹_› (by rfl) ?_
 refine Dv_qt (by omega) (by omega) (by omega) (cl1 h n_ref14_pick (cc1 h.ext) fun w h => ?_)
 refine kl1 h 0 rfl rfl (Dv_ad (by omega) (by omega) (dfS (st1 h 0 rfl rfl rfl rfl fun w h => ?_)))
 dsimp only [List.set] at h
 have a1 := pz (c := x.2.2.2) (n := 4) (m := 3) (by decide) (by decide)
 have cc2 := fun {W : World} (_ : Ext w0 W) => c_pickR (w := W) (n := 4) i3 (by decide) (by decide)
 have cc3 := fun {W : World} (_ : Ext w0 W) => c_pickR (w := W) (n := 2199023255552) i2 (by decide) (by decide)
 have elo : (mkF x).lo = if pickZ x.2.2.2 4 = 3 then pickZ x.2.2.1 2199023255552 else pickZ x.2.2.1 40 := rfl
 refine Jn0.cut (fun w => Hp [] w0 w [bx gx tFt [.int .i64 (mkF x).tr, .int .i64 (mkF x).sp, .int .i64 (mkF x).sv, .int .i64 (mkF x).ve, .int .i64 (mkF x).op, .int .i64 (mkF x).pe, .int .i64 0, .int .i64 (mkF x).lo, .int .i64 0, .int .i64 (mkF x).by'], ro tFt 10 a m.length (m.flatMap fF)]) ?_ ?_
 rotate_left
 ·intro K lf1
  by_cases h3 : pickZ x.2.2.2 4 = 3
  ·rw [if_pos h3] at elo
   refine iaH h ‹_› (by omega) fun zb zo zk zv zc => ?_
   refine iaZ (by decide) (by decide) ?_
   refine lh1 h ‹_› ‹_› (by rfl) ?_
   refine cl1 h n_ref14_pick (cc2 h.ext) fun w h => ?_
   refine Bn_eqT (by omega) (If_T (iaH h ‹_› (by omega) fun zb zo zk zv zc => ?_))
   refine iaZ (by decide) (by decide) ?_
   refine lh1 h ‹_› ‹_› (by rfl) ?_
   refine cl1 h n_ref14_pick (cc3 h.ext) fun w h => ?_
   refine faS (st1 h 0 rfl rfl rfl rfl fun w h => ?_)
   dsimp only [List.set] at h
   refine lf1 _ ?_
   rw [elo]
   exact h
  ·rw [if_neg h3] at elo
   refine iaH h ‹_› (by omega) fun zb zo zk zv zc => ?_
   refine iaZ (by decide) (by decide) ?_
   refine lh1 h ‹_› ‹_› (by rfl) ?_
   refine cl1 h n_ref14_pick (cc2 h.ext) fun w h => ?_
   refine Bn_eqF (by omega) (If_F (lf1 _ ?_))
   rw [elo]
   exact h
 clear h elo cc1 cc2 cc3 a1 b1 b2
 intro w h
 have mok := mkF_ok x
 have p1 := pz (c := x.2.2.2.tdiv 4) (n := 3) (m := 2) (by decide) (by decide)
 have p2 := pz (c := x.2.2.2.tdiv 12) (n := 30) (m := 29) (by decide) (by decide)
 have pm := Int.mul_nonneg p1.1 p2.1
 have pm2 := Int.mul_le_mul p1.2 p2.2 p2.1 (by decide)
 have cc1 := fun {W : World} (_ : Ext w0 W) => c_pickR (w := W) (n := 3) (tdiv_Iw (n := 4) i3 (by decide)) (by decide) (by decide)
 have cc2 := fun {W : World} (_ : Ext w0 W) => c_pickR (w := W) (n := 30) (tdiv_Iw (n := 12) i3 (by decide)) (by decide) (by decide)
 have ehi : (mkF x).hi = (mkF x).lo + pickZ (x.2.2.2.tdiv 4) 3 * pickZ (x.2.2.2.tdiv 12) 30 := rfl
 have eda : (mkF x).da = (mkF x).tr / 10 := rfl
 have emd : (l.take (j + 1)).foldl (fun a x => insF a (mkF x)) [] = insF m (mkF x) := by rw [take_snoc hx, List.foldl_append, ← hm]; rfl
 refine Exists.elim (p := fun F => mkF x = F) ⟨_, rfl⟩ fun F hF => ?_
 rw [hF] at h mok ehi eda emd
 have m1 := mok.tr
 have m2 := mok.sp
 have m8 := mok.lo
 have m9 := mok.hi
 replace h := h.dr
 refine dfS (dl1 h 0 rfl rfl (diH h ‹_› (by omega) fun zb zo zk zv zc => ?_))
 refine diZ (by decide) (by decide) ?_
 refine dh1 h ‹_› ‹_› (by rfl) ?_
 refine Dv_qt (by omega) (by omega) (by omega) (diH h ‹_› (by omega) fun zb zo zk zv zc => ?_)
 refine diZ (by decide) (by decide) ?_
 refine dh1 h ‹_› ‹_› (by rfl) ?_
 refine Dv_qt (by omega) (by omega) (by omega) (cl1 h n_ref14_pick (cc1 h.ext) fun w h => ?_)
 refine kl1 h 0 rfl rfl (kh1 h ‹_› ‹_› (by rfl) ?_)
 refine cl1 h n_ref14_pick (cc2 h.ext) fun w h => ?_
 refine kl1 h 0 rfl rfl (Dv_mu (by omega) (by omega) (Dv_ad (by omega) (by omega) (dfS (st1 h 0 rfl rfl rfl rfl fun w h => ?_))))
 refine faS (Eng.ld1 h 0 rfl rfl (Bn_qu (by omega) (by omega) (by omega) (faS (st1 h 0 rfl rfl rfl rfl fun w h => ?_))))
 dsimp only [List.set] at h
 rw [← ehi, ← eda] at h
 have done : ∀ {W : World} {u : Value}, Hp [] w0 W [ro tFt 10 u (insF m F).length ((insF m F).flatMap fF)] → K u (.int .i64 ((j : Int) + 1)) W := fun h =>
  hK _ _ _ ⟨j + 1, insF m F, by omega, by omega, rfl, emd.symm, by have := insF_len m F; omega, fun f hf => by
   rcases insF_mem hf with h | h
   ·exact hmf f h
   ·rw [h, ← hF]; exact mkF_ok x, h⟩ (by show 40 - ((j : Int) + 1).toNat < 40 - (j : Int).toNat; omega)
 clear hK cc1 cc2
 have hat := atF_le F m
 refine Lp1.mkK (fun i W => ∃ k : Nat, k ≤ atF F m ∧ i = .int .i64 k ∧ Hp [] w0 W [bx gx tFt (fF F), ro tFt 10 a m.length (m.flatMap fF)])
  (fun i _ => match i with | .int _ x => m.length - x.toNat | _ => 0) ⟨0, by omega, rfl, h⟩ ?_
 clear h
 rintro _ W ⟨k, hk, rfl, h⟩ K2 hK2
 have hkm : k ≤ m.length := by omega
 by_cases hkl : k < m.length
 ·refine Exists.elim (p := fun x => m[k]? = some x) ⟨_, List.getElem?_eq_getElem hkl⟩ fun g hg => ?_
  have sg : Seg (m.flatMap fF) (k * 10) (fF g) := flat_seg (f := fF) (fun _ => rfl) hg
  by_cases hka : k < atF F m
  ·have hb := atF_in hka hg
   by_cases ht : g.tr < F.tr
   ·replace h := h.dr
    refine dlS (qZ 1 h rfl) ?_
    refine Dv_ltT (by omega) (GdP_T (GdP_T (GdP_T (diR h 1 rfl (by omega) fun zg zk zv => ?_))))
    refine GdP_T (dfS (GdP_T (dr1 h 1 rfl ‹_› sg (by rfl) ?_)))
    refine GdP_T (dfS (GdP_T (dl1 h 0 rfl rfl (GdP_T (Dv_ltT (by omega) (GdP_T (GdP_TF (GdP_TF (GdP_TF (GdP_TF (GdP_TF (GdP_TF (GdP_TF (GdP_TF (GdP_TF (GdP_U (GdP_U (GdP_U (GdP_U (GdP_U (GdP_U (GdP_U (GdP_U (GdP_TF (GdP_T (PickP_T (PickP_T (If_T (Bn_ad (by omega) (by omega) ?_)))))))))))))))))))))))))))))
    exact hK2 _ _ ⟨k + 1, by omega, rfl, h⟩ (by show m.length - ((k : Int) + 1).toNat < m.length - (k : Int).toNat; omega)
   ·have hb2 : g.tr = F.tr ∧ g.sp < F.sp := by
     unfold bef at hb
     simp only [Bool.or_eq_true, Bool.and_eq_true, decide_eq_true_eq] at hb
     omega
    have hb3 := hb2.1
    have hb4 := hb2.2
    replace h := h.dr
    refine dlS (qZ 1 h rfl) ?_
    refine Dv_ltT (by omega) (GdP_T (GdP_T (GdP_T (diR h 1 rfl (by omega) fun zg zk zv => ?_))))
    refine GdP_T (dfS (GdP_T (dr1 h 1 rfl ‹_› sg (by rfl) ?_)))
    refine GdP_T (dfS (GdP_T (dl1 h 0 rfl rfl (GdP_T (Dv_ltF (by omega) (GdP_T (GdP_F (GdP_F (GdP_F (diR h 1 rfl (by omega) fun zg zk zv => ?_))))))))))
    refine GdP_F (dfS (GdP_F (dr1 h 1 rfl ‹_› sg (by rfl) ?_)))
    refine GdP_F (dfS (GdP_F (dl1 h 0 rfl rfl (GdP_F (Dv_eqT (by omega) (GdP_F (GdP_T (GdP_T (GdP_T (diR h 1 rfl (by omega) fun zg zk zv => ?_))))))))))
    refine GdP_T (dfS (GdP_T (dr1 h 1 rfl ‹_› sg (by rfl) ?_)))
    refine GdP_T (dfS (GdP_T (dl1 h 0 rfl rfl (GdP_T (Dv_ltT (by omega) (GdP_F (PickP_T (GdP_T (PickP_F (PickP_T (If_T (Bn_ad (by omega) (by omega) ?_))))))))))))
    exact hK2 _ _ ⟨k + 1, by omega, rfl, h⟩ (by show m.length - ((k : Int) + 1).toNat < m.length - (k : Int).toNat; omega)
  ·have ek : k = atF F m := by omega
   have hb := atF_out (f := F) (l := m) (x := g) (by rw [← ek]; exact hg)
   have hb2 : ¬ g.tr < F.tr ∧ ¬ (g.tr = F.tr ∧ g.sp < F.sp) := by
    unfold bef at hb
    simp only [Bool.or_eq_false_iff, Bool.and_eq_false_iff, decide_eq_false_iff_not] at hb
    omega
   clear hK2
   by_cases hq : g.tr = F.tr
   ·by_cases hs : g.sp = F.sp
    ·have ei : insF m F = m := by unfold insF; rw [← ek, hg]; exact if_pos ⟨hq, hs⟩
     rw [ei] at done
     replace h := h.dr
     refine dlS (qZ 1 h rfl) ?_
     refine Dv_ltT (by omega) (GdP_T (GdP_T (GdP_T (diR h 1 rfl (by omega) fun zg zk zv => ?_))))
     refine GdP_T (dfS (GdP_T (dr1 h 1 rfl ‹_› sg (by rfl) ?_)))
     refine GdP_T (dfS (GdP_T (dl1 h 0 rfl rfl (GdP_T (Dv_ltF (by omega) (GdP_T (GdP_F (GdP_F (GdP_F (diR h 1 rfl (by omega) fun zg zk zv => ?_))))))))))
     refine GdP_F (dfS (GdP_F (dr1 h 1 rfl ‹_› sg (by rfl) ?_)))
     refine GdP_F (dfS (GdP_F (dl1 h 0 rfl rfl (GdP_F (Dv_eqT (by omega) (GdP_F (GdP_T (GdP_T (GdP_T (diR h 1 rfl (by omega) fun zg zk zv => ?_))))))))))
     refine GdP_T (dfS (GdP_T (dr1 h 1 rfl ‹_› sg (by rfl) ?_)))
     refine GdP_T (dfS (GdP_T (dl1 h 0 rfl rfl (GdP_T (Dv_ltF (by omega) (GdP_F (PickP_T (GdP_T (PickP_F (PickP_T (If_F ?_)))))))))))
     replace h := h.dr
     refine dlS (qZ 1 h rfl) ?_
     refine Dv_ltT (by omega) (GdP_T (GdP_T (GdP_T (diR h 1 rfl (by omega) fun zg zk zv => ?_))))
     refine GdP_T (dfS (GdP_T (dr1 h 1 rfl ‹_› sg (by rfl) ?_)))
     refine GdP_T (dfS (GdP_T (dl1 h 0 rfl rfl (GdP_T (Dv_eqT (by omega) (PickP_T (GdP_T (GdP_T (GdP_T (diR h 1 rfl (by omega) fun zg zk zv => ?_))))))))))
     refine GdP_T (dfS (GdP_T (dr1 h 1 rfl ‹_› sg (by rfl) ?_)))
     refine GdP_T (dfS (GdP_T (dl1 h 0 rfl rfl (GdP_T (Dv_eqT (by omega) (PickP_T (If_T (Bn_ad (by omega) (by omega) ?_))))))))
     exact done (h.drop 1)
    ·have ei : insF m F = m.take k ++ F :: m.drop k := by unfold insF; rw [← ek, hg]; exact if_neg fun h => hs h.2
     have hs2 : ¬ g.sp < F.sp := fun h => hb2.2 ⟨hq, h⟩
     rw [ei] at done
     replace h := h.dr
     refine dlS (qZ 1 h rfl) ?_
     refine Dv_ltT (by omega) (GdP_T (GdP_T (GdP_T (diR h 1 rfl (by omega) fun zg zk zv => ?_))))
     refine GdP_T (dfS (GdP_T (dr1 h 1 rfl ‹_› sg (by rfl) ?_)))
     refine GdP_T (dfS (GdP_T (dl1 h 0 rfl rfl (GdP_T (Dv_ltF (by omega) (GdP_T (GdP_F (GdP_F (GdP_F (diR h 1 rfl (by omega) fun zg zk zv => ?_))))))))))
     refine GdP_F (dfS (GdP_F (dr1 h 1 rfl ‹_› sg (by rfl) ?_)))
     refine GdP_F (dfS (GdP_F (dl1 h 0 rfl rfl (GdP_F (Dv_eqT (by omega) (GdP_F (GdP_T (GdP_T (GdP_T (diR h 1 rfl (by omega) fun zg zk zv => ?_))))))))))
     refine GdP_T (dfS (GdP_T (dr1 h 1 rfl ‹_› sg (by rfl) ?_)))
     refine GdP_T (dfS (GdP_T (dl1 h 0 rfl rfl (GdP_T (Dv_ltF (by omega) (GdP_F (PickP_T (GdP_T (PickP_F (PickP_T (If_F ?_)))))))))))
     replace h := h.dr
     refine dlS (qZ 1 h rfl) ?_
     refine Dv_ltT (by omega) (GdP_T (GdP_T (GdP_T (diR h 1 rfl (by omega) fun zg zk zv => ?_))))
     refine GdP_T (dfS (GdP_T (dr1 h 1 rfl ‹_› sg (by rfl) ?_)))
     refine GdP_T (dfS (GdP_T (dl1 h 0 rfl rfl (GdP_T (Dv_eqT (by omega) (PickP_T (GdP_T (GdP_T (GdP_T (diR h 1 rfl (by omega) fun zg zk zv => ?_))))))))))
     refine GdP_T (dfS (GdP_T (dr1 h 1 rfl ‹_› sg (by rfl) ?_)))
     refine GdP_T (dfS (GdP_T (dl1 h 0 rfl rfl (GdP_T (Dv_eqF (by omega) (PickP_T (If_F ?_)))))))
     replace h := h.dr
     refine dscF (qZ 1 h rfl) (by omega) fun v7 p7 f7 => ?_
     refine dlA h 0 rfl rfl ?_
     refine dscL (qZ 1 h rfl) (by omega) fun v8 p8 => ?_
     skip
     refine bs1A h (by rfl) (by decide) (by rfl) (by decide) fun v1 w h => ?_
     refine apR (by rfl) (by decide) h 0 rfl (p8.2 _ (qZ 2 h rfl)) (by exact flat_one (l := m) (k := k)) (by omega) fun v9 w h => ?_
     refine apF (by rfl) (by decide) h (p7.2 _ (qZ 2 h rfl)) f7 (qZ 0 h rfl) (by omega) (by exact flat_two (l := m) (k := k)) (by omega) fun v10 w h => ?_
     refine Bn_ad (by omega) (by omega) (done ?_)
     exact (h.sub (L' := [ro tFt 10 v10 (k + (1 + (m.length - k))) ((m.flatMap fF).take (k * 10) ++ (fF F ++ (m.flatMap fF).drop (k * 10)))]) (by simp)).cst (by rw [ins_cells hkm])
   ·have ei : insF m F = m.take k ++ F :: m.drop k := by unfold insF; rw [← ek, hg]; exact if_neg fun h => hq h.1
    have hb3 := hb2.1
    rw [ei] at done
    replace h := h.dr
    refine dlS (qZ 1 h rfl) ?_
    refine Dv_ltT (by omega) (GdP_T (GdP_T (GdP_T (diR h 1 rfl (by omega) fun zg zk zv => ?_))))
    refine GdP_T (dfS (GdP_T (dr1 h 1 rfl ‹_› sg (by rfl) ?_)))
    refine GdP_T (dfS (GdP_T (dl1 h 0 rfl rfl (GdP_T (Dv_ltF (by omega) (GdP_T (GdP_F (GdP_F (GdP_F (diR h 1 rfl (by omega) fun zg zk zv => ?_))))))))))
    refine GdP_F (dfS (GdP_F (dr1 h 1 rfl ‹_› sg (by rfl) ?_)))
    refine GdP_F (dfS (GdP_F (dl1 h 0 rfl rfl (GdP_F (Dv_eqF (by omega) (GdP_F (GdP_FT (GdP_FT (GdP_FT (GdP_FT (GdP_FT (GdP_FT (GdP_FT (GdP_FT (GdP_F (PickP_F (GdP_T (PickP_F (PickP_T (If_F ?_))))))))))))))))))))
    replace h := h.dr
    refine dlS (qZ 1 h rfl) ?_
    refine Dv_ltT (by omega) (GdP_T (GdP_T (GdP_T (diR h 1 rfl (by omega) fun zg zk zv => ?_))))
    refine GdP_T (dfS (GdP_T (dr1 h 1 rfl ‹_› sg (by rfl) ?_)))
    refine GdP_T (dfS (GdP_T (dl1 h 0 rfl rfl (GdP_T (Dv_eqF (by omega) (PickP_T (GdP_FT (GdP_FT (GdP_FT (GdP_FT (GdP_FT (GdP_FT (GdP_FT (GdP_FT (PickP_F (If_F ?_))))))))))))))))
    replace h := h.dr
    refine dscF (qZ 1 h rfl) (by omega) fun v7 p7 f7 => ?_
    refine dlA h 0 rfl rfl ?_
    refine dscL (qZ 1 h rfl) (by omega) fun v8 p8 => ?_
    skip
    refine bs1A h (by rfl) (by decide) (by rfl) (by decide) fun v1 w h => ?_
    refine apR (by rfl) (by decide) h 0 rfl (p8.2 _ (qZ 2 h rfl)) (by exact flat_one (l := m) (k := k)) (by omega) fun v9 w h => ?_
    refine apF (by rfl) (by decide) h (p7.2 _ (qZ 2 h rfl)) f7 (qZ 0 h rfl) (by omega) (by exact flat_two (l := m) (k := k)) (by omega) fun v10 w h => ?_
    refine Bn_ad (by omega) (by omega) (done ?_)
    exact (h.sub (L' := [ro tFt 10 v10 (k + (1 + (m.length - k))) ((m.flatMap fF).take (k * 10) ++ (fF F ++ (m.flatMap fF).drop (k * 10)))]) (by simp)).cst (by rw [ins_cells hkm])
 ·have ea : atF F m = k := by omega
  have ei : insF m F = m.take k ++ F :: m.drop k := by
   unfold insF
   rw [ea, List.getElem?_eq_none (by omega), List.take_of_length_le (by omega), List.drop_of_length_le (by omega)]
  rw [ei] at done
  replace h := h.dr
  refine dlS (qZ 1 h rfl) ?_
  refine Dv_ltF (by omega) (GdP_FT (GdP_FT (GdP_FT (GdP_FT (GdP_FT (GdP_FT (GdP_FT (GdP_FT (GdP_FT (GdP_U (GdP_U (GdP_U (GdP_U (GdP_U (GdP_U (GdP_U (GdP_U (GdP_U (GdP_U (GdP_U (GdP_U (GdP_U (GdP_U (GdP_U (GdP_U (GdP_U (GdP_U (GdP_FT (PickP_F (If_F ?_))))))))))))))))))))))))))))))
  replace h := h.dr
  refine dlS (qZ 1 h rfl) ?_
  refine Dv_ltF (by omega) (GdP_FT (GdP_FT (GdP_FT (GdP_FT (GdP_FT (GdP_FT (GdP_FT (GdP_FT (PickP_F (GdP_FT (GdP_FT (GdP_FT (GdP_FT (GdP_FT (GdP_FT (GdP_FT (GdP_FT (PickP_F (If_F ?_)))))))))))))))))))
  replace h := h.dr
  refine dscF (qZ 1 h rfl) (by omega) fun v7 p7 f7 => ?_
  refine dlA h 0 rfl rfl ?_
  refine dscL (qZ 1 h rfl) (by omega) fun v8 p8 => ?_
  skip
  refine bs1A h (by rfl) (by decide) (by rfl) (by decide) fun v1 w h => ?_
  refine apR (by rfl) (by decide) h 0 rfl (p8.2 _ (qZ 2 h rfl)) (by exact flat_one (l := m) (k := k)) (by omega) fun v9 w h => ?_
  refine apF (by rfl) (by decide) h (p7.2 _ (qZ 2 h rfl)) f7 (qZ 0 h rfl) (by omega) (by exact flat_two (l := m) (k := k)) (by omega) fun v10 w h => ?_
  refine Bn_ad (by omega) (by omega) (done ?_)
  exact (h.sub (L' := [ro tFt 10 v10 (k + (1 + (m.length - k))) ((m.flatMap fF).take (k * 10) ++ (fF F ++ (m.flatMap fF).drop (k * 10)))]) (by simp)).cst (by rw [ins_cells hkm])
end
open Go.Smp (trs hdK trs_new trs_more)
section
variable {w0 : World} {v : Value} {l : List Int} (hv : SlC w0 1 v l.length (l.flatMap fZ)) (hok : ∀ x ∈ l, Iw x) (hl : l.length ≤ 9223372036854775807)
include hv hok hl
set_option maxHeartbeats 4000000 in
theorem c_weights : Calls Tryz.prog 14 #[v] w0 (Ret fun r w' => ∃ (u : Value) (ws : List Int), r = u ∧ ws.length = 8 ∧ (∀ x ∈ ws, 1 ≤ x ∧ x ≤ 1000) ∧ Hp [] w0 w' [ro tI 1 u 8 (ws.flatMap fZ)]) := by
 apply e_law15_weights
 unfold s_law15_weights
 have h := Hp.init [] w0
 have cr1 : ∀ {W : World}, Ext w0 W → Calls Tryz.prog 29 #[] W (Ret fun r w' => ∃ v, r = v ∧ Hp [] W w' [ro tI 1 v 8 (w8.flatMap fZ)]) := fun _ => c_ones2
 refine clR h n_law15_ones (cr1 h.ext) fun v1 w h => ?_
 refine Lp1.mk (fun i W => ∃ (j : Nat) (ws : List Int), j ≤ 8 ∧ j ≤ l.length ∧ i = .int .i64 j ∧ ws.length = 8 ∧ (∀ x ∈ ws, 1 ≤ x ∧ x ≤ 1000) ∧ Hp [] w0 W [ro tI 1 v1 8 (ws.flatMap fZ)])
  (fun i _ => match i with | .int _ x => 8 - x.toNat | _ => 0) ⟨0, w8, by omega, by omega, rfl, rfl, by decide, h⟩ ?_
 clear h
 rintro _ W ⟨j, ws, hj, hjn, rfl, hws, hwb, h⟩
 by_cases hjl : j < l.length
 rotate_left
 ·refine leS (hv.hp h) ?_
  refine Bn_ltF (by omega) (Gd_FT (Gd_FT (Pick_F (If_F ?_))))
  exact Ret.mk ⟨_, ws, rfl, hws, hwb, h⟩
 by_cases hj8 : j < 8
 rotate_left
 ·refine leS (hv.hp h) ?_
  refine Bn_ltT (by omega) (Gd_T (Gd_T (Bn_ltF (by omega) (Pick_T (If_F ?_)))))
  exact Ret.mk ⟨_, ws, rfl, hws, hwb, h⟩
 refine Exists.elim (p := fun x => l[j]? = some x) ⟨_, List.getElem?_eq_getElem hjl⟩ fun x hx => ?_
 have sx : Seg (l.flatMap fZ) (j * 1) (fZ x) := flat_seg (f := fZ) (fun _ => rfl) hx
 have cc1 := fun {W : World} (_ : Ext w0 W) => c_pickL (w := W) (hok x (List.mem_of_getElem? hx)) (n := 9) (by decide) (by decide)
 have pb := pickZ_bd (c := x) (n := 9) (by decide)
 have fl : (ws.flatMap fZ).length = 8 := by rw [flat_len (f := fZ) (c := 1) (fun _ => rfl), hws]
 refine leS (hv.hp h) ?_
 refine Bn_ltT (by omega) (Gd_T (Gd_T (Bn_ltT (by omega) (Pick_T (If_T (iaH h ‹_› (by omega) fun zb zo zk zv zc => ?_))))))
 refine lh0 h ‹_› ‹_› (by rfl) ?_
 refine cl1 h n_law15_pick (cc1 h.ext) fun w h => ?_
 refine Bn_ad (by omega) (by omega) (iaR h 0 rfl (by omega) fun zg zk zv => ?_)
 refine stR1 h 0 rfl ‹_› (by rfl) (by rfl) (by omega) fun w h => ?_
 refine Bn_ad (by omega) (by omega) ?_
 dsimp only [List.set] at h
 rw [set_fZ] at h
 exact ⟨⟨j + 1, _, by omega, by omega, rfl, by rw [List.length_set]; exact hws, fun y hy => by
  rcases List.mem_or_eq_of_mem_set hy with h | h
  ·exact hwb y h
  ·rw [h]; omega, h⟩, by show 8 - ((j : Int) + 1).toNat < 8 - (j : Int).toNat; omega⟩
end
theorem Jn4.cut {A : (Value → Value → Value → Value → World → Prop) → Prop} {B : Value → Value → Value → Value → World → Prop} (I : Value → Value → Value → Value → World → Prop) (hB : ∀ a b c d w, I a b c d w → B a b c d w) (hA : ∀ K : Value → Value → Value → Value → World → Prop, (∀ a b c d w, I a b c d w → K a b c d w) → A K) : Jn4 A B :=
 Jn4.mk fun K lf => hA K fun a b c d w hI => lf a b c d w (hB a b c d w hI)
theorem seg_last {X : List Value} {b : Nat} (hX : X.length = b) {v : Value} {z : Int} (hz : z = b) : Seg (X ++ [v]) (z.toNat * 1) [v] := by
 refine seg_one ?_
 rw [List.getElem?_append_right (by omega), show z.toNat - X.length = 0 by omega]
 rfl
theorem set_last {X : List Value} {b : Nat} (hX : X.length = b) {v u : Value} {z : Int} (hz : z = b) : (X ++ [v]).set (0 + z.toNat * 1) u = X ++ [u] := by
 rw [List.set_append_right _ _ (by omega), show 0 + z.toNat * 1 - X.length = 0 by omega]
 rfl
theorem last_run {m : List Ft} {A : List (List Ft)} {y : Ft} (hA : trs kT m = A) (hy : m.getLast? = some y) : ∃ B g, A = B ++ [g] ∧ hdK kT g = y.tr ∧ y ∈ g := by
 subst hA
 rcases List.eq_nil_or_concat (trs kT m) with h | ⟨B, g, h⟩
 ·have := Go.Smp.trs_flat kT m
  rw [h] at this
  subst this
  simp at hy
 ·rw [List.concat_eq_append] at h
  have hg : g ∈ trs kT m := by rw [h]; simp
  have hne := Go.Smp.trs_ne kT m g hg
  have hf := Go.Smp.trs_flat kT m
  rw [h, List.flatten_append] at hf
  simp only [List.flatten_cons, List.flatten_nil, List.append_nil] at hf
  have hyg : y ∈ g := by
   rw [← hf, List.getLast?_append] at hy
   cases hl : g.getLast? with
   | none => exact absurd (List.getLast?_eq_none_iff.1 hl) hne
   | some z =>
    rw [hl] at hy
    have : z = y := by simpa using hy
    rw [← this]; exact List.mem_of_getLast? hl
  exact ⟨B, g, h, hdK_mem hg hyg, hyg⟩
section
variable {w0 : World} {v wv : Value} {l : List Ft} {ws : List Int} (hv : SlC w0 10 v l.length (l.flatMap fF)) (hm : ∀ f ∈ l, MF f) (hl : l.length ≤ 40) (hw : SlC w0 1 wv 8 (ws.flatMap fZ)) (hwl : ws.length = 8) (hwb : ∀ x ∈ ws, 1 ≤ x ∧ x ≤ 1000)
include hv hm hl hw hwl hwb
set_option maxHeartbeats 8000000 in
theorem c_Traces : Calls Tryz.prog 22 #[v, wv] w0 (Ret fun r w' => ∃ v1 v2 v3, r = .tuple #[v1, v2, v3] ∧ Hp [] w0 w' [ro tI 1 v3 (trs kT l).length ((trs kT l).flatMap (fMx ws)), ro tI 1 v2 (trs kT l).length ((trs kT l).flatMap fSz), ro tI 1 v1 (trs kT l).length ((trs kT l).flatMap fId)]) := by
 apply e_ref15_Traces
 unfold s_ref15_Traces
 have h := Hp.init [] w0
 skip
 have h := ((h.nil tI 1).nil tI 1).nil tI 1
 refine Lp4.mkK (fun a b c i W => ∃ (j : Nat), j ≤ l.length ∧ i = .int .i64 j ∧ Hp [] w0 W [ro tI 1 c (trs kT (l.take j)).length ((trs kT (l.take j)).flatMap (fMx ws)), ro tI 1 b (trs kT (l.take j)).length ((trs kT (l.take j)).flatMap fSz), ro tI 1 a (trs kT (l.take j)).length ((trs kT (l.take j)).flatMap fId)])
  (fun _ _ _ i _ => match i with | .int _ x => l.length - x.toNat | _ => 0) ⟨0, by omega, rfl, h⟩ ?_
 clear h
 rintro a b c _ W ⟨j, hj, rfl, h⟩ K hK
 by_cases hjl : j < l.length
 rotate_left
 ·have ej : l.take j = l := take_all (by omega)
  rw [ej] at h
  refine leS (hv.hp h) ?_
  refine Bn_ltF (by omega) (If_F ?_)
  exact Ret.mk ⟨_, _, _, rfl, h⟩
 refine Exists.elim (p := fun x => l[j]? = some x) ⟨_, List.getElem?_eq_getElem hjl⟩ fun f hf => ?_
 have sf : Seg (l.flatMap fF) (j * 10) (fF f) := flat_seg (f := fF) (fun _ => rfl) hf
 have mf := hm f (List.mem_of_getElem? hf)
 have es := take_snoc hf
 have lj : (l.take j).length = j := by rw [List.length_take]; omega
 refine Exists.elim (p := fun A => trs kT (l.take j) = A) ⟨_, rfl⟩ fun A hA => ?_
 rw [hA] at h
 have hAl : A.length ≤ 40 := by
  have := Go.Smp.trs_len_le kT (l.take j)
  rw [hA, lj] at this
  omega
 have hAm : ∀ g ∈ A, ∀ x ∈ g, MF x := fun g hg x hx => hm x (List.mem_of_mem_take (Go.Smp.trs_mem kT (by rw [hA]; exact hg) hx))
 have hAf : A.flatten.length ≤ 40 := by rw [← hA, Go.Smp.trs_flat, lj]; omega
 refine leS (hv.hp h) ?_
 refine Bn_ltT (by omega) (If_T (leS (qZ 2 h rfl) ?_))
 refine Jn4.cut (fun p q r d w => ∃ (B : List (List Ft)) (g : List Ft), trs kT (l.take (j + 1)) = B ++ [g ++ [f]] ∧ B.length ≤ 40 ∧ 0 ≤ gSz g ∧ gSz g ≤ 1000000 ∧ 0 ≤ gMx ws g ∧ gMx ws g ≤ 1000 ∧ hdK kT (g ++ [f]) = f.tr ∧ d = .int .i64 ((B.length : Int) + 1) ∧
  Hp [] w0 w [ro tI 1 r (B.length + 1) (B.flatMap (fMx ws) ++ [.int .i64 (gMx ws g)]), ro tI 1 q (B.length + 1) (B.flatMap fSz ++ [.int .i64 (gSz g)]), ro tI 1 p (B.length + 1) (B.flatMap fId ++ [.int .i64 f.tr])]) ?_ ?_
 ·clear h
  rintro p q r _ w ⟨B, g, hB, hBl, s0, s1, x0, x1, hh, rfl, h⟩
  have l1 : (B.flatMap fSz).length = B.length := by rw [flat_len (f := fSz) (c := 1) (fun _ => rfl), Nat.mul_one]
  have l2 : (B.flatMap (fMx ws)).length = B.length := by rw [flat_len (f := fMx ws) (c := 1) (fun _ => rfl), Nat.mul_one]
  have ez : (B.length : Int) + 1 - 1 = B.length := by omega
  have sg1 := seg_last l1 (v := .int .i64 (gSz g)) ez
  have sg2 := seg_last l2 (v := .int .i64 (gMx ws g)) ez
  have wb := wOf_bd hwl hwb mf.sv.1 (by have := mf.sv.2; omega)
  have sw : Seg (ws.flatMap fZ) (f.sv.toNat * 1) (fZ (wOf ws f.sv)) := flat_seg (f := fZ) (fun _ => rfl) wb.1
  have m3 := mf.sv
  have m10 := mf.by'
  have l3 : (B.flatMap fSz ++ [Value.int .i64 (gSz g)]).length = B.length + 1 := by rw [List.length_append, l1]; rfl
  have l4 : (B.flatMap (fMx ws) ++ [Value.int .i64 (gMx ws g)]).length = B.length + 1 := by rw [List.length_append, l2]; rfl
  replace h := h.dr
  refine Dv_su (by omega) (by omega) (Dv_su (by omega) (by omega) (diRz h 1 rfl (by omega) (by omega) fun zg zk zv => ?_))
  refine dr0 h 1 rfl ‹_› ‹_› (by rfl) ?_
  refine diH h ‹_› (by omega) fun zb zo zk zv zc => ?_
  refine dfS (dh1 h ‹_› ‹_› (by rfl) ?_)
  refine Dv_ad (by omega) (by omega) (diRz h 1 rfl (by omega) (by omega) fun zg zk zv => ?_)
  refine stR1 h 1 rfl ‹_› (by rfl) (by rfl) (by omega) fun w h => ?_
  replace h := h.dr
  refine Dv_su (by omega) (by omega) (Dv_su (by omega) (by omega) (diRz h 0 rfl (by omega) (by omega) fun zg zk zv => ?_))
  refine dr0 h 0 rfl ‹_› ‹_› (by rfl) ?_
  refine diH h ‹_› (by omega) fun zb zo zk zv zc => ?_
  refine dfS (dh1 h ‹_› ‹_› (by rfl) ?_)
  refine diHz h ‹_› (by omega) (by omega) fun zb zo zk zv zc => ?_
  refine dh0 h ‹_› ‹_› (by rfl) ?_
  refine Dv_max (diRz h 0 rfl (by omega) (by omega) fun zg zk zv => ?_)
  refine stR1 h 0 rfl ‹_› (by rfl) (by rfl) (by omega) fun w h => ?_
  refine Bn_ad (by omega) (by omega) ?_
  dsimp only [List.set] at h
  rw [set_last l1 ez, set_last l2 ez] at h
  refine hK _ _ _ _ _ ⟨j + 1, by omega, rfl, ?_⟩ (by show l.length - ((j : Int) + 1).toNat < l.length - (j : Int).toNat; omega)
  rw [hB]
  refine h.cst ?_
  rw [List.length_append, List.flatMap_append, List.flatMap_append, List.flatMap_append]
  show _ = [ro tI 1 r (B.length + 1) (B.flatMap (fMx ws) ++ [Value.int .i64 (gMx ws (g ++ [f]))]), ro tI 1 q (B.length + 1) (B.flatMap fSz ++ [Value.int .i64 (gSz (g ++ [f]))]), ro tI 1 p (B.length + 1) (B.flatMap fId ++ [Value.int .i64 (hdK kT (g ++ [f]))])]
  rw [gSz_snoc, gMx_snoc, hh]
 ·intro K2 lfA
  have bdS : ∀ g : List Ft, (∀ x ∈ g, MF x) → g.length ≤ 40 → 0 ≤ gSz g ∧ gSz g ≤ 1000000 ∧ 0 ≤ gMx ws g ∧ gMx ws g ≤ 1000 := fun g hg hl => by
   have h1 := gSz_bd (m := 99) (by decide) (g := g) fun f hf => (hg f hf).by'
   have h2 := gMx_bd hwl hwb (g := g) fun f hf => by have := (hg f hf).sv; omega
   exact ⟨h1.1, by omega, h2.1, h2.2.1⟩
  have z0 := bdS [] (by simp) (by simp)
  by_cases hj0 : j = 0
  ·have e0 : l.take j = [] := by rw [hj0]; rfl
   have eA : A = [] := by rw [← hA, e0]; rfl
   have eAl : A.length = 0 := by rw [eA]; rfl
   have eN : trs kT (l.take (j + 1)) = [] ++ [[] ++ [f]] := by rw [es, e0]; rfl
   replace h := h.dr
   refine Dv_eqT (by omega) (GdP_TF (GdP_TF (GdP_TF (GdP_TF (GdP_TF (GdP_TF (GdP_TF (GdP_TF (GdP_TF (GdP_TF (GdP_TF (PickP_T (If_T (iaH h ‹_› (by omega) fun zb zo zk zv zc => ?_))))))))))))))
   refine faS (lh1 h ‹_› ‹_› (by rfl) ?_)
   refine bs1A h (by rfl) (by decide) (by rfl) (by decide) fun v1 w h => ?_
   refine apR (by rfl) (by decide) h 3 rfl (qZ 0 h rfl) (by first | rfl | assumption) (by omega) fun v2 w h => ?_
   refine bs1A h (by rfl) (by decide) (by rfl) (by decide) fun v3 w h => ?_
   refine apR (by rfl) (by decide) h 3 rfl (qZ 0 h rfl) (by first | rfl | assumption) (by omega) fun v4 w h => ?_
   refine bs1A h (by rfl) (by decide) (by rfl) (by decide) fun v5 w h => ?_
   refine apR (by rfl) (by decide) h 3 rfl (qZ 0 h rfl) (by first | rfl | assumption) (by omega) fun v6 w h => ?_
   refine Bn_ad (by omega) (by omega) ?_
   dsimp only [List.set] at h
   refine lfA _ _ _ _ _ ⟨[], [], eN, by decide, z0.1, z0.2.1, z0.2.2.1, z0.2.2.2, rfl, by rw [eAl]; rfl, ?_⟩
   refine (h.drop 3).cst ?_
   rw [eA]; rfl
  ·refine Exists.elim (p := fun y => (l.take j).getLast? = some y) ⟨_, List.getLast?_eq_some_getLast (by intro hc; rw [hc] at lj; exact hj0 lj.symm)⟩ fun y hy => ?_
   refine Exists.elim (last_run hA hy) fun B hB => ?_
   refine Exists.elim hB fun g hB => ?_
   have eA := hB.1
   have eg := hB.2.1
   have eL : A.length = B.length + 1 := by rw [eA, List.length_append]; rfl
   have l5 : (B.flatMap fId).length = B.length := by rw [flat_len (f := fId) (c := 1) (fun _ => rfl), Nat.mul_one]
   have efl : A.flatMap fId = B.flatMap fId ++ [.int .i64 y.tr] := by rw [eA, List.flatMap_append]; show _ ++ [Value.int .i64 (hdK kT g)] = _; rw [eg]
   have sid : Seg (A.flatMap fId) (((A.length : Int) - 1).toNat * 1) [.int .i64 y.tr] := by
    rw [efl]
    exact seg_last l5 (by omega)
   by_cases hk : y.tr = f.tr
   ·have eN : trs kT (l.take (j + 1)) = B ++ [g ++ [f]] := by
     obtain ⟨A', g', q1, q2⟩ := trs_more kT (l.take j) (x := f) ⟨y, hy, hk⟩
     rw [hA, eA] at q1
     obtain ⟨e1, e2⟩ := List.append_inj' q1 rfl
     rw [es, q2, ← e1, List.singleton_inj.1 e2]
    have hgA : g ∈ A := by rw [eA]; simp
    have hgl : g.length ≤ 40 := Nat.le_trans (List.sublist_flatten_of_mem hgA).length_le hAf
    have bg := bdS g (hAm g hgA) hgl
    have hh : hdK kT (g ++ [f]) = f.tr := by
     rw [← hk, ← eg]
     rcases g with _ | ⟨x, g⟩
     ·exact absurd hB.2.2 (by simp)
     ·rfl
    replace h := h.dr
    refine Dv_eqF (by omega) (GdP_F (GdP_F (GdP_F (Dv_su (by omega) (by omega) (GdP_F (diRz h 2 rfl (by omega) (by omega) fun zg zk zv => ?_))))))
    refine GdP_F (dr0 h 2 rfl ‹_› sid (by rfl) ?_)
    refine GdP_F (GdP_F (GdP_F (diH h ‹_› (by omega) fun zb zo zk zv zc => ?_)))
    refine GdP_F (dfS (GdP_F (dh1 h ‹_› ‹_› (by rfl) ?_)))
    refine GdP_F (Dv_neF (by omega) (PickP_F (If_F ?_)))
    refine lfA _ _ _ _ _ ⟨B, g, eN, by omega, bg.1, bg.2.1, bg.2.2.1, bg.2.2.2, hh, by rw [eL]; rfl, ?_⟩
    refine h.cst ?_
    rw [eL, efl, hk]
    rw [eA, List.flatMap_append, List.flatMap_append]
    rfl
   ·have eN : trs kT (l.take (j + 1)) = A ++ [[] ++ [f]] := by
     rw [es, trs_new kT (l.take j) (x := f) (fun z hz => by rw [hy] at hz; rw [← Option.some.inj hz]; exact hk), hA]
     rfl
    replace h := h.dr
    refine Dv_eqF (by omega) (GdP_F (GdP_F (GdP_F (Dv_su (by omega) (by omega) (GdP_F (diRz h 2 rfl (by omega) (by omega) fun zg zk zv => ?_))))))
    refine GdP_F (dr0 h 2 rfl ‹_› sid (by rfl) ?_)
    refine GdP_F (GdP_F (GdP_F (diH h ‹_› (by omega) fun zb zo zk zv zc => ?_)))
    refine GdP_F (dfS (GdP_F (dh1 h ‹_› ‹_› (by rfl) ?_)))
    refine GdP_F (Dv_neT (by omega) (PickP_F (If_T (iaH h ‹_› (by omega) fun zb zo zk zv zc => ?_))))
    refine faS (lh1 h ‹_› ‹_› (by rfl) ?_)
    refine bs1A h (by rfl) (by decide) (by rfl) (by decide) fun v1 w h => ?_
    refine apR (by rfl) (by decide) h 3 rfl (qZ 0 h rfl) (by first | rfl | assumption) (by omega) fun v2 w h => ?_
    refine bs1A h (by rfl) (by decide) (by rfl) (by decide) fun v3 w h => ?_
    refine apR (by rfl) (by decide) h 3 rfl (qZ 0 h rfl) (by first | rfl | assumption) (by omega) fun v4 w h => ?_
    refine bs1A h (by rfl) (by decide) (by rfl) (by decide) fun v5 w h => ?_
    refine apR (by rfl) (by decide) h 3 rfl (qZ 0 h rfl) (by first | rfl | assumption) (by omega) fun v6 w h => ?_
    refine Bn_ad (by omega) (by omega) ?_
    dsimp only [List.set] at h
    refine lfA _ _ _ _ _ ⟨A, [], eN, hAl, z0.1, z0.2.1, z0.2.2.1, z0.2.2.2, rfl, rfl, ?_⟩
    exact h.drop 3
end
end Go.Proofs.YtjgjeccfhmlcnaaGreatDoor
namespace Go.Proofs.YtjgjeccfhmlcnaaGreatDoor
open Go Go.Eng Go.Proofs Go.Num Go.RowKit
open Go.Smp (trs hdK All2 trs_same trs_cons trs_nil trs_ind Asc)
set_option maxRecDepth 100000
abbrev setB (f : Ft) (b : Int) : Ft := { f with by' := b }
def RB (f g : Ft) : Prop := ∃ b, g = setB f b ∧ 0 ≤ b ∧ b ≤ 148
theorem all2_set {R : Ft → Ft → Prop} : ∀ {l m : List Ft} {j : Nat} {a y : Ft}, All2 R l m → l[j]? = some a → R a y → All2 R l (m.set j y)
 | _, _, _, _, _, .nil, h, _ => by simp at h
 | x :: l, _, 0, a, y, .cons h hs, ha, hr => by
  have e : x = a := by simpa using ha
  rw [← e] at hr
  exact .cons hr hs
 | _, _, j + 1, a, y, .cons h hs, ha, hr => .cons h (all2_set hs (by simpa using ha) hr)
theorem all2_get {R : Ft → Ft → Prop} : ∀ {l m : List Ft} {j : Nat} {y : Ft}, All2 R l m → m[j]? = some y → ∃ a, l[j]? = some a ∧ R a y
 | _, _, _, _, .nil, h => by simp at h
 | _, z :: m, 0, y, .cons h hs, hy => by
  have e : z = y := by simpa using hy
  rw [← e]
  exact ⟨_, rfl, h⟩
 | _, _, j + 1, y, .cons h hs, hy => by simpa using all2_get hs (by simpa using hy)
theorem all2_len {α β : Type} {R : α → β → Prop} : ∀ {l : List α} {m : List β}, All2 R l m → m.length = l.length
 | _, _, .nil => rfl
 | _, _, .cons _ hs => by rw [List.length_cons, List.length_cons, all2_len hs]
theorem all2_map {α β γ : Type} {R : α → β → Prop} {φ : α → γ} {ψ : β → γ} : ∀ {l : List α} {m : List β}, All2 R l m → (∀ a ∈ l, ∀ b ∈ m, R a b → φ a = ψ b) → l.map φ = m.map ψ
 | _, _, .nil, _ => rfl
 | _, _, .cons h hs, k => by
  rw [List.map_cons, List.map_cons, k _ (List.mem_cons_self ..) _ (List.mem_cons_self ..) h, all2_map hs fun a ha b hb => k a (List.mem_cons_of_mem _ ha) b (List.mem_cons_of_mem _ hb)]
def sT (t : Int) : List Ft → Int
 | [] => 0
 | f :: l => (if f.tr = t then f.by' else 0) + sT t l
theorem sT_app (t : Int) : ∀ a b : List Ft, sT t (a ++ b) = sT t a + sT t b
 | [], b => by simp [sT]
 | f :: a, b => by rw [List.cons_append, sT, sT, sT_app t a b]; omega
theorem sT_set (t : Int) : ∀ {l : List Ft} {j : Nat} {x y : Ft}, l[j]? = some x → y.tr = x.tr → sT t (l.set j y) = sT t l + (if x.tr = t then y.by' - x.by' else 0)
 | [], _, _, _, h, _ => by simp at h
 | f :: l, 0, x, y, h, hy => by
  have : f = x := by simpa using h
  subst this
  rw [List.set_cons_zero, sT, sT, hy]
  split <;> omega
 | f :: l, j + 1, x, y, h, hy => by
  rw [List.set_cons_succ, sT, sT, sT_set t (by simpa using h) hy]
  omega
theorem sT_none {t : Int} : ∀ {l : List Ft}, (∀ x ∈ l, x.tr ≠ t) → sT t l = 0
 | [], _ => rfl
 | f :: l, h => by rw [sT, if_neg (h f (List.mem_cons_self ..)), sT_none fun x hx => h x (List.mem_cons_of_mem _ hx)]; rfl
theorem sT_all {t : Int} : ∀ {l : List Ft}, (∀ x ∈ l, x.tr = t) → sT t l = gSz l
 | [], _ => rfl
 | f :: l, h => by rw [sT, gSz, if_pos (h f (List.mem_cons_self ..)), sT_all fun x hx => h x (List.mem_cons_of_mem _ hx)]
theorem sz_trs : ∀ l : List Ft, Asc kT l → ∀ g ∈ trs kT l, gSz g = sT (hdK kT g) l := by
 refine trs_ind (P := fun l => Asc kT l → ∀ g ∈ trs kT l, gSz g = sT (hdK kT g) l) kT (by simp [trs_nil]) fun f l ih ha g hg => ?_
 have hd : Asc kT (l.drop (Go.Smp.run kT f.tr l)) := (List.pairwise_cons.1 ha).2.sublist (List.drop_sublist _ _)
 have hall := Go.Smp.trs_asc kT (f :: l) ha
 rw [trs_cons] at hg hall
 rw [List.map_cons, List.pairwise_cons] at hall
 have hkey : ∀ x ∈ f :: l.take (Go.Smp.run kT f.tr l), x.tr = f.tr := fun x hx => Go.Smp.trs_key kT (f :: l) _ (by rw [trs_cons]; exact List.mem_cons_self ..) x hx f (List.mem_cons_self ..)
 have hrest : ∀ x ∈ l.drop (Go.Smp.run kT f.tr l), f.tr < x.tr := fun x hx => by
  have : x ∈ (trs kT (l.drop (Go.Smp.run kT f.tr l))).flatten := by rw [Go.Smp.trs_flat]; exact hx
  obtain ⟨g', hg', hxg⟩ := List.mem_flatten.1 this
  have h1 := hall.1 (hdK kT g') (List.mem_map.2 ⟨g', hg', rfl⟩)
  rw [hdK_mem hg' hxg] at h1
  exact h1
 have esp : ∀ t, sT t (f :: l) = sT t (f :: l.take (Go.Smp.run kT f.tr l)) + sT t (l.drop (Go.Smp.run kT f.tr l)) := fun t => by
  rw [← sT_app, List.cons_append, List.take_append_drop]
 rcases List.mem_cons.1 hg with rfl | hg
 ·show _ = sT f.tr _
  rw [esp, sT_all hkey, sT_none fun x hx => by have := hrest x hx; omega]
  exact (Int.add_zero _).symm
 ·have h1 := hall.1 (hdK kT g) (List.mem_map.2 ⟨g, hg, rfl⟩)
  have h2 : f.tr < hdK kT g := h1
  rw [esp, sT_none (t := hdK kT g) fun x hx => by have := hkey x hx; omega, ih hd g hg]
  exact (Int.zero_add _).symm
theorem RB.tr {f g : Ft} (h : RB f g) : g.tr = f.tr := by obtain ⟨b, rfl, _⟩ := h; rfl
theorem RB.sv {f g : Ft} (h : RB f g) : g.sv = f.sv := by obtain ⟨b, rfl, _⟩ := h; rfl
section
variable {l m : List Ft} (h : All2 RB l m)
include h
theorem rb_trs : All2 (All2 RB) (trs kT l) (trs kT m) := trs_same kT (fun a b hr => hr.tr.symm) l m h
omit h in
theorem rb_hd {a b : List Ft} (hr : All2 RB a b) : hdK kT a = hdK kT b := by
 cases hr with
 | nil => rfl
 | cons h hs => exact h.tr.symm
omit h in
theorem rb_mx {ws : List Int} : ∀ {a b : List Ft}, All2 RB a b → gMx ws a = gMx ws b
 | _, _, .nil => rfl
 | _, _, .cons h hs => by rw [gMx, gMx, rb_mx hs, h.sv]
theorem rb_ids : (trs kT l).map (hdK kT) = (trs kT m).map (hdK kT) := all2_map (rb_trs h) fun a _ b _ hr => rb_hd hr
theorem rb_ord (ho : OrdF l) : OrdF m := by
 intro i a b h1 h2
 obtain ⟨x, hx, r1⟩ := all2_get h h1
 obtain ⟨y, hy, r2⟩ := all2_get h h2
 have := ho i x y hx hy
 obtain ⟨b1, rfl, _⟩ := r1
 obtain ⟨b2, rfl, _⟩ := r2
 exact this
theorem rb_gl {ws : List Int} (ho : OrdF l) (hs : ∀ t, sT t m = sT t l) : glO ws (trs kT m) = glO ws (trs kT l) := by
 refine (all2_map (rb_trs h) fun a ha b hb hr => ?_).symm
 show (gSz a, gMx ws a) = (gSz b, gMx ws b)
 rw [sz_trs l (asc_of ho) a ha, sz_trs m (asc_of (rb_ord h ho)) b hb, hs, rb_hd hr, rb_mx hr]
theorem rb_dvs {ks : List Int} : dvs m ks = dvs l ks := by
 have hz : zipK (trs kT m) ks = zipK (trs kT l) ks := by
  have e : ∀ (A : List (List Ft)), zipK A ks = List.zipWith (fun t k => (t, Value.int .i64 k)) (A.map (hdK kT)) ks := fun A => by unfold zipK; rw [List.zipWith_map_left]
  rw [e, e, rb_ids h]
 have hk : ∀ t, kOf (trs kT m) ks t = kOf (trs kT l) ks t := fun t => by unfold kOf; rw [hz]
 unfold dvs
 refine (all2_map h fun a _ b _ hr => ?_).symm
 show kOf _ _ a.tr = kOf _ _ b.tr
 rw [hk, hr.tr]
theorem rb_VFs (hm : ∀ f ∈ l, MF f) (hl : l.length ≤ 40) (ho : OrdF l) : VFs m := by
 refine ⟨by rw [all2_len h]; omega, fun f hf => ?_, rb_ord h ho⟩
 obtain ⟨i, hi⟩ := List.getElem?_of_mem hf
 obtain ⟨a, ha, b, rfl, b0, b1⟩ := all2_get h hi
 have hv := (hm a (List.mem_of_getElem? ha)).VF
 obtain ⟨h1, h2, h3, h4, h5, h6, h7, h8, h9, h10⟩ := hv
 exact ⟨h1, h2, h3, h4, h5, h6, h7, h8, h9, b0, by show b ≤ 24000; omega⟩
theorem rb_FI (hm : ∀ f ∈ l, MF f) : ∀ f ∈ m, FI f := fun f hf => by
 obtain ⟨i, hi⟩ := List.getElem?_of_mem hf
 obtain ⟨a, ha, b, rfl, b0, b1⟩ := all2_get h hi
 obtain ⟨h1, h2, h3, h4, h5, h6, h7, h8, h9, h10⟩ := (hm a (List.mem_of_getElem? ha)).FI
 exact ⟨h1, h2, h3, h4, h5, h6, h7, h8, h9, by show Iw b; constructor <;> omega⟩
end
end Go.Proofs.YtjgjeccfhmlcnaaGreatDoor
namespace Go.Proofs.YtjgjeccfhmlcnaaGreatDoor
open Go Go.Eng Go.Proofs Go.Num Go.RowKit
open Go.Smp (Gp trs hdK All2 Stb okAll kAll stb_eq)
set_option maxRecDepth 100000
def eOf (ok : Bool) : Int := if ok then 0 else 150
abbrev dA (ok : Bool) (ds : List Int) : List Int := if ok then ds else []
theorem sl_nil {w : World} : SlC w 1 (.slice none 0 0) 0 ([].flatMap fZ) := ⟨rfl, .inl ⟨rfl, rfl⟩⟩
def UnR (w0 : World) (ok : Bool) (ds : List Int) (r : Value) (w' : World) : Prop := ∃ u, r = .tuple #[u, .int .i64 (eOf ok)] ∧ Ext w0 w' ∧ SlC w' 1 u (dA ok ds).length ((dA ok ds).flatMap fZ)
theorem un_dv {w0 w' : World} {b : Int} {ws : List Int} {l : List Ft} {r : Value} (h : DvsR w0 b ws l r w') : ∃ f, Stb b (glO ws (trs kT l)) f ∧ UnR w0 (okAll b (glO ws (trs kT l)) f) (dvs l (kAll b (glO ws (trs kT l)) f)) r w' := by
 obtain ⟨f, hS, ⟨ho, u, rfl, h⟩ | ⟨ho, rfl, x⟩⟩ := h
 ·refine ⟨f, hS, u, by rw [ho]; rfl, h.ext, ?_⟩
  rw [ho]
  have := h.sl (i := 0) rfl
  have e : (dvs l (kAll b (glO ws (trs kT l)) f)).length = l.length := List.length_map _
  show SlC w' 1 u (dvs l _).length _
  rw [e]; exact this
 ·refine ⟨f, hS, _, by rw [ho]; rfl, x, ?_⟩
  rw [ho]
  exact sl_nil
theorem un_dv2 {w0 w' : World} {b : Int} {ws : List Int} {l : List Ft} {r : Value} {gl : List Gp} {f : List Bool} (hg : glO ws (trs kT l) = gl) (hok : Go.Smp.Gok gl) (hS : Stb b gl f) (h : DvsR w0 b ws l r w') : UnR w0 (okAll b gl f) (dvs l (kAll b gl f)) r w' := by
 obtain ⟨f', hS', h⟩ := un_dv h
 rw [hg] at hS' h
 obtain rfl := stb_eq hok hS' hS
 exact h
theorem un_al {w0 w' : World} {b : Int} {r : Value} {gl : List Gp} {f : List Bool} (hok : Go.Smp.Gok gl) (hS : Stb b gl f) (h : AlR w0 b gl r w') : UnR w0 (okAll b gl f) (kAll b gl f) r w' := by
 obtain ⟨f', hS', h⟩ := h
 obtain rfl := stb_eq hok hS' hS
 rcases h with ⟨ho, u, rfl, h⟩ | ⟨ho, rfl, x⟩
 ·refine ⟨u, by rw [ho]; rfl, h.ext, ?_⟩
  rw [ho]
  have := h.sl (i := 0) rfl
  have e : (kAll b gl f').length = gl.length := Go.Smp.kAll_len hS'.inv.len
  show SlC w' 1 u (kAll b gl f').length _
  rw [e]; exact this
 ·refine ⟨_, by rw [ho]; rfl, x, ?_⟩
  rw [ho]
  exact sl_nil
theorem dA_len {ok : Bool} {ds : List Int} {n : Nat} (h : ds.length = n) : (dA ok ds).length = if ok then n else 0 := by
 cases ok
 ·rfl
 ·exact h
theorem rb_refl : ∀ {l : List Ft}, (∀ f ∈ l, MF f) → All2 RB l l
 | [], _ => .nil
 | f :: l, h => .cons ⟨f.by', rfl, (h f (List.mem_cons_self ..)).by'.1, by have := (h f (List.mem_cons_self ..)).by'.2; omega⟩ (rb_refl fun x hx => h x (List.mem_cons_of_mem _ hx))
theorem set_by0 {b : Int} : ∀ {l : List Ft} {j : Nat} {x : Ft}, l[j]? = some x → (l.flatMap fF).set (j * 10 + 9) (.int .i64 b) = (l.set j (setB x b)).flatMap fF
 | [], _, _, h => by simp at h
 | f :: l, 0, x, h => by
  have e : f = x := by simpa using h
  rw [← e]; rfl
 | f :: l, j + 1, x, h => by
  rw [List.set_cons_succ, List.flatMap_cons, List.flatMap_cons, ← set_by0 (b := b) (l := l) (j := j) (x := x) (by simpa using h), List.set_append_right _ _ (by show 10 ≤ _; omega)]
  congr 2
  show (j + 1) * 10 + 9 - 10 = _
  omega
theorem set_by {l : List Ft} {j o : Nat} {x : Ft} {b : Int} (h : l[j]? = some x) (ho : o = j) : (l.flatMap fF).set (0 + o * 10 + 9) (.int .i64 b) = (l.set j (setB x b)).flatMap fF := by
 subst ho
 rw [Nat.zero_add]
 exact set_by0 h
section
variable {w0 : World} {v wv : Value} {l : List I4} {lw : List Int} {c c3 : Int} (he : EnR w0) (hv : SlC w0 4 v l.length (l.flatMap fQ)) (hok : ∀ x ∈ l, I4ok x) (hl : l.length ≤ 9223372036854775807) (hc : Iw c)
 (hw : SlC w0 1 wv lw.length (lw.flatMap fZ)) (hwok : ∀ x ∈ lw, Iw x) (hwl : lw.length ≤ 9223372036854775807) (hc3 : Iw c3)
include he hv hok hl hc hw hwok hwl hc3
set_option maxHeartbeats 16000000 in
theorem law_Groups : Calls Tryz.prog 5 #[v, .int .i64 c, wv, .int .i64 c3] w0 (Ret fun r w' => Ext w0 w' ∧ r = .bool true) := by
 have cc0 := fun {W : World} (e : Ext w0 W) => he.sane e
 have cr1 : ∀ {W : World}, Ext w0 W → Calls Tryz.prog 13 #[v] W (Ret fun r w' => ∃ u, r = u ∧ Hp [] W w' [ro tFt 10 u (made l).length ((made l).flatMap fF)]) := fun x => c_Made (hv.ext x) hok hl
 have cc2 := fun {W : World} (_ : Ext w0 W) => c_pickL (w := W) (n := 3000) hc (by decide) (by decide)
 have pb := pickZ_bd (c := c) (n := 3000) (by decide)
 have hV := made_VFs l
 have hM := made_MF l
 have hn := made_len l
 have ho := made_ord l
 apply e_law15_SampleGroups
 unfold s_law15_SampleGroups
 have h := Hp.init [] w0
 refine cl1 h n_law15_sane (cc0 h.ext) fun w h => ?_
 refine clR h n_ref14_MadeFacts (cr1 h.ext) fun v1 w h => ?_
 refine cl1 h n_law15_pick (cc2 h.ext) fun w h => ?_
 refine Cl_i n_law15_weights (c_weights (hw.ext h.ext) hwok hwl) ?_
 rintro u2 w2 ⟨_, ws, rfl, hws, hwb, h2⟩
 have x2 := (h.x h2.ext).ext
 have sm := (qZ 0 h rfl).ext h2.ext
 have sw := h2.sl (i := 0) rfl
 clear h h2 cc0 cr1 cc2
 refine Exists.elim (p := fun m => made l = m) ⟨_, rfl⟩ fun m hm => ?_
 rw [hm] at sm hV hM hn ho
 have fk : Fk w2 v1 m := ⟨sm, fun f hf => (hM f hf).FI, by omega⟩
 have hr := gl_rng (ws := ws) hV hn hws hwb
 have hgk := hr.ok
 refine Cl_i n_ref15_Traces (c_Traces sm hM hn sw hws hwb) ?_
 rintro _ w3 ⟨t1, t2, t3, rfl, h⟩
 refine Ex3 ?_
 have x3 := h.ext
 have s1 : SlC w3 1 t1 (trs kT m).length ((trs kT m).flatMap fId) := h.sl (i := 2) rfl
 have s2 : SlC w3 1 t2 (glO ws (trs kT m)).length ((glO ws (trs kT m)).flatMap fS) := by
  rw [List.length_map, List.flatMap_map]; exact h.sl (i := 1) rfl
 have s3 : SlC w3 1 t3 (glO ws (trs kT m)).length ((glO ws (trs kT m)).flatMap fH) := by
  rw [List.length_map, List.flatMap_map]; exact h.sl (i := 0) rfl
 refine Cl_i n_sample_Divisors ((c_Divisors (fk.ext x3) hV hn (sw.ext x3) hws hwb ⟨pb.1, by omega⟩).mono (Ret.imp fun _ _ h => un_dv h)) ?_
 rintro _ w4 ⟨f, hS, va, rfl, x4, sa⟩
 refine Ex2 (Cl_i n_sample_Allocate ((c_Alloc (s2.ext x4) (s3.ext x4) hr ⟨pb.1, by omega⟩).mono (Ret.imp fun _ _ h => un_al hgk hS h)) ?_)
 rintro _ w5 ⟨vb, rfl, x5, sb⟩
 refine Ex2 ?_
 have x6 := x3.tr (x4.tr x5)
 have y0 := x2.tr x6
 replace sa := sa.ext x5
 replace s1 := s1.ext (x4.tr x5)
 replace sm := sm.ext x6
 replace sw := sw.ext x6
 clear fk h s2 s3 x4 x5 x3
 have h := Hp.init [] w5
 refine bs0 h fun v2 w h => ?_
 refine apR (by rfl) (by decide) h 0 rfl (sm.hp h) (flat_oneF m) (by omega) fun v3 w h => ?_
 have h : Hp [] w5 w [ro tFt 10 v3 m.length (m.flatMap fF)] := h.cst (by rw [Nat.zero_add]; rfl)
 have cc1 := fun {W : World} (_ : Ext w5 W) => c_pickL (w := W) (n := 50) hc3 (by decide) (by decide)
 have ps := pickZ_bd (c := c3) (n := 50) (by decide)
 refine Lp1.mkK (fun i W => ∃ (i' : Nat) (cur : List Ft), 1 ≤ i' ∧ i = .int .i64 i' ∧ cur.length = m.length ∧ All2 RB m cur ∧ (∀ t, sT t cur = sT t m) ∧ (∀ j, i' ≤ j → cur[j]? = m[j]?) ∧ (∀ p, cur[i' - 1]? = some p → p.by' ≤ 99) ∧ Hp [] w5 W [ro tFt 10 v3 cur.length (cur.flatMap fF)])
  (fun i _ => match i with | .int _ x => m.length - x.toNat | _ => 0) ⟨1, m, by omega, rfl, rfl, rb_refl hM, fun _ => rfl, fun _ _ => rfl, fun p hp => (hM p (List.mem_of_getElem? hp)).by'.2, h⟩ ?_
 clear h
 rintro _ W ⟨i', cur, hi1, rfl, hcl, hrb, hsum, hsame, hlast, h⟩ K hK
 by_cases hil : i' < cur.length
 ·refine Exists.elim (p := fun k => i' = k + 1) ⟨i' - 1, by omega⟩ fun k hk => ?_
  refine Exists.elim (p := fun x => cur[i']? = some x) ⟨_, List.getElem?_eq_getElem hil⟩ fun x hx => ?_
  refine Exists.elim (p := fun x => cur[k]? = some x) ⟨_, List.getElem?_eq_getElem (by omega)⟩ fun p hp => ?_
  have sx : Seg (cur.flatMap fF) (i' * 10) (fF x) := flat_seg (f := fF) (fun _ => rfl) hx
  have sp : Seg (cur.flatMap fF) (((i' : Int) - 1).toNat * 10) (fF p) := by
   rw [show ((i' : Int) - 1).toNat = k by omega]
   exact flat_seg (f := fF) (fun _ => rfl) hp
  have hmx : m[i']? = some x := by rw [← hsame i' (Nat.le_refl _)]; exact hx
  have mx := hM x (List.mem_of_getElem? hmx)
  have xb := mx.by'
  have pb2 := hlast p (by rw [show i' - 1 = k by omega]; exact hp)
  refine Exists.elim (all2_get hrb hp) fun pa hpa => ?_
  refine Exists.elim hpa.2 fun b0 hb0 => ?_
  have pb0 : 0 ≤ p.by' := by rw [hb0.1]; exact hb0.2.1
  have ptr : p.tr = pa.tr := by rw [hb0.1]
  by_cases ht : x.tr = p.tr
  ·have q0 : 0 ≤ min x.by' (pickZ c3 50) ∧ min x.by' (pickZ c3 50) ≤ 49 ∧ min x.by' (pickZ c3 50) ≤ x.by' := by omega
   refine leS (qZ 0 h rfl) ?_
   refine Bn_ltT (by omega) (If_T ?_)
   replace h := h.dr
   refine diR h 0 rfl (by omega) fun zg zk zv => ?_
   refine dfS (dr1 h 0 rfl ‹_› sx (by rfl) ?_)
   refine Dv_su (by omega) (by omega) (diRz h 0 rfl (by omega) (by omega) fun zg zk zv => ?_)
   refine dfS (dr1 h 0 rfl ‹_› sp (by rfl) ?_)
   refine Dv_eqT (by omega) (If_T ?_)
   replace h := h.dr
   refine diR h 0 rfl (by omega) fun zg zk zv => ?_
   refine dfS (dr1 h 0 rfl ‹_› sx (by rfl) ?_)
   refine cl1 h n_law15_pick (cc1 h.ext) fun w h => ?_
   refine kr1 h 0 rfl ‹_› sx (by rfl) ?_
   refine Dv_min (iaR h 0 rfl (by omega) fun zg zk zv => ?_)
   refine faS (lr1 h 0 rfl ‹_› sx (by rfl) ?_)
   refine Bn_su (by omega) (by omega) (iaR h 0 rfl (by omega) fun zg zk zv => ?_)
   refine faS (stR1 h 0 rfl ‹_› (by rfl) (by rfl) (by omega) fun w h => ?_)
   refine Bn_su (by omega) (by omega) (Bn_su (by omega) (by omega) (iaRz h 0 rfl (by omega) (by omega) fun zg zk zv => ?_))
   refine faS ?_
   dsimp only [List.set] at h
   rw [set_by hx (by rfl)] at h
   have hp1 : (cur.set i' (setB x (x.by' - min x.by' (pickZ c3 50))))[k]? = some p := by rw [List.getElem?_set_ne (by omega)]; exact hp
   have sp1 : Seg ((cur.set i' (setB x (x.by' - min x.by' (pickZ c3 50)))).flatMap fF) (((i' : Int) - 1).toNat * 10) (fF p) := by
    rw [show ((i' : Int) - 1).toNat = k by omega]
    exact flat_seg (f := fF) (fun _ => rfl) hp1
   clear sp sx
   refine lr1 h 0 rfl ‹_› sp1 (by rfl) ?_
   refine Bn_ad (by omega) (by omega) (iaRz h 0 rfl (by omega) (by omega) fun zg zk zv => ?_)
   refine faS (stR1 h 0 rfl ‹_› (by rfl) (by rfl) (by omega) fun w h => ?_)
   refine Bn_ad (by omega) (by omega) ?_
   dsimp only [List.set] at h
   rw [set_by hp1 (by omega)] at h
   refine hK _ _ ⟨i' + 1, _, by omega, rfl, ?_, ?_, ?_, ?_, ?_, h.cst (by rw [List.length_set, List.length_set])⟩ (by show m.length - ((i' : Int) + 1).toNat < m.length - (i' : Int).toNat; omega)
   ·rw [List.length_set, List.length_set]; exact hcl
   ·refine all2_set (all2_set hrb hmx ⟨_, rfl, by omega, by omega⟩) hpa.1 ⟨p.by' + min x.by' (pickZ c3 50), by rw [hb0.1], by omega, by omega⟩
   ·intro t
    rw [sT_set t hp1 (by rfl), sT_set t hx (by rfl), hsum t]
    show _ + (if x.tr = t then x.by' - min x.by' (pickZ c3 50) - x.by' else 0) + (if p.tr = t then p.by' + min x.by' (pickZ c3 50) - p.by' else 0) = _
    rw [ht]
    split <;> omega
   ·intro j hj
    rw [List.getElem?_set_ne (by omega), List.getElem?_set_ne (by omega)]
    exact hsame j (by omega)
   ·intro q hq
    rw [show i' + 1 - 1 = i' by omega, List.getElem?_set_ne (by omega), List.getElem?_set_self hil] at hq
    rw [← Option.some.inj hq]
    show x.by' - _ ≤ 99
    omega
  ·refine leS (qZ 0 h rfl) ?_
   refine Bn_ltT (by omega) (If_T ?_)
   replace h := h.dr
   refine diR h 0 rfl (by omega) fun zg zk zv => ?_
   refine dfS (dr1 h 0 rfl ‹_› sx (by rfl) ?_)
   refine Dv_su (by omega) (by omega) (diRz h 0 rfl (by omega) (by omega) fun zg zk zv => ?_)
   refine dfS (dr1 h 0 rfl ‹_› sp (by rfl) ?_)
   refine Dv_eqF (by omega) (If_F (Bn_ad (by omega) (by omega) ?_))
   refine hK _ _ ⟨i' + 1, cur, by omega, rfl, hcl, hrb, hsum, fun j hj => hsame j (by omega), fun q hq => ?_, h⟩ (by show m.length - ((i' : Int) + 1).toNat < m.length - (i' : Int).toNat; omega)
   have hq2 : cur[i']? = some q := hq
   rw [hx] at hq2
   rw [← Option.some.inj hq2]; exact xb.2
 ·clear hK cc1
  refine leS (qZ 0 h rfl) ?_
  refine Bn_ltF (by omega) (If_F ?_)
  have hgl := rb_gl (ws := ws) hrb ho hsum
  have hdv := rb_dvs (ks := kAll (pickZ c 3000) (glO ws (trs kT m)) f) hrb
  have fk2 : Fk W v3 cur := ⟨h.sl (i := 0) rfl, rb_FI hrb hM, by omega⟩
  refine Cl_i n_sample_Divisors ((c_Divisors fk2 (rb_VFs hrb hM hn ho) (by omega) (sw.ext h.ext) hws hwb ⟨pb.1, by omega⟩).mono (Ret.imp fun _ _ h => un_dv2 hgl hgk hS h)) ?_
  rintro _ w6 ⟨vc, rfl, x7, sc⟩
  rw [hdv] at sc
  have x8 := h.ext.tr x7
  replace sa := sa.ext x8
  replace sb := sb.ext x8
  replace s1 := s1.ext x8
  replace sm := sm.ext x8
  have y1 := y0.tr x8
  clear hrb hsum hsame hlast h fk2 hdv sw hgl x7 x8 y0 x2 x6
  have hkl : (kAll (pickZ c 3000) (glO ws (trs kT m)) f).length = (trs kT m).length := by rw [Go.Smp.kAll_len hS.inv.len, List.length_map]
  have hdl : (dvs m (kAll (pickZ c 3000) (glO ws (trs kT m)) f)).length = m.length := List.length_map _
  refine Exists.elim (p := fun k => kAll (pickZ c 3000) (glO ws (trs kT m)) f = k) ⟨_, rfl⟩ fun ks hks => ?_
  rw [hks] at sa sb sc hkl hdl
  have cc3 : ∀ {W : World}, Ext w6 W → Calls Tryz.prog 12 #[va, vc] W (Ret fun r w' => Ext W w' ∧ r = .bool true) := fun x =>
   (c_Ints (sa.ext x) (sc.ext x) (by rw [dA_len hdl]; split <;> omega) (by rw [dA_len hdl]; split <;> omega)).mono (Ret.imp fun _ _ ⟨x, h⟩ => ⟨x, by rw [h, decide_eq_true rfl]⟩)
  have h := Hp.init [] w6
  by_cases ho2 : okAll (pickZ c 3000) (glO ws (trs kT m)) f = true
  rotate_left
  ·have e0 : eOf (okAll (pickZ c 3000) (glO ws (trs kT m)) f) = 150 := by unfold eOf; rw [if_neg ho2]
   refine Ex2 (Bn_neF (by omega) (Gd_F (Gd_F (Gd_F (Bn_neF (by omega) (Pick_F (Gd_F (Gd_F (Gd_F (cl1 h n_ref15_Ints (cc3 h.ext) fun w h => ?_))))))))))
   refine Gd_F (Un_T (Pick_F (If_F (Bn_neT (by omega) (If_T ?_)))))
   exact Ret.mk ⟨y1.tr h.ext, rfl⟩
  have e0 : eOf (okAll (pickZ c 3000) (glO ws (trs kT m)) f) = 0 := by unfold eOf; rw [if_pos ho2]
  rw [ho2] at sa sb sc
  replace sa : SlC w6 1 va m.length ((dvs m ks).flatMap fZ) := by rw [← hdl]; exact sa
  replace sb : SlC w6 1 vb (trs kT m).length (ks.flatMap fZ) := by rw [← hkl]; exact sb
  refine Ex2 (Bn_neF (by omega) (Gd_F (Gd_F (Gd_F (Bn_neF (by omega) (Pick_F (Gd_F (Gd_F (Gd_F (cl1 h n_ref15_Ints (cc3 h.ext) fun w h => ?_))))))))))
  refine Gd_F (Un_T (Pick_F (If_F (Bn_neF (by omega) (If_F (leS (sa.hp h) ?_))))))
  refine leS (sm.hp h) ?_
  refine Bn_neF (by omega) (Gd_F (Gd_F (leS (sb.hp h) ?_)))
  refine Gd_F (Gd_F (leS (s1.hp h) ?_))
  refine Gd_F (Bn_neF (by omega) (Pick_F (If_F ?_)))
  have tn := Go.Smp.trs_len_le kT m
  have hasc := Go.Smp.trs_asc kT m (asc_of ho)
  clear cc3 sc
  refine Lp1.mk (fun i W => ∃ j : Nat, j ≤ m.length ∧ i = .int .i64 j ∧ Hp [] w6 W []) (fun i _ => match i with | .int _ x => m.length - x.toNat | _ => 0) ⟨0, by omega, rfl, h⟩ ?_
  clear h
  rintro _ W ⟨j, hj, rfl, h⟩
  by_cases hjl : j < m.length
  rotate_left
  ·refine leS (sm.hp h) ?_
   refine Bn_ltF (by omega) (If_F ?_)
   exact Ret.mk ⟨y1.tr h.ext, rfl⟩
  refine Exists.elim (p := fun x => m[j]? = some x) ⟨_, List.getElem?_eq_getElem hjl⟩ fun x hx => ?_
  refine Exists.elim (kOf_at ho hkl (List.mem_of_getElem? hx)) fun q hq1 => Exists.elim hq1 fun kk hq2 => Exists.elim hq2 fun g hq => ?_
  have sx : Seg (m.flatMap fF) (j * 10) (fF x) := flat_seg (f := fF) (fun _ => rfl) hx
  have hd : (dvs m ks)[j]? = some kk := by unfold dvs; rw [List.getElem?_map, hx, ← hq.2.2.2.2]; rfl
  have sd : Seg ((dvs m ks).flatMap fZ) (j * 1) (fZ kk) := flat_seg (f := fZ) (fun _ => rfl) hd
  refine leS (sm.hp h) ?_
  refine Bn_ltT (by omega) (If_T (Lp1.mkK (fun i W => ∃ n : Nat, n ≤ (trs kT m).length ∧ i = .int .i64 n ∧ Hp [] w6 W []) (fun i _ => match i with | .int _ x => (trs kT m).length - x.toNat | _ => 0) ⟨0, by omega, rfl, h⟩ ?_))
  clear h
  rintro _ W ⟨n, hn2, rfl, h⟩ K2 hK2
  by_cases hnl : n < (trs kT m).length
  rotate_left
  ·refine leS (s1.hp h) ?_
   refine Bn_ltF (by omega) (If_F (Bn_ad (by omega) (by omega) ?_))
   exact ⟨⟨j + 1, by omega, rfl, h⟩, by show m.length - ((j : Int) + 1).toNat < m.length - (j : Int).toNat; omega⟩
  refine Exists.elim (p := fun x => (trs kT m)[n]? = some x) ⟨_, List.getElem?_eq_getElem hnl⟩ fun g2 hg2 => ?_
  refine Exists.elim (p := fun x => ks[n]? = some x) ⟨_, List.getElem?_eq_getElem (by omega)⟩ fun k2 hk2 => ?_
  have s5 : Seg ((trs kT m).flatMap fId) (n * 1) (fId g2) := flat_seg (f := fId) (fun _ => rfl) hg2
  have s6 : Seg (ks.flatMap fZ) (n * 1) (fZ k2) := flat_seg (f := fZ) (fun _ => rfl) hk2
  have key : hdK kT g2 = x.tr → kk = k2 := fun e => by
   have e2 : hdK kT g = x.tr := hdK_mem (List.mem_of_getElem? hq.1) hq.2.1
   have hqn : q = n := by
    obtain ⟨q1, q2⟩ := List.getElem?_eq_some_iff.1 hq.1
    obtain ⟨n1, n2⟩ := List.getElem?_eq_some_iff.1 hg2
    have hp := List.pairwise_iff_getElem.1 hasc
    rcases Nat.lt_trichotomy q n with hlt | rfl | hlt
    ·have := hp q n (by rw [List.length_map]; exact q1) (by rw [List.length_map]; exact n1) hlt
     rw [List.getElem_map, List.getElem_map, q2, n2] at this
     omega
    ·rfl
    ·have := hp n q (by rw [List.length_map]; exact n1) (by rw [List.length_map]; exact q1) hlt
     rw [List.getElem_map, List.getElem_map, q2, n2] at this
     omega
   rw [← hqn, hq.2.2.1] at hk2
   exact Option.some.inj hk2
  by_cases he2 : hdK kT g2 = x.tr
  ·have e3 := key he2
   refine leS (s1.hp h) ?_
   refine Bn_ltT (by omega) (If_T ?_)
   replace h := h.dr
   refine diH h ‹_› (by omega) fun zb zo zk zv zc => ?_
   refine dh0 h ‹_› ‹_› (by rfl) ?_
   refine diH h ‹_› (by omega) fun zb zo zk zv zc => ?_
   refine dfS (dh1 h ‹_› ‹_› (by rfl) ?_)
   refine Dv_eqT (by omega) (GdP_T (GdP_T (GdP_T (diH h ‹_› (by omega) fun zb zo zk zv zc => ?_))))
   refine GdP_T (dh0 h ‹_› ‹_› (by rfl) ?_)
   refine GdP_T (GdP_T (GdP_T (diH h ‹_› (by omega) fun zb zo zk zv zc => ?_)))
   refine GdP_T (dh0 h ‹_› ‹_› (by rfl) ?_)
   refine GdP_T (Dv_neF (by omega) (PickP_T (If_F (Bn_ad (by omega) (by omega) ?_))))
   exact hK2 _ _ ⟨n + 1, by omega, rfl, h⟩ (by show (trs kT m).length - ((n : Int) + 1).toNat < (trs kT m).length - (n : Int).toNat; omega)
  ·refine leS (s1.hp h) ?_
   refine Bn_ltT (by omega) (If_T ?_)
   replace h := h.dr
   refine diH h ‹_› (by omega) fun zb zo zk zv zc => ?_
   refine dh0 h ‹_› ‹_› (by rfl) ?_
   refine diH h ‹_› (by omega) fun zb zo zk zv zc => ?_
   refine dfS (dh1 h ‹_› ‹_› (by rfl) ?_)
   refine Dv_eqF (by omega) (GdP_FT (GdP_FT (GdP_FT (GdP_FT (GdP_FT (GdP_FT (GdP_FT (GdP_FT (GdP_FT (PickP_F (If_F (Bn_ad (by omega) (by omega) ?_))))))))))))
   exact hK2 _ _ ⟨n + 1, by omega, rfl, h⟩ (by show (trs kT m).length - ((n : Int) + 1).toNat < (trs kT m).length - (n : Int).toNat; omega)
end
end Go.Proofs.YtjgjeccfhmlcnaaGreatDoor
