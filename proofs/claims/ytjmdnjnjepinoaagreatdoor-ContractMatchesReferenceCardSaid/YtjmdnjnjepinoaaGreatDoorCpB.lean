/-
  Contracts and plain lemmas. By an AI agent.
-/
import Derived.Test.YtjmdnjnjepinoaaGreatDoorCpA
set_option linter.unusedSimpArgs false
set_option linter.unusedVariables false
set_option linter.unusedSectionVars false
namespace Go.Proofs.YtjmdnjnjepinoaaGreatDoor
open Go Go.Eng Go.Proofs Go.Num Go.RowKit
set_option maxRecDepth 100000
noncomputable def partsE (p : Int) (e : LE) : List Int := if e.lt = 0 then [0, 0, 0, 0] else (splO p e.sh).getD []
structure Bok (p : Int) (e : LE) : Prop where
 len : (partsE p e).length = 4
 nn : ∀ x ∈ partsE p e, 0 ≤ x ∧ x ≤ 1000000000
 sum : (partsE p e).sum = p
 bill : billE (p, e) = some (duesL e.rq 0 (partsE p e))
 spl : e.lt ≠ 0 → splO p e.sh = some (partsE p e)
theorem shQ_GP (y : I5) : GP 2520 (shQ y) := by
 have b := pickZ_bd (c := y.2.2.2.2) (n := 3) (by decide)
 have hl : DR 2520 2500 (qI (1 + pickZ y.2.2.2.2 3)) := by
  have := DR.of (D := 2520) (M := 2500) (n := 1 + pickZ y.2.2.2.2 3) (d := 1) (by decide) (by decide) (by decide) (by omega)
  rw [q_div1] at this; exact this
 have hp : (0 : Rat) < qI (1 + pickZ y.2.2.2.2 3) := by show (0 : Rat) < ((1 + pickZ y.2.2.2.2 3 : Int) : Rat); exact_mod_cast (show (0 : Int) < 1 + pickZ y.2.2.2.2 3 by omega)
 refine gp_of (fun x hx => ?_) (by show 4 ≤ 12; decide) (by show 1 ≤ 4; decide) ?_
 ·unfold shQ at hx
  simp only [List.mem_cons, List.not_mem_nil, or_false] at hx
  rcases hx with rfl | rfl | rfl | rfl
  ·exact ⟨(smQ_DR _ _).mono (by decide) (by decide) (Nat.dvd_refl _) (by decide), smQ_nn _ _⟩
  ·exact ⟨(smQ_DR _ _).mono (by decide) (by decide) (Nat.dvd_refl _) (by decide), smQ_nn _ _⟩
  ·exact ⟨(smQ_DR _ _).mono (by decide) (by decide) (Nat.dvd_refl _) (by decide), smQ_nn _ _⟩
  ·exact ⟨hl, Rat.le_of_lt hp⟩
 ·show 0 < smQ y.2.1 y.2.2.1 + (smQ y.2.2.1 y.2.2.2.1 + (smQ y.2.2.2.1 y.2.2.2.2 + (qI (1 + pickZ y.2.2.2.2 3) + 0)))
  have h1 := smQ_nn y.2.1 y.2.2.1
  have h2 := smQ_nn y.2.2.1 y.2.2.2.1
  have h3 := smQ_nn y.2.2.2.1 y.2.2.2.2
  grind
theorem madeE_rq {i : Nat} {e : LE} (h : MadeE i e) : 3 * (i : Int) ≤ e.rq ∧ e.rq ≤ 3 * (i : Int) + 2 := by
 obtain ⟨y, h1, _⟩ := h
 have b := pickZ_bd (c := y.1) (n := 3) (by decide)
 omega
theorem madeE_lt {i : Nat} {e : LE} (h : MadeE i e) : 0 ≤ e.lt ∧ e.lt ≤ 44 := by
 obtain ⟨y, _, ⟨_, h1, _⟩ | ⟨h0, h1, _⟩⟩ := h
 ·omega
 ·have b := pickZ_bd (c := y.1.tdiv 3) (n := 60) (by decide)
  unfold ltZ at h0 h1; omega
theorem MadeL.ok {l : List LE} (h : MadeL l) (hl : l.length ≤ 12) : OkO l := ⟨fun e he => by
 obtain ⟨i, hi⟩ := List.getElem?_of_mem he
 have := madeE_rq (h i e hi)
 have := (List.getElem?_eq_some_iff.1 hi).1
 omega, fun j a b ha hb => by
 have h1 := madeE_rq (h j a ha)
 have h2 := madeE_rq (h (j + 1) b hb)
 omega⟩
theorem MadeL.k {l : List LE} (h : MadeL l) (hl : l.length ≤ 12) : ∀ e ∈ l, LEk e := fun e he => by
 obtain ⟨i, hi⟩ := List.getElem?_of_mem he
 have h1 := madeE_rq (h i e hi)
 have h2 := madeE_lt (h i e hi)
 have h3 := (List.getElem?_eq_some_iff.1 hi).1
 obtain ⟨y, _, ⟨_, _, hs⟩ | ⟨_, _, hs⟩⟩ := h i e hi
 ·exact ⟨by omega, by omega, by rw [hs]; exact fun p hp => by simp at hp, by rw [hs]; decide⟩
 ·exact ⟨by omega, by omega, by rw [hs]; exact (shQ_GP y).toGS.txok, by rw [hs, txs_len]; show 4 ≤ 9223372036854775807; decide⟩
abbrev BB := Int × List Int
abbrev duB (b : BB) : List Du := duesL b.1 0 b.2
theorem duesL_rq {r : Int} : ∀ {l : List Int} {k : Nat}, ∀ d ∈ duesL r k l, d.1 = r
 | [], k, d, h => by simp [duesL] at h
 | n :: l, k, d, h => by
  unfold duesL at h
  split at h
  ·rcases List.mem_cons.1 h with rfl | h
   ·rfl
   ·exact duesL_rq d h
  ·exact duesL_rq d h
theorem filt {B : List BB} (hp : B.Pairwise fun a b => a.1 < b.1) {b : BB} (hb : b ∈ B) : ((B.map duB).flatten.filter fun d => d.1 = b.1) = duB b := by
 induction B with
 | nil => simp at hb
 | cons c B ih =>
  obtain ⟨h1, h2⟩ := List.pairwise_cons.1 hp
  rw [List.map_cons, List.flatten_cons, List.filter_append]
  rcases List.mem_cons.1 hb with rfl | hb
  ·have e1 : ((duB b).filter fun d => d.1 = b.1) = duB b := List.filter_eq_self.2 fun d hd => by simp [duesL_rq d hd]
   have e2 : ((B.map duB).flatten.filter fun d => d.1 = b.1) = [] := List.filter_eq_nil_iff.2 fun d hd => by
    obtain ⟨l, hl, hd⟩ := List.mem_flatten.1 hd
    obtain ⟨c, hc, rfl⟩ := List.mem_map.1 hl
    have := h1 c hc
    rw [duesL_rq d hd]
    simp; omega
   rw [e1, e2, List.append_nil]
  ·have e1 : ((duB c).filter fun d => d.1 = b.1) = [] := List.filter_eq_nil_iff.2 fun d hd => by
    have := h1 b hb
    rw [duesL_rq d hd]
    simp; omega
   rw [e1, ih h2 hb, List.nil_append]
def ownF (r : Int) (T : List Int) (d : Du) : List Int := if d.1 = r then addT T d else T
theorem own_filter (r : Int) : ∀ (l : List Du) (T : List Int), l.foldl (ownF r) T = (l.filter fun d => d.1 = r).foldl addT T
 | [], T => rfl
 | d :: l, T => by
  rw [List.foldl_cons, own_filter r l]
  unfold ownF
  by_cases h : d.1 = r
  ·rw [if_pos h, List.filter_cons_of_pos (by simp [h])]; rfl
  ·rw [if_neg h, List.filter_cons_of_neg (by simp [h])]
theorem own_parts {r : Int} {l : List Int} (h4 : l.length = 4) (hn : ∀ x ∈ l, 0 ≤ x) : (duesL r 0 l).foldl addT [0, 0, 0, 0] = l := by
 match l, h4 with
 | [a, b, c, d], _ =>
  have ha := hn a (by simp)
  have hb := hn b (by simp)
  have hc := hn c (by simp)
  have hd := hn d (by simp)
  have e : ∀ x : Int, 0 ≤ x → ¬ 0 < x → x = 0 := fun x h1 h2 => by omega
  unfold duesL duesL duesL duesL duesL
  by_cases h1 : 0 < a <;> by_cases h2 : 0 < b <;> by_cases h3 : 0 < c <;> by_cases h4 : 0 < d <;>
   simp only [h1, h2, h3, h4, if_true, if_false] <;>
   (try rw [e a ha h1]) <;> (try rw [e b hb h2]) <;> (try rw [e c hc h3]) <;> (try rw [e d hd h4]) <;>
   simp [addT]
def amts (l : List Du) : Int := (l.map (·.2.2)).sum
structure Mon (q : Rat) (g : Nat) (cap : Int) (L : List LE) (pen : List Int) (B : List BB) : Prop where
 pl : pen.length = L.length
 pb : ∀ y ∈ pen, 0 ≤ y ∧ y ≤ 1000000000
 ps : pen.sum ≤ cap
 bl : B.length = L.length
 at' : ∀ (i : Nat) (e : LE) (p : Int), L[i]? = some e → pen[i]? = some p → Bok p e ∧ B[i]? = some (e.rq, partsE p e)
 pw : B.Pairwise fun a b => a.1 < b.1
 all : allO billE (pen.zip L) = some (B.map duB)
 ok : OkO L
 du : ∀ d ∈ (B.map duB).flatten, (0 ≤ d.1 ∧ d.1 ≤ 999) ∧ (0 ≤ d.2.1 ∧ d.2.1 ≤ 3) ∧ (1 ≤ d.2.2 ∧ d.2.2 ≤ 1000000000)
 dl : (B.map duB).flatten.length ≤ 4 * L.length
 sm : amts (B.map duB).flatten = pen.sum
theorem Mon.own {q : Rat} {g : Nat} {cap : Int} {L : List LE} {pen : List Int} {B : List BB} (h : Mon q g cap L pen B) {i : Nat} {e : LE} {p : Int} (he : L[i]? = some e) (hp : pen[i]? = some p) :
 (B.map duB).flatten.foldl (ownF e.rq) [0, 0, 0, 0] = partsE p e := by
 obtain ⟨hk, hB⟩ := h.at' i e p he hp
 rw [own_filter]
 have := filt h.pw (List.mem_of_getElem? hB)
 rw [this]
 exact own_parts hk.len fun x hx => (hk.nn x hx).1
end Go.Proofs.YtjmdnjnjepinoaaGreatDoor
