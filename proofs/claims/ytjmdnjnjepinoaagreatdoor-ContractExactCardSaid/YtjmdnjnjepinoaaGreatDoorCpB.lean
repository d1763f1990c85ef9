/-
  Contracts and plain lemmas. By an AI agent.
-/
import Derived.Test.YtjmdnjnjepinoaaGreatDoorCpA
set_option linter.unusedSimpArgs false
set_option linter.unusedVariables false
set_option linter.unusedSectionVars false
namespace Go.Proofs.YtjmdnjnjepinoaaGreatDoor
open Go Go.Eng Go.Proofs Go.Num Go.RowKit
set_option maxRecDepth 100000
set_option linter.unusedVariables false
set_option linter.unusedSectionVars false
noncomputable def partsE (p : Int) (e : LE) : List Int := if e.lt = 0 then [0, 0, 0, 0] else (splO p e.sh).getD []
structure Bok (p : Int) (e : LE) : Prop where
 len : (partsE p e).length = 4
 nn : ∀ x ∈ partsE p e, 0 ≤ x ∧ x ≤ 1000000000
 sum : (partsE p e).sum = p
 bill : billE (p, e) = some (duesL e.rq 0 (partsE p e))
 spl : e.lt ≠ 0 → splO p e.sh = some (partsE p e)
theorem mem_le_sum : ∀ {l : List Int}, (∀ y ∈ l, 0 ≤ y) → ∀ x ∈ l, x ≤ l.sum
 | y :: l, h, x, hx => by
  have hl : ∀ z ∈ l, 0 ≤ z := fun z hz => h z (by simp [hz])
  have h0 := h y (by simp)
  have hs := sum_nn hl
  rw [List.sum_cons]
  rcases List.mem_cons.1 hx with rfl | hx
  ·omega
  ·have := mem_le_sum hl x hx; omega
theorem shQ_GP (y : I5) : GP 2520 (shQ y) := by
 have b := pickZ_bd (c := y.2.2.2.2) (n := 3) (by decide)
 have hl : DR 2520 2500 (qI (1 + pickZ y.2.2.2.2 3)) := by
  have := DR.of (D := 2520) (M := 2500) (n := 1 + pickZ y.2.2.2.2 3) (d := 1) (by decide) (by decide) (by decide) (by omega)
  rw [q_div1] at this; exact this
 have hp : (0 : Rat) < qI (1 + pickZ y.2.2.2.2 3) := by show (0 : Rat) < ((1 + pickZ y.2.2.2.2 3 : Int) : Rat); exact_mod_cast (show (0 : Int) < 1 + pickZ y.2.2.2.2 3 by omega)
 refine gp_of (fun x hx => ?_) (by show 4 ≤ 12; decide) (by show 1 ≤ 4; decide) ?_
 ·unfold shQ at hx
  simp only [List.mem_cons, List.not_mem_nil, or_false] at hx
  rcases hx with rfl | rfl | rfl | rfl
  ·exact ⟨(smQ_DR _ _).mono (by decide) (by decide) (Nat.dvd_refl _) (by decide), smQ_nn _ _⟩
  ·exact ⟨(smQ_DR _ _).mono (by decide) (by decide) (Nat.dvd_refl _) (by decide), smQ_nn _ _⟩
  ·exact ⟨(smQ_DR _ _).mono (by decide) (by decide) (Nat.dvd_refl _) (by decide), smQ_nn _ _⟩
  ·exact ⟨hl, Rat.le_of_lt hp⟩
 ·show 0 < smQ y.2.1 y.2.2.1 + (smQ y.2.2.1 y.2.2.2.1 + (smQ y.2.2.2.1 y.2.2.2.2 + (qI (1 + pickZ y.2.2.2.2 3) + 0)))
  have h1 := smQ_nn y.2.1 y.2.2.1
  have h2 := smQ_nn y.2.2.1 y.2.2.2.1
  have h3 := smQ_nn y.2.2.2.1 y.2.2.2.2
  grind
theorem bok_of {i : Nat} {e : LE} {p : Int} (hm : MadeE i e) (hp : 0 ≤ p ∧ p ≤ 1000000000) (h0 : e.lt = 0 → p = 0) : Bok p e := by
 obtain ⟨y, _, ⟨_, h2, h3⟩ | ⟨h1, h2, h3⟩⟩ := hm
 ·have hp0 := h0 h2
  have e1 : partsE p e = [0, 0, 0, 0] := by unfold partsE; rw [if_pos h2]
  refine ⟨by rw [e1]; rfl, by rw [e1]; decide, by rw [e1, hp0]; rfl, ?_, fun h => absurd h2 h⟩
  rw [e1, billE_0 h2 h3]; rfl
 ·have hne : e.lt ≠ 0 := by omega
  obtain ⟨hs, hS⟩ := splO_ok (shQ_GP y) hp
  rw [← h3] at hs
  have e1 : partsE p e = partsL (prL (shQ y) p) p := by unfold partsE; rw [if_neg hne, hs]; rfl
  have hl : (partsL (prL (shQ y) p) p).length = 4 := by rw [parts_len, List.length_map]; rfl
  have hsum := parts_sum hS
  have hnn : ∀ x ∈ partsL (prL (shQ y) p) p, 0 ≤ x := fun x hx => (splO_bd hs x hx).1
  refine ⟨by rw [e1]; exact hl, fun x hx => ?_, by rw [e1]; exact hsum, ?_, fun _ => by rw [e1]; exact hs⟩
  ·rw [e1] at hx
   have := mem_le_sum hnn x hx
   exact ⟨hnn x hx, by omega⟩
  ·rw [e1]; exact billE_y hne hs hl
theorem pen_zero {q : Rat} (hq : 0 ≤ q) {l : List Int} {g i : Nat} {L a x : Int} (hL : 0 ≤ L) (hn : ∀ y ∈ l, 0 ≤ y) (ha : (penL q g L l)[i]? = some a) (hx : l[i]? = some x) (h0 : x = 0) : a = 0 := by
 have h1 := cst_at (p := q) (g := g) hn hx
 rw [if_neg (fun h => by omega)] at h1
 have := pen_le hq hL hn ha h1
 omega
theorem allO_of {α β : Type} {f : α → Option β} {g : α → β} : ∀ {l : List α}, (∀ a ∈ l, f a = some (g a)) → allO f l = some (l.map g)
 | [], _ => rfl
 | a :: l, h => by
  unfold allO
  rw [h a (by simp), allO_of fun b hb => h b (by simp [hb])]; rfl
theorem madeE_rq {i : Nat} {e : LE} (h : MadeE i e) : 3 * (i : Int) ≤ e.rq ∧ e.rq ≤ 3 * (i : Int) + 2 := by
 obtain ⟨y, h1, _⟩ := h
 have b := pickZ_bd (c := y.1) (n := 3) (by decide)
 omega
theorem madeE_lt {i : Nat} {e : LE} (h : MadeE i e) : 0 ≤ e.lt ∧ e.lt ≤ 44 := by
 obtain ⟨y, _, ⟨_, h1, _⟩ | ⟨h0, h1, _⟩⟩ := h
 ·omega
 ·have b := pickZ_bd (c := y.1.tdiv 3) (n := 60) (by decide)
  unfold ltZ at h0 h1; omega
theorem MadeL.ok {l : List LE} (h : MadeL l) (hl : l.length ≤ 12) : OkO l := ⟨fun e he => by
 obtain ⟨i, hi⟩ := List.getElem?_of_mem he
 have := madeE_rq (h i e hi)
 have := (List.getElem?_eq_some_iff.1 hi).1
 omega, fun j a b ha hb => by
 have h1 := madeE_rq (h j a ha)
 have h2 := madeE_rq (h (j + 1) b hb)
 omega⟩
theorem MadeL.k {l : List LE} (h : MadeL l) (hl : l.length ≤ 12) : ∀ e ∈ l, LEk e := fun e he => by
 obtain ⟨i, hi⟩ := List.getElem?_of_mem he
 have h1 := madeE_rq (h i e hi)
 have h2 := madeE_lt (h i e hi)
 have h3 := (List.getElem?_eq_some_iff.1 hi).1
 obtain ⟨y, _, ⟨_, _, hs⟩ | ⟨_, _, hs⟩⟩ := h i e hi
 ·exact ⟨by omega, by omega, by rw [hs]; exact fun p hp => by simp at hp, by rw [hs]; decide⟩
 ·exact ⟨by omega, by omega, by rw [hs]; exact (shQ_GP y).toGS.txok, by rw [hs, txs_len]; show 4 ≤ 9223372036854775807; decide⟩
abbrev BB := Int × List Int
abbrev duB (b : BB) : List Du := duesL b.1 0 b.2
theorem duesL_rq {r : Int} : ∀ {l : List Int} {k : Nat}, ∀ d ∈ duesL r k l, d.1 = r
 | [], k, d, h => by simp [duesL] at h
 | n :: l, k, d, h => by
  unfold duesL at h
  split at h
  ·rcases List.mem_cons.1 h with rfl | h
   ·rfl
   ·exact duesL_rq d h
  ·exact duesL_rq d h
theorem duesL_ok {r : Int} : ∀ {l : List Int} {k : Nat}, (∀ x ∈ l, 0 ≤ x ∧ x ≤ 1000000000) → ∀ d ∈ duesL r k l, ((k : Int) ≤ d.2.1 ∧ d.2.1 < (k : Int) + l.length) ∧ (1 ≤ d.2.2 ∧ d.2.2 ≤ 1000000000)
 | [], k, _, d, h => by simp [duesL] at h
 | n :: l, k, hl, d, h => by
  have hn := hl n (by simp)
  have ih := fun hd => duesL_ok (r := r) (l := l) (k := k + 1) (fun x hx => hl x (by simp [hx])) d hd
  unfold duesL at h
  split at h
  ·rcases List.mem_cons.1 h with rfl | h
   ·simp only [List.length_cons]; omega
   ·have := ih h; simp only [List.length_cons]; omega
  ·have := ih h; simp only [List.length_cons]; omega
theorem filt {B : List BB} (hp : B.Pairwise fun a b => a.1 < b.1) {b : BB} (hb : b ∈ B) : ((B.map duB).flatten.filter fun d => d.1 = b.1) = duB b := by
 induction B with
 | nil => simp at hb
 | cons c B ih =>
  obtain ⟨h1, h2⟩ := List.pairwise_cons.1 hp
  rw [List.map_cons, List.flatten_cons, List.filter_append]
  rcases List.mem_cons.1 hb with rfl | hb
  ·have e1 : ((duB b).filter fun d => d.1 = b.1) = duB b := List.filter_eq_self.2 fun d hd => by simp [duesL_rq d hd]
   have e2 : ((B.map duB).flatten.filter fun d => d.1 = b.1) = [] := List.filter_eq_nil_iff.2 fun d hd => by
    obtain ⟨l, hl, hd⟩ := List.mem_flatten.1 hd
    obtain ⟨c, hc, rfl⟩ := List.mem_map.1 hl
    have := h1 c hc
    rw [duesL_rq d hd]
    simp; omega
   rw [e1, e2, List.append_nil]
  ·have e1 : ((duB c).filter fun d => d.1 = b.1) = [] := List.filter_eq_nil_iff.2 fun d hd => by
    have := h1 b hb
    rw [duesL_rq d hd]
    simp; omega
   rw [e1, ih h2 hb, List.nil_append]
def ownF (r : Int) (T : List Int) (d : Du) : List Int := if d.1 = r then addT T d else T
theorem own_filter (r : Int) : ∀ (l : List Du) (T : List Int), l.foldl (ownF r) T = (l.filter fun d => d.1 = r).foldl addT T
 | [], T => rfl
 | d :: l, T => by
  rw [List.foldl_cons, own_filter r l]
  unfold ownF
  by_cases h : d.1 = r
  ·rw [if_pos h, List.filter_cons_of_pos (by simp [h])]; rfl
  ·rw [if_neg h, List.filter_cons_of_neg (by simp [h])]
theorem own_parts {r : Int} {l : List Int} (h4 : l.length = 4) (hn : ∀ x ∈ l, 0 ≤ x) : (duesL r 0 l).foldl addT [0, 0, 0, 0] = l := by
 match l, h4 with
 | [a, b, c, d], _ =>
  have ha := hn a (by simp)
  have hb := hn b (by simp)
  have hc := hn c (by simp)
  have hd := hn d (by simp)
  have e : ∀ x : Int, 0 ≤ x → ¬ 0 < x → x = 0 := fun x h1 h2 => by omega
  unfold duesL duesL duesL duesL duesL
  by_cases h1 : 0 < a <;> by_cases h2 : 0 < b <;> by_cases h3 : 0 < c <;> by_cases h4 : 0 < d <;>
   simp only [h1, h2, h3, h4, if_true, if_false] <;>
   (try rw [e a ha h1]) <;> (try rw [e b hb h2]) <;> (try rw [e c hc h3]) <;> (try rw [e d hd h4]) <;>
   simp [addT]
theorem sum_set {T : List Int} {i : Nat} {x : Int} (h : i < T.length) : (T.set i (T.getD i 0 + x)).sum = T.sum + x := by
 induction T generalizing i with
 | nil => simp at h
 | cons a T ih =>
  rcases i with _ | i
  ·simp; omega
  ·have := ih (i := i) (by simpa using h)
   simp only [List.set_cons_succ, List.sum_cons, List.getD_cons_succ]
   omega
def amts (l : List Du) : Int := (l.map (·.2.2)).sum
theorem tot_sum : ∀ (l : List Du) (T : List Int), (∀ d ∈ l, 0 ≤ d.2.1 ∧ d.2.1 < T.length) → (l.foldl addT T).sum = T.sum + amts l
 | [], T, _ => by show T.sum = T.sum + 0; omega
 | d :: l, T, h => by
  have hd := h d (by simp)
  rw [List.foldl_cons, tot_sum l _ fun x hx => by rw [addT_len]; exact h x (by simp [hx])]
  unfold addT
  rw [sum_set (by omega)]
  show T.sum + d.2.2 + amts l = T.sum + (d.2.2 + amts l)
  omega
theorem amts_dues {r : Int} : ∀ {l : List Int} {k : Nat}, (∀ x ∈ l, 0 ≤ x) → amts (duesL r k l) = l.sum
 | [], k, _ => rfl
 | n :: l, k, h => by
  have hn := h n (by simp)
  have ih := amts_dues (r := r) (l := l) (k := k + 1) fun x hx => h x (by simp [hx])
  unfold duesL
  rw [List.sum_cons]
  split
  ·show n + amts (duesL r (k + 1) l) = _
   rw [ih]
  ·rw [ih]; omega
theorem amts_flat : ∀ (D : List (List Du)), amts D.flatten = (D.map amts).sum
 | [] => rfl
 | d :: D => by
  rw [List.flatten_cons, List.map_cons, List.sum_cons, ← amts_flat D]
  unfold amts
  rw [List.map_append, List.sum_append]
structure Mon (q : Rat) (g : Nat) (cap : Int) (L : List LE) (pen : List Int) (B : List BB) : Prop where
 pl : pen.length = L.length
 pb : ∀ y ∈ pen, 0 ≤ y ∧ y ≤ 1000000000
 ps : pen.sum ≤ cap
 bl : B.length = L.length
 at' : ∀ (i : Nat) (e : LE) (p : Int), L[i]? = some e → pen[i]? = some p → Bok p e ∧ B[i]? = some (e.rq, partsE p e)
 pw : B.Pairwise fun a b => a.1 < b.1
 all : allO billE (pen.zip L) = some (B.map duB)
 ok : OkO L
 du : ∀ d ∈ (B.map duB).flatten, (0 ≤ d.1 ∧ d.1 ≤ 999) ∧ (0 ≤ d.2.1 ∧ d.2.1 ≤ 3) ∧ (1 ≤ d.2.2 ∧ d.2.2 ≤ 1000000000)
 dl : (B.map duB).flatten.length ≤ 4 * L.length
 sm : amts (B.map duB).flatten = pen.sum
theorem mon_of {q : Rat} {g : Nat} {cap : Int} {L : List LE} (hq : 0 ≤ q) (hg : g ≤ 100) (hc : 0 ≤ cap ∧ cap ≤ 1000000000) (hM : MadeL L) (hl : L.length ≤ 12) :
 ∃ B, Mon q g cap L (penL q g cap (L.map (·.lt))) B := by
 have hlt : ∀ y ∈ L.map (·.lt), 0 ≤ y := fun y hy => by
  obtain ⟨e, he, rfl⟩ := List.mem_map.1 hy
  obtain ⟨i, hi⟩ := List.getElem?_of_mem he
  exact (madeE_lt (hM i e hi)).1
 have hpl : (penL q g cap (L.map (·.lt))).length = L.length := by rw [penL_len, List.length_map]
 have hpb := penL_bd hq hg hc hlt
 have hsum : (penL q g cap (L.map (·.lt))).sum ≤ cap := by rw [penL_sum hq g hc.1 hlt]; omega
 have hz : ∀ (i : Nat) (e : LE) (p : Int), L[i]? = some e → (penL q g cap (L.map (·.lt)))[i]? = some p → e.lt = 0 → p = 0 := fun i e p he hp h0 =>
  pen_zero hq hc.1 hlt hp (by rw [List.getElem?_map, he]; rfl) h0
 obtain ⟨pen, hpe⟩ : ∃ pen, penL q g cap (L.map (·.lt)) = pen := ⟨_, rfl⟩
 rw [hpe] at hpl hpb hsum hz ⊢
 have hbok : ∀ (i : Nat) (e : LE) (p : Int), L[i]? = some e → pen[i]? = some p → Bok p e := fun i e p he hp => bok_of (hM i e he) (hpb p (List.mem_of_getElem? hp)) (hz i e p he hp)
 obtain ⟨B, hB⟩ : ∃ B : List BB, (pen.zip L).map (fun x => (x.2.rq, partsE x.1 x.2)) = B := ⟨_, rfl⟩
 have hbl : B.length = L.length := by rw [← hB, List.length_map, List.length_zip]; omega
 have hat : ∀ (i : Nat) (e : LE) (p : Int), L[i]? = some e → pen[i]? = some p → B[i]? = some (e.rq, partsE p e) := fun i e p he hp => by
  rw [← hB, List.getElem?_map, zip_get hp he]; rfl
 have hget : ∀ (i : Nat) (b : BB), B[i]? = some b → ∃ e p, L[i]? = some e ∧ pen[i]? = some p ∧ b = (e.rq, partsE p e) := fun i b hb => by
  have hi := (List.getElem?_eq_some_iff.1 hb).1
  have h1 : L[i]? = some L[i] := List.getElem?_eq_getElem (by omega)
  have h2 : pen[i]? = some pen[i] := List.getElem?_eq_getElem (by omega)
  refine ⟨_, _, h1, h2, ?_⟩
  have := hat i _ _ h1 h2
  rw [hb] at this
  exact Option.some.inj this
 have hmem : ∀ b ∈ B, ∃ i e p, L[i]? = some e ∧ pen[i]? = some p ∧ b = (e.rq, partsE p e) := fun b hb => by
  obtain ⟨i, hi⟩ := List.getElem?_of_mem hb
  obtain ⟨e, p, h⟩ := hget i b hi
  exact ⟨i, e, p, h⟩
 have hall : allO billE (pen.zip L) = some (B.map duB) := by
  have := allO_of (f := billE) (g := fun x => duesL x.2.rq 0 (partsE x.1 x.2)) (l := pen.zip L) fun x hx => by
   obtain ⟨i, hi⟩ := List.getElem?_of_mem hx
   have h1 := List.getElem?_zip_eq_some.1 hi
   exact (hbok i _ _ h1.2 h1.1).bill
  rw [this, ← hB, List.map_map]; rfl
 refine ⟨B, hpl, hpb, hsum, hbl, fun i e p he hp => ⟨hbok i e p he hp, hat i e p he hp⟩, ?_, hall, hM.ok hl, fun d hd => ?_, ?_, ?_⟩
 ·refine List.pairwise_iff_getElem.2 fun i j hi hj hij => ?_
  obtain ⟨e, p, h1, _, h3⟩ := hget i _ (List.getElem?_eq_getElem hi)
  obtain ⟨e', p', h1', _, h3'⟩ := hget j _ (List.getElem?_eq_getElem hj)
  rw [h3, h3']
  have a1 := madeE_rq (hM i e h1)
  have a2 := madeE_rq (hM j e' h1')
  show e.rq < e'.rq
  omega
 ·obtain ⟨l, hl', hd⟩ := List.mem_flatten.1 hd
  obtain ⟨b, hb, rfl⟩ := List.mem_map.1 hl'
  obtain ⟨i, e, p, h1, h2, rfl⟩ := hmem b hb
  have hk := hbok i e p h1 h2
  have h3 := duesL_ok hk.nn d hd
  rw [hk.len] at h3
  have h4 := duesL_rq d hd
  have h5 := madeE_rq (hM i e h1)
  have h6 := (List.getElem?_eq_some_iff.1 h1).1
  refine ⟨by rw [h4]; show 0 ≤ e.rq ∧ e.rq ≤ 999; omega, by omega, h3.2⟩
 ·have := flat_le hall
  have h2 : (pen.zip L).length ≤ L.length := by rw [List.length_zip]; omega
  omega
 ·rw [amts_flat, List.map_map]
  have : B.map (amts ∘ duB) = pen := by
   apply List.ext_getElem?
   intro i
   rw [List.getElem?_map]
   by_cases hi : i < L.length
   ·have h1 : L[i]? = some L[i] := List.getElem?_eq_getElem hi
    have h2 : pen[i]? = some pen[i] := List.getElem?_eq_getElem (by omega)
    have hk := hbok i _ _ h1 h2
    rw [hat i _ _ h1 h2, h2]
    show some (amts (duesL _ 0 _)) = _
    rw [amts_dues fun x hx => (hk.nn x hx).1, hk.sum]
   ·rw [List.getElem?_eq_none (by omega), List.getElem?_eq_none (by omega)]; rfl
  rw [this]
theorem Mon.own {q : Rat} {g : Nat} {cap : Int} {L : List LE} {pen : List Int} {B : List BB} (h : Mon q g cap L pen B) {i : Nat} {e : LE} {p : Int} (he : L[i]? = some e) (hp : pen[i]? = some p) :
 (B.map duB).flatten.foldl (ownF e.rq) [0, 0, 0, 0] = partsE p e := by
 obtain ⟨hk, hB⟩ := h.at' i e p he hp
 rw [own_filter]
 have := filt h.pw (List.mem_of_getElem? hB)
 rw [this]
 exact own_parts hk.len fun x hx => (hk.nn x hx).1
end Go.Proofs.YtjmdnjnjepinoaaGreatDoor
