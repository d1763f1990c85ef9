/-
  Contracts and plain lemmas. By an AI agent.
-/
import Derived.Test.YtjgjeccfhmlcnaaGreatDoorStrY
import Derived.Test.YtjgjeccfhmlcnaaGreatDoorEng
set_option linter.unusedSimpArgs false
set_option linter.unusedVariables false
set_option linter.unusedSectionVars false
namespace Go.Proofs.YtjgjeccfhmlcnaaGreatDoor
open Go Go.Eng Go.Proofs Go.Num Go.RowKit
set_option maxRecDepth 100000
theorem Nrm10.tail {d : Int} {ds : List Int} (h : Nrm10 (d :: ds)) : Nrm10 ds := by
 refine ⟨fun x hx => h.1 x (by simp [hx]), ?_⟩
 have := h.2
 simp only [Num.trimL] at this
 split at this
 ·simp at this
 ·simpa using this
theorem Nrm10.pos {xs : List Int} (h : Nrm10 xs) (hne : xs ≠ []) : 0 < num10 xs := by
 induction xs with
 | nil => exact absurd rfl hne
 | cons d ds ih =>
  have hd := h.1 d (by simp)
  by_cases hds : ds = []
  ·subst hds
   have := h.2
   simp only [Num.trimL] at this
   by_cases h0 : d = 0
   ·simp [h0] at this
   ·simp only [num10]; omega
  ·have := ih h.tail hds
   simp only [num10]; omega
theorem Nrm10.eq {xs ys : List Int} (hx : Nrm10 xs) (hy : Nrm10 ys) (h : num10 xs = num10 ys) : xs = ys := by
 induction xs generalizing ys with
 | nil =>
  cases ys with
  | nil => rfl
  | cons y ys => have := hy.pos (by simp); rw [← h] at this; simp [num10] at this
 | cons x xs ih =>
  cases ys with
  | nil => have := hx.pos (by simp); rw [h] at this; simp [num10] at this
  | cons y ys =>
   have h1 := hx.1 x (by simp)
   have h2 := hy.1 y (by simp)
   simp only [num10] at h
   have hxy : x = y := by omega
   have : num10 xs = num10 ys := by omega
   rw [hxy, ih hx.tail hy.tail this]
theorem Nrm10.ge {xs : List Int} (h : Nrm10 xs) (hne : xs ≠ []) : 10 ^ (xs.length - 1) ≤ num10 xs := by
 induction xs with
 | nil => exact absurd rfl hne
 | cons d ds ih =>
  have hd := h.1 d (by simp)
  by_cases hds : ds = []
  ·subst hds
   have := h.pos (by simp)
   simp only [num10, List.length_cons, List.length_nil] at this ⊢
   simp at this ⊢; omega
  ·have := ih h.tail hds
   obtain ⟨x, xs, rfl⟩ := List.exists_cons_of_ne_nil hds
   simp only [List.length_cons, Nat.add_sub_cancel] at this ⊢
   rw [Int.pow_succ]
   simp only [num10] at this ⊢; omega
theorem pow10_mono {a b : Nat} (h : a ≤ b) : (10 : Int) ^ a ≤ 10 ^ b := by
 obtain ⟨k, rfl⟩ := Nat.exists_eq_add_of_le h
 induction k with
 | zero => simp
 | succ k ih =>
  have := ih (by omega)
  rw [← Nat.add_assoc, Int.pow_succ]
  have h0 : (0 : Int) < 10 ^ (a + k) := Int.pow_pos (by decide)
  omega
theorem Nrm10.len {xs : List Int} (h : Nrm10 xs) {k : Nat} (hk : num10 xs < 10 ^ k) : xs.length ≤ k := by
 by_cases hne : xs = []
 ·subst hne; simp
 ·have h1 := h.ge hne
  refine Classical.byContradiction fun hc => ?_
  have := pow10_mono (a := k) (b := xs.length - 1) (by omega)
  omega
theorem Dg10.take {xs : List Int} (h : Dg10 xs) (i : Nat) : Dg10 (xs.take i) := fun d hd => h d (List.mem_of_mem_take hd)
theorem Dg10.drop {xs : List Int} (h : Dg10 xs) (i : Nat) : Dg10 (xs.drop i) := fun d hd => h d (List.mem_of_mem_drop hd)
theorem Nrm10.lt_of_len {xs ys : List Int} (hx : Nrm10 xs) (hy : Nrm10 ys) (h : xs.length < ys.length) : num10 xs < num10 ys := by
 have h1 := num10_lt hx.1
 have h2 := hy.ge (by intro hc; subst hc; simp at h)
 have := pow10_mono (a := xs.length) (b := ys.length - 1) (by omega)
 omega
def DAt (w : World) (v : Value) (n : Int) : Prop := ∃ xs : List Int, NumL w v xs ∧ Nrm10 xs ∧ num10 xs = n
theorem DAt.ext {w w' : World} {v : Value} {n : Int} (h : DAt w v n) (he : Ext w w') : DAt w' v n := by
 obtain ⟨xs, h1, h2, h3⟩ := h; exact ⟨xs, SlAt.ext h1 he, h2, h3⟩
theorem DAt.nonneg {w : World} {v : Value} {n : Int} (h : DAt w v n) : 0 ≤ n := by
 obtain ⟨xs, _, h2, rfl⟩ := h; exact num10_nonneg h2.1
theorem Nrm10.cons {d : Int} {xs : List Int} (h : Nrm10 xs) (hne : xs ≠ []) (hd : 0 ≤ d ∧ d < 10) : Nrm10 (d :: xs) := by
 refine ⟨fun x hx => ?_, ?_⟩
 ·rcases List.mem_cons.1 hx with rfl | hx
  ·exact hd
  ·exact h.1 x hx
 ·simp only [Num.trimL, h.2]
  rw [if_neg (fun hc => hne hc.2)]
theorem Mx4000 : Mx ≤ 10 ^ 4000 := by unfold Mx; decide +kernel
theorem DAt.get {w : World} {v : Value} {n : Int} (h : DAt w v n) (hn : n < Mx) : ∃ xs, NumL w v xs ∧ Nrm10 xs ∧ num10 xs = n ∧ xs.length ≤ 100000 := by
 obtain ⟨xs, h1, h2, h3⟩ := h
 have h4 := h2.len (k := 4000) (by rw [h3]; exact Int.lt_of_lt_of_le hn Mx4000)
 exact ⟨xs, h1, h2, h3, by omega⟩
theorem DAt.nil (w : World) : DAt w (.slice none 0 0) 0 := ⟨[], .inl ⟨rfl, rfl⟩, ⟨by simp [Dg10], rfl⟩, rfl⟩
end Go.Proofs.YtjgjeccfhmlcnaaGreatDoor
