/-
  Contracts and plain lemmas. By an AI agent.
-/
import Derived.Test.YtjgjeccfhmlcnaaGreatDoorRefX
import Derived.Test.YtjgjeccfhmlcnaaGreatDoorStrY
set_option linter.unusedSimpArgs false
set_option linter.unusedVariables false
set_option linter.unusedSectionVars false
namespace Go.Proofs.YtjgjeccfhmlcnaaGreatDoor
open Go Go.Eng Go.Proofs Go.Num Go.RowKit
set_option maxRecDepth 100000
theorem Dg10.set {zs : List Int} (h : Dg10 zs) (p : Nat) {d : Int} (hd : 0 ≤ d ∧ d < 10) : Dg10 (zs.set p d) := by
 intro x hx
 rcases List.mem_or_eq_of_mem_set hx with hx | rfl
 ·exact h x hx
 ·exact hd
theorem SlAt.fresh {W : World} {v : Value} {xs : List Value} (h : SlAt W v xs) {g : Nat} (hf : Fresh (g + 1) v) (p : Nat) (u : Value) : SlAt (W.setCell ⟨g, p, none⟩ u) v xs :=
 SlAt.set h u fun b o c n hv => by have := hf _ _ _ hv; show b ≠ g; simp at this; omega
theorem DAt.fresh {W : World} {v : Value} {n : Int} (h : DAt W v n) {g : Nat} (hf : Fresh (g + 1) v) (p : Nat) (u : Value) : DAt (W.setCell ⟨g, p, none⟩ u) v n := by
 obtain ⟨xs, h1, h2, h3⟩ := h
 exact ⟨xs, SlAt.fresh h1 hf p u, h2, h3⟩
theorem DAt.bd {w : World} {v : Value} {n : Int} (h : DAt w v n) {k : Nat} (hn : n < 10 ^ k) : ∃ xs, NumL w v xs ∧ Nrm10 xs ∧ num10 xs = n ∧ xs.length ≤ k := by
 obtain ⟨xs, h1, h2, h3⟩ := h
 exact ⟨xs, h1, h2, h3, h2.len (by rw [h3]; exact hn)⟩
theorem DAt.unique {w : World} {v : Value} {x y : Int} (h : DAt w v x) (k : DAt w v y) : x = y := by
 obtain ⟨l1, p1, p2, p3⟩ := h
 obtain ⟨l2, q1, q2, q3⟩ := k
 have := SlAt.unique p1 q1
 have hl : l1 = l2 := (List.map_inj_right (fun a b h => by simpa using h)).1 this
 rw [← p3, ← q3, hl]
open Classical in
noncomputable def dV (w : World) (v : Value) : Int := if h : ∃ n : Int, DAt w v n then Classical.choose h else 0
end Go.Proofs.YtjgjeccfhmlcnaaGreatDoor
