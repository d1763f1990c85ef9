/-
  Contracts and plain lemmas. By an AI agent.
-/
import Derived.Test.YtjmdnjnjepinoaaGreatDoorCpE
import Derived.Test.YtjmdnjnjepinoaaGreatDoorRows
import Derived.ProofKit
import Derived.OpenShut
import Derived.LaidMore
import Derived.Lib.LaidTab
import Derived.MakeChecks
import Derived.ChangeSame
import Derived.WideShapes
import Derived.Handed
import Derived.Carry
set_option linter.unusedSimpArgs false
set_option linter.unusedVariables false
set_option linter.unusedSectionVars false
namespace Go.Proofs.YtjmdnjnjepinoaaGreatDoor
open Go Go.Eng Go.Proofs Go.Num Go.RowKit Go.ChangeShapes Go.WideShapes
set_option maxRecDepth 100000
theorem own : ownKnob Tryz.prog.godebug = none := by kernel_rfl
section
variable {H : Type} {enc : TypeId × Value → H} {w : World} {sp : Nat → Bool} {held : Bool}
theorem list_of {α : Type} {P : Nat → α → Prop} : ∀ {n : Nat}, (∀ i, i < n → ∃ x, P i x) → ∃ l : List α, l.length = n ∧ ∀ i x, l[i]? = some x → P i x
 | 0, _ => ⟨[], rfl, fun i x h => by simp at h⟩
 | n + 1, h => by
  obtain ⟨l, h1, h2⟩ := list_of (P := P) (n := n) (fun i hi => h i (by omega))
  obtain ⟨x, hx⟩ := h n (by omega)
  refine ⟨l ++ [x], by simp [h1], fun i y hy => ?_⟩
  by_cases hi : i < l.length
  ·rw [List.getElem?_append_left hi] at hy; exact h2 i y hy
  ·rw [List.getElem?_append_right (by omega)] at hy
   have hi2 : i - l.length = 0 := by
    rcases Nat.eq_zero_or_pos (i - l.length) with h | h
    ·exact h
    ·rw [List.getElem?_eq_none (by simp only [List.length_singleton]; omega)] at hy; cases hy
   rw [hi2] at hy
   simp at hy
   subst hy
   rw [show i = n by omega]; exact hx
theorem flat_get {α : Type} {f : α → List Value} {c : Nat} (hf : ∀ a, (f a).length = c) : ∀ {l : List α} {k : Nat} {u : Value}, (l.flatMap f)[k]? = some u → ∃ i r a, l[i]? = some a ∧ (f a)[r]? = some u ∧ k = i * c + r ∧ r < c
 | [], k, u, h => by simp at h
 | a :: l, k, u, h => by
  rw [List.flatMap_cons] at h
  by_cases hk : k < (f a).length
  ·rw [List.getElem?_append_left hk] at h
   exact ⟨0, k, a, rfl, h, by omega, by rw [← hf a]; exact hk⟩
  ·rw [List.getElem?_append_right (by omega), hf] at h
   obtain ⟨i, r, b, h1, h2, h3, h4⟩ := flat_get hf h
   have := hf a
   exact ⟨i + 1, r, b, by simpa using h1, h2, by rw [Nat.add_mul]; omega, h4⟩
theorem open_sl {α : Type} {t e : TypeId} {c b0 : Nat} {r : Reach} {v : Value} {d : DataW H} {ps : List MemPlace} (f : α → List Value) (φ : α → Prop) (ht : Tryz.prog.underlying t = some (.slice e)) (hc : Tryz.prog.cellsOf e = c) (hf : ∀ a, (f a).length = c)
 (hel : ∀ n cs x, DataW.trod enc Tryz.prog w 0 sp held n e cs = some x → ∃ a, cs = f a ∧ φ a)
 (hval : Value.okWide Tryz.prog w r b0 t v) (hd : DataW.Trod enc Tryz.prog w 0 sp held t v d ps) : ∃ l : List α, SlC w c v l.length (l.flatMap f) ∧ (∀ a ∈ l, φ a) ∧ l.length ≤ maxLen := by
 obtain ⟨a, len, cap, rfl⟩ := okWide_slice ht hval
 obtain ⟨fuel, hd⟩ := hd
 rcases DataW.trod_slice ht hd with ⟨h1, _⟩ | ⟨a', len', cap', elems, rest, n, _, h1, _, hb, hl, hm, hlen, hels, _⟩
 ·simp [Value.cells] at h1
  obtain ⟨rfl, rfl, rfl⟩ := h1
  exact ⟨[], ⟨by simp, .inl ⟨rfl, rfl⟩⟩, by simp, by simp⟩
 ·simp [Value.cells] at h1
  obtain ⟨rfl, rfl, rfl⟩ := h1
  have hs : a'.spot = none := by
   simp only [Value.okWide, ht, Cell.okWide, Cell.ok] at hval
   exact hval.2.2.2.1
  obtain ⟨b, o, s⟩ := a'
  simp only at hs
  subst hs
  have each : ∀ i, i < len → ∃ x : α, φ x ∧ ∀ r u, (f x)[r]? = some u → w.cell? ⟨b, o + i * c + r, none⟩ = some u := by
   intro i hi
   have h2 := hels i hi
   rw [hc, List.getElem?_eq_getElem (by omega)] at h2
   obtain ⟨cs, h3, h4⟩ := Option.bind_eq_some_iff.1 h2
   obtain ⟨x, rfl, hx⟩ := hel _ _ _ h4
   refine ⟨x, hx, fun r u hu => ?_⟩
   obtain ⟨_, h5, h6⟩ := World.cells?_some h3
   have hr : r < c := by rw [← hf x]; exact (List.getElem?_eq_some_iff.1 hu).1
   have h7 := h6 r hr
   rw [hu, addN, addN] at h7
   exact h7
  obtain ⟨l, h2, h3⟩ := list_of (P := fun i x => φ x ∧ ∀ r u, (f x)[r]? = some u → w.cell? ⟨b, o + i * c + r, none⟩ = some u) each
  refine ⟨l, ⟨flat_len hf l, .inr ⟨b, o, cap, by rw [h2], by omega, fun k u hk => ?_⟩⟩, fun x hx => ?_, by omega⟩
  ·obtain ⟨i, r, x, h4, h5, rfl, _⟩ := flat_get hf hk
   have := (h3 i x h4).2 r u h5
   rw [← Nat.add_assoc]; exact this
  ·obtain ⟨i, hi⟩ := List.getElem?_of_mem hx
   exact (h3 i x hi).1
end
end Go.Proofs.YtjmdnjnjepinoaaGreatDoor
