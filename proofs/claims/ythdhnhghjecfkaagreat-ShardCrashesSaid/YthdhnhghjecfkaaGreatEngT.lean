/-
  Contracts and plain lemmas. By an AI agent.
-/
import Derived.Test.YthdhnhghjecfkaaGreatEng
set_option linter.unusedSimpArgs false
set_option linter.unusedVariables false
set_option linter.unusedSectionVars false
namespace Go.Eng
open Go Go.RowKit Go.Proofs
section
variable {P : Program} {w : World} {K : Value → World → Prop} {KP : Value → Prop} {t : TypeId} {c wi : Bool} {k : IntKind} {b d v : Bool}
end
section
variable {P : Program} {t e : TypeId} {z : Value} {i : TypeInfo} {c : Nat} {w : World} {K : Value → World → Prop} {base : Nat}
def SlC (w : World) (c : Nat) (v : Value) (m : Nat) (ys : List Value) : Prop :=
 ys.length = m * c ∧ ((v = .slice none 0 0 ∧ m = 0) ∨ ∃ b o cap, v = .slice (some ⟨b, o, none⟩) m cap ∧ m ≤ cap ∧ CellsAt w b o ys)
theorem SlC.ext {w w' : World} {v : Value} {m : Nat} {ys : List Value} (h : SlC w c v m ys) (he : Ext w w') : SlC w' c v m ys := by
 obtain ⟨h0, h | ⟨b, o, cap, h1, h2, h3⟩⟩ := h
 ·exact ⟨h0, .inl h⟩
 ·exact ⟨h0, .inr ⟨b, o, cap, h1, h2, h3.ext he⟩⟩
theorem ownsRow_sl {v : Value} {n : Nat} {xs : List Value} (h : w.ownsRow base e c v n xs) : SlC w c v n xs := by
 have h' := h
 obtain ⟨h0, h | ⟨g, cap, cur, h1, h2, h3, h4, h5⟩⟩ := h
 ·exact ⟨h0, .inl h⟩
 ·subst h1
  exact ⟨h0, .inr ⟨g, 0, cap, rfl, h4, fun i x hx => add_none g 0 i ▸ World.ownsRow.cells h' (g := g) rfl i x hx⟩⟩
end
end Go.Eng
