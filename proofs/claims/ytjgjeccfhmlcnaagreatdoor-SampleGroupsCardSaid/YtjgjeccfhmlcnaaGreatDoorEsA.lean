/-
  Contracts and plain lemmas. By an AI agent.
-/
import Derived.Test.YtjgjeccfhmlcnaaGreatDoorQRatC
import Derived.Test.YtjgjeccfhmlcnaaGreatDoorQMem
import Derived.Test.YtjgjeccfhmlcnaaGreatDoorPlain
set_option linter.unusedSimpArgs false
set_option linter.unusedVariables false
set_option linter.unusedSectionVars false
namespace Go.Proofs.YtjgjeccfhmlcnaaGreatDoor
open Go Go.Eng Go.Proofs Go.Num Go.RowKit
set_option maxRecDepth 100000
def eN : Option Rat → List UInt8
 | some x => Lib.itoa x.num
 | none => []
def eD : Option Rat → List UInt8
 | some x => Lib.itoa (x.den : Int)
 | none => []
abbrev ov (o : Option Rat) : Value := .agg #[str (eN o), str (eD o)]
def OB (o : Option Rat) : Prop := ∀ x, o = some x → RB x
theorem OB.none : OB none := fun _ h => by cases h
theorem OB.some {x : Rat} (h : RB x) : OB (some x) := fun _ e => by cases e; exact h
theorem OB.get {x : Rat} (h : OB (Option.some x)) : RB x := h x rfl
theorem itoa_ne' (z : Int) : Lib.itoa z ≠ [] := by
 unfold Lib.itoa; split
 ·simp
 ·exact dec_ne _
theorem ok_nil (d : List UInt8) : ¬ okR [] d := by
 rintro ⟨x, h, _⟩
 exact itoa_ne' x.num h.symm
theorem OB.okR {o : Option Rat} (h : OB o) : okR (eN o) (eD o) ↔ o ≠ .none := by
 cases o with
 | none => exact ⟨fun k => absurd k (ok_nil _), fun k => absurd rfl k⟩
 | some x => exact ⟨fun _ => by simp, fun _ => okR_q.2 h.get⟩
theorem OB.len {o : Option Rat} (h : OB o) : (eN o).length ≤ 1000000 ∧ (eD o).length ≤ 1000000 := by
 cases o with
 | none => exact ⟨by decide, by decide⟩
 | some x => exact ⟨itoa_ok h.get.n, itoa_ok h.get.d⟩
section
variable {o p : Option Rat} {w : World} (ho : OB o) (hp : OB p)
include ho hp
end
section
variable {o : Option Rat} {w : World} (ho : OB o)
include ho
end
abbrev Sml (x : Rat) : Prop := SR 99 99 x
theorem Sml.of {D M : Nat} {x : Rat} (h : DR D M x) (hD : 0 < D) (h1 : D < 10 ^ 99) (h2 : M * D < 10 ^ 99) : Sml x := by
 obtain ⟨a, b⟩ := h.num hD
 exact ⟨Nat.lt_of_le_of_lt a h2, Nat.lt_of_le_of_lt b h1⟩
theorem Sml.rb {x : Rat} (h : Sml x) : RB x := SR.rb h (by decide) (by decide)
section
variable {x y : Rat} (hx : Sml x) (hy : Sml y)
include hx hy
end
theorem pow_mono {D : Nat} (hD : 0 < D) (n : Nat) : 1 ≤ D ^ n := Nat.pow_pos hD
section
variable {w : World} {K : Value → World → Prop} {KP : Value → Prop} {c wi : Bool} {a b : List UInt8}
theorem ab_t : (a == a && b == b) = true := by simp
theorem dqNeS (hk : KP (.bool false)) : Dv Tryz.prog wi (bn .neq tR c (.agg #[str a, str b]) (.agg #[str a, str b])) w KP := dqNeF ab_t hk
end
end Go.Proofs.YtjgjeccfhmlcnaaGreatDoor
