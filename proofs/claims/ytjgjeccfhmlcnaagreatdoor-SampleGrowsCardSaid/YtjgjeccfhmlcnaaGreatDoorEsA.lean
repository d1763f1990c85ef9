/-
  Contracts and plain lemmas. By an AI agent.
-/
import Derived.Test.YtjgjeccfhmlcnaaGreatDoorQRatC
import Derived.Test.YtjgjeccfhmlcnaaGreatDoorQMem
import Derived.Test.YtjgjeccfhmlcnaaGreatDoorPlain
set_option linter.unusedSimpArgs false
set_option linter.unusedVariables false
set_option linter.unusedSectionVars false
namespace Go.Proofs.YtjgjeccfhmlcnaaGreatDoor
open Go Go.Eng Go.Proofs Go.Num Go.RowKit
set_option maxRecDepth 100000
def eN : Option Rat → List UInt8
 | some x => Lib.itoa x.num
 | none => []
def eD : Option Rat → List UInt8
 | some x => Lib.itoa (x.den : Int)
 | none => []
def eE : Option Rat → Int
 | some _ => 0
 | none => 40
abbrev ov (o : Option Rat) : Value := .agg #[str (eN o), str (eD o)]
abbrev ot (o : Option Rat) : Value := .tuple #[ov o, .int .i64 (eE o)]
def OB (o : Option Rat) : Prop := ∀ x, o = some x → RB x
theorem OB.none : OB none := fun _ h => by cases h
theorem OB.some {x : Rat} (h : RB x) : OB (some x) := fun _ e => by cases e; exact h
theorem OB.get {x : Rat} (h : OB (Option.some x)) : RB x := h x rfl
theorem itoa_ne' (z : Int) : Lib.itoa z ≠ [] := by
 unfold Lib.itoa; split
 ·simp
 ·exact dec_ne _
theorem ok_nil (d : List UInt8) : ¬ okR [] d := by
 rintro ⟨x, h, _⟩
 exact itoa_ne' x.num h.symm
theorem OB.okR {o : Option Rat} (h : OB o) : okR (eN o) (eD o) ↔ o ≠ .none := by
 cases o with
 | none => exact ⟨fun k => absurd k (ok_nil _), fun k => absurd rfl k⟩
 | some x => exact ⟨fun _ => by simp, fun _ => okR_q.2 h.get⟩
theorem OB.len {o : Option Rat} (h : OB o) : (eN o).length ≤ 1000000 ∧ (eD o).length ≤ 1000000 := by
 cases o with
 | none => exact ⟨by decide, by decide⟩
 | some x => exact ⟨itoa_ok h.get.n, itoa_ok h.get.d⟩
noncomputable def oBin (f : Rat → Rat → R3) (g : Rat → Rat → Rat) (o p : Option Rat) : Option Rat :=
 match o, p with
 | some x, some y => if (f x y).2.2 = 0 then some (g x y) else none
 | _, _ => none
noncomputable abbrev oAdd := oBin addQ (fun x y => x + y)
noncomputable abbrev oSub := oBin subQ (fun x y => x - y)
noncomputable abbrev oMul := oBin mulQ (fun x y => x * y)
noncomputable abbrev oDiv := oBin divQ (fun x y => x / y)
def Fit (f : Rat → Rat → R3) (g : Rat → Rat → Rat) : Prop := ∀ x y, f x y = rBad ∨ (f x y = rQ (g x y) ∧ RB (g x y))
theorem fit_add : Fit addQ (fun x y => x + y) := fun x y => add_cases x y
theorem oBin_e {f : Rat → Rat → R3} {g : Rat → Rat → Rat} (hf : Fit f g) {o p : Option Rat} (ho : OB o) (hp : OB p) :
 ans2 f rBad (eN o) (eD o) (eN p) (eD p) = (eN (oBin f g o p), eD (oBin f g o p), eE (oBin f g o p)) := by
 cases o with
 | none => exact ans2_bad fun h => ok_nil _ h.1
 | some x =>
  cases p with
  | none => exact ans2_bad fun h => ok_nil _ h.2
  | some y =>
   refine (ans2_ok ho.get hp.get).trans ?_
   show f x y = _
   have e0 : oBin f g (some x) (some y) = if (f x y).2.2 = 0 then some (g x y) else none := rfl
   rw [e0]
   rcases hf x y with e | ⟨e, r⟩
   ·rw [e, if_neg (by decide)]; rfl
   ·rw [e, if_pos (show (rQ (g x y)).2.2 = 0 from rfl)]; rfl
section
variable {o p : Option Rat} {w : World} (ho : OB o) (hp : OB p)
include ho hp
theorem o_add (hT : Tab w) : Calls Tryz.prog 27 #[ov o, ov p] w (Ret fun r w' => Ext w w' ∧ r = ot (oAdd o p)) := by
 have := c_qAdd (w := w) ho.len.1 ho.len.2 hp.len.1 hp.len.2 hT
 rw [oBin_e fit_add ho hp] at this; exact this
end
section
variable {o : Option Rat} {w : World} (ho : OB o)
include ho
end
abbrev Sml (x : Rat) : Prop := SR 99 99 x
theorem Sml.of {D M : Nat} {x : Rat} (h : DR D M x) (hD : 0 < D) (h1 : D < 10 ^ 99) (h2 : M * D < 10 ^ 99) : Sml x := by
 obtain ⟨a, b⟩ := h.num hD
 exact ⟨Nat.lt_of_le_of_lt a h2, Nat.lt_of_le_of_lt b h1⟩
theorem Sml.rb {x : Rat} (h : Sml x) : RB x := SR.rb h (by decide) (by decide)
section
variable {x y : Rat} (hx : Sml x) (hy : Sml y)
include hx hy
end
noncomputable def oRest (e : El) : Option Rat := oMul (oMul (some e.1) (some e.1)) (oSub (some 1) (some e.2))
noncomputable def oD (e : El) : Option Rat := oDiv (oRest e) (oMul (some e.2) (some e.2))
theorem pow_mono {D : Nat} (hD : 0 < D) (n : Nat) : 1 ≤ D ^ n := Nat.pow_pos hD
section
variable {w : World} {K : Value → World → Prop} {KP : Value → Prop} {c wi : Bool} {a b : List UInt8}
theorem ab_t : (a == a && b == b) = true := by simp
theorem dqNeS (hk : KP (.bool false)) : Dv Tryz.prog wi (bn .neq tR c (.agg #[str a, str b]) (.agg #[str a, str b])) w KP := dqNeF ab_t hk
end
end Go.Proofs.YtjgjeccfhmlcnaaGreatDoor
