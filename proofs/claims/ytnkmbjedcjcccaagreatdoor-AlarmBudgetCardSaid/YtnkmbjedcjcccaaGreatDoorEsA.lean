/-
  Contracts and plain lemmas. By an AI agent.
-/
import Derived.Test.YtnkmbjedcjcccaaGreatDoorQRatC
import Derived.Test.YtnkmbjedcjcccaaGreatDoorQMem
import Derived.Test.YtnkmbjedcjcccaaGreatDoorPlain
set_option linter.unusedSimpArgs false
set_option linter.unusedVariables false
set_option linter.unusedSectionVars false
namespace Go.Proofs.YtnkmbjedcjcccaaGreatDoor
open Go Go.Eng Go.Proofs Go.Num Go.RowKit
set_option maxRecDepth 100000
def eN : Option Rat → List UInt8
 | some x => Lib.itoa x.num
 | none => []
def eD : Option Rat → List UInt8
 | some x => Lib.itoa (x.den : Int)
 | none => []
def eE : Option Rat → Int
 | some _ => 0
 | none => 40
abbrev ov (o : Option Rat) : Value := .agg #[str (eN o), str (eD o)]
abbrev ot (o : Option Rat) : Value := .tuple #[ov o, .int .i64 (eE o)]
def OB (o : Option Rat) : Prop := ∀ x, o = some x → RB x
theorem OB.some {x : Rat} (h : RB x) : OB (some x) := fun _ e => by cases e; exact h
theorem OB.get {x : Rat} (h : OB (Option.some x)) : RB x := h x rfl
theorem itoa_ne' (z : Int) : Lib.itoa z ≠ [] := by
 unfold Lib.itoa; split
 ·simp
 ·exact dec_ne _
theorem ok_nil (d : List UInt8) : ¬ okR [] d := by
 rintro ⟨x, h, _⟩
 exact itoa_ne' x.num h.symm
theorem OB.len {o : Option Rat} (h : OB o) : (eN o).length ≤ 1000000 ∧ (eD o).length ≤ 1000000 := by
 cases o with
 | none => exact ⟨by decide, by decide⟩
 | some x => exact ⟨itoa_ok h.get.n, itoa_ok h.get.d⟩
noncomputable def oBin (f : Rat → Rat → R3) (g : Rat → Rat → Rat) (o p : Option Rat) : Option Rat :=
 match o, p with
 | some x, some y => if (f x y).2.2 = 0 then some (g x y) else none
 | _, _ => none
noncomputable abbrev oAdd := oBin addQ (fun x y => x + y)
noncomputable abbrev oSub := oBin subQ (fun x y => x - y)
noncomputable abbrev oMul := oBin mulQ (fun x y => x * y)
def Fit (f : Rat → Rat → R3) (g : Rat → Rat → Rat) : Prop := ∀ x y, f x y = rBad ∨ (f x y = rQ (g x y) ∧ RB (g x y))
theorem fit_add : Fit addQ (fun x y => x + y) := fun x y => add_cases x y
theorem fit_sub : Fit subQ (fun x y => x - y) := fun x y => sub_cases x y
theorem fit_mul : Fit mulQ (fun x y => x * y) := fun x y => mul_cases x y
theorem oBin_e {f : Rat → Rat → R3} {g : Rat → Rat → Rat} (hf : Fit f g) {o p : Option Rat} (ho : OB o) (hp : OB p) :
 ans2 f rBad (eN o) (eD o) (eN p) (eD p) = (eN (oBin f g o p), eD (oBin f g o p), eE (oBin f g o p)) := by
 cases o with
 | none => exact ans2_bad fun h => ok_nil _ h.1
 | some x =>
  cases p with
  | none => exact ans2_bad fun h => ok_nil _ h.2
  | some y =>
   refine (ans2_ok ho.get hp.get).trans ?_
   show f x y = _
   have e0 : oBin f g (some x) (some y) = if (f x y).2.2 = 0 then some (g x y) else none := rfl
   rw [e0]
   rcases hf x y with e | ⟨e, r⟩
   ·rw [e, if_neg (by decide)]; rfl
   ·rw [e, if_pos (show (rQ (g x y)).2.2 = 0 from rfl)]; rfl
section
variable {o p : Option Rat} {w : World} (ho : OB o) (hp : OB p)
include ho hp
theorem o_add (hT : Tab w) : Calls Tryz.prog 35 #[ov o, ov p] w (Ret fun r w' => Ext w w' ∧ r = ot (oAdd o p)) := by
 have := c_qAdd (w := w) ho.len.1 ho.len.2 hp.len.1 hp.len.2 hT
 rw [oBin_e fit_add ho hp] at this; exact this
theorem o_sub (hT : Tab w) : Calls Tryz.prog 31 #[ov o, ov p] w (Ret fun r w' => Ext w w' ∧ r = ot (oSub o p)) := by
 have := c_qSub (w := w) ho.len.1 ho.len.2 hp.len.1 hp.len.2 hT
 rw [oBin_e fit_sub ho hp] at this; exact this
theorem o_mul (hT : Tab w) : Calls Tryz.prog 32 #[ov o, ov p] w (Ret fun r w' => Ext w w' ∧ r = ot (oMul o p)) := by
 have := c_qMul (w := w) ho.len.1 ho.len.2 hp.len.1 hp.len.2 hT
 rw [oBin_e fit_mul ho hp] at this; exact this
end
section
variable {o : Option Rat} {w : World} (ho : OB o)
include ho
theorem o_valid (hT : Tab w) : Calls Tryz.prog 72 #[ov o] w (Ret fun r w' => Ext w w' ∧ r = .bool o.isSome) := by
 have e : okB (eN o) (eD o) = o.isSome := by
  cases o with
  | none => exact okB_f (ok_nil _)
  | some x => exact okB_t (okR_q.2 ho.get)
 have := c_qValid (w := w) ho.len.1 ho.len.2 hT
 rw [e] at this; exact this
end
abbrev Sml (x : Rat) : Prop := SR 99 99 x
theorem Sml.rb {x : Rat} (h : Sml x) : RB x := SR.rb h (by decide) (by decide)
section
variable {x y : Rat} (hx : Sml x) (hy : Sml y)
include hx hy
end
theorem pow_mono {D : Nat} (hD : 0 < D) (n : Nat) : 1 ≤ D ^ n := Nat.pow_pos hD
section
variable {w : World} {K : Value → World → Prop} {KP : Value → Prop} {c wi : Bool} {a b : List UInt8}
theorem ab_t : (a == a && b == b) = true := by simp
theorem qNeS (hk : K (.bool false) w) : Bn Tryz.prog .neq tR c (.agg #[str a, str b]) (.agg #[str a, str b]) w K := qNeF ab_t hk
theorem dqEqS (hk : KP (.bool true)) : Dv Tryz.prog wi (bn .eql tR c (.agg #[str a, str b]) (.agg #[str a, str b])) w KP := dqEqT ab_t hk
end
end Go.Proofs.YtnkmbjedcjcccaaGreatDoor
