/-
  Contracts and plain lemmas. By an AI agent.
-/
import Derived.Test.YtnkmbjedcjcccaaGreatDoorLAmB
import Derived.Test.YtnkmbjedcjcccaaGreatDoorAmA
set_option linter.unusedSimpArgs false
set_option linter.unusedVariables false
set_option linter.unusedSectionVars false
namespace Go.Proofs.YtnkmbjedcjcccaaGreatDoor
open Go Go.Eng Go.Proofs Go.Num Go.RowKit
open Go.Alm (Ft Wt Sm VW VA dn fct obs obs1 rungs obsN fresh sumW)
set_option maxRecDepth 100000
abbrev I2 := Int × Int
abbrev fP2 (a : I2) : List Value := [.int .i64 a.1, .int .i64 a.2]
def I2ok (l : List I2) : Prop := ∀ a ∈ l, I64 a.1 ∧ I64 a.2
structure SF (f : Ft) : Prop where
 v : VF f
 hi : f.hi ≤ 1000
structure Chg (g : Ft → I2 → Ft) : Prop where
 k : ∀ f a, SF f → f.hi ≤ 900 → SF (g f a) ∧ (g f a).tr = f.tr ∧ (g f a).sp = f.sp ∧ (g f a).op = f.op ∧ (g f a).ve = f.ve ∧ f.lo ≤ (g f a).lo
theorem obs_get {ws : List Wt} {l : List Ft} {i : Nat} {x : Wt} (h : (obs ws l)[i]? = some x) : ∃ w, ws[i]? = some w ∧ x = obs1 w.th w l := by
 unfold obs at h
 rw [List.getElem?_map] at h
 obtain ⟨a, ha, rfl⟩ := Option.map_eq_some_iff.1 h
 exact ⟨a, ha, rfl⟩
theorem Fk.of {w : World} {v : Value} {fl : List Ft} (hv : SlC w 10 v fl.length (fl.flatMap fF)) (h : VFs fl) : Fk w v fl := ⟨hv, vfs_fi h, by have := h.1; omega⟩
section
variable {w0 : World} {b : Int} {v1 v2 v3 : Value} {l : List I6} {l3 : List I3} {l2 : List I2} (hE : En w0) (hb : I64 b) (h1 : SlC w0 6 v1 l.length (l.flatMap fX6)) (h2 : SlC w0 3 v2 l3.length (l3.flatMap fT)) (h3 : SlC w0 2 v3 l2.length (l2.flatMap fP2)) (o1 : I6ok l) (o2 : I3ok l3) (o3 : I2ok l2) (n1 : l.length ≤ 9223372036854775807) (n2 : l3.length ≤ 9223372036854775807) (n3 : l2.length ≤ 9223372036854775807)
include hE hb h1 h2 h3 o1 o2 o3 n1 n2 n3
end
end Go.Proofs.YtnkmbjedcjcccaaGreatDoor
