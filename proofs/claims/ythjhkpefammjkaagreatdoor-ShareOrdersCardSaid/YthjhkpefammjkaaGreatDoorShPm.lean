/-
  Contracts and plain lemmas. By an AI agent.
-/
import Derived.Test.YthjhkpefammjkaaGreatDoorLShPm
import Derived.Test.YthjhkpefammjkaaGreatDoorShPl
import Derived.Test.YthjhkpefammjkaaGreatDoorPlain
set_option linter.unusedSimpArgs false
set_option linter.unusedVariables false
set_option linter.unusedSectionVars false
namespace Go.Proofs.YthjhkpefammjkaaGreatDoor
open Go Go.Eng Go.Proofs Go.Num Go.RowKit Go.Shr
set_option maxRecDepth 100000
theorem Jn0.cut {A : (World → Prop) → Prop} {B : World → Prop} (I : World → Prop) (hB : ∀ w, I w → B w) (hA : ∀ K : World → Prop, (∀ w, I w → K w) → A K) : Jn0 A B :=
 Jn0.mk fun K lf => hA K fun w hI => lf w (hB w hI)
theorem set_fI {l : List Int} {j : Nat} {y : Int} : (l.flatMap fI).set (0 + j * 1) (.int .i64 y) = (l.set j y).flatMap fI := by
 rw [fI_map, fI_map, List.map_set, Nat.zero_add, Nat.mul_one]
theorem g_set {l : List Int} {j s : Nat} {y : Int} (hj : j < l.length) : g (l.set j y) s = if s = j then y else g l s := by
 unfold g
 rw [List.getD_eq_getElem?_getD, List.getD_eq_getElem?_getD, List.getElem?_set]
 by_cases h : j = s
 ·subst h; simp [hj]
 ·rw [if_neg h, if_neg (fun e => h e.symm)]
structure BetOk (p k s : Nat) (l B : List Int) : Prop where
 len : B.length = p
 old : ∀ t, t < p → (s ≤ t ∨ t / 2 ^ k % 2 = 0) → g B t = g l t
 lo : ∀ t, t < p → g l t ≤ g B t ∧ g B t ≤ g l t + 8
structure TrnOk (p m b s : Nat) (l T : List Int) : Prop where
 len : T.length = p
 at_ : ∀ t, t < s → g T (tau m b t) = g l t
 ok : ∀ x ∈ T, mdOk x
section
variable {w0 : World} {n al ca tu : Int} {v v' : Value} {xs ys : List Int} (hn : I64 n) (ha : I64 al) (hca : I64 ca) (htu : I64 tu) (hv : SlC w0 1 v xs.length (xs.flatMap fI)) (hl : xs.length ≤ 9223372036854775807) (hx : ∀ x ∈ xs, I64 x)
 (hv' : SlC w0 1 v' ys.length (ys.flatMap fI)) (hl' : ys.length ≤ 9223372036854775807) (hy : ∀ x ∈ ys, I64 x) (hT : Tab w0) (hF : FacV w0)
include hn ha hca htu hv hl hx hv' hl' hy hT hF
end
end Go.Proofs.YthjhkpefammjkaaGreatDoor
