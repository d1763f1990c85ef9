/-
  Contracts and plain lemmas. By an AI agent.
-/
import Derived.Test.YtdbcpkihokagkaaGreatDoorQRatC
import Derived.Test.YtdbcpkihokagkaaGreatDoorEng
set_option linter.unusedSimpArgs false
set_option linter.unusedVariables false
set_option linter.unusedSectionVars false
namespace Go.Proofs.YtdbcpkihokagkaaGreatDoor
open Go Go.Eng Go.Proofs Go.Num Go.RowKit
set_option maxRecDepth 100000
abbrev pq (g o : Nat) : Value := .pointer (some ⟨g, o, none⟩)
section
variable {w : World} {K : Value → World → Prop} {KP : Value → Prop} {rest : Prop} {g o : Nat} {ty : TypeId} {cs : List Value} {a b a' b' : List UInt8} {wi c : Bool}
theorem mF0 (hk : K (pq g o) w) : Fa Tryz.prog tR (pq g o) 0 w K := by ((try simp -dsimp [go_sem]); repeat (simp -dsimp (disch := omega) only [gL, gI]; try simp -dsimp [go_sem])); exact hk
theorem mF1 (hk : K (pq g (o + 1)) w) : Fa Tryz.prog tR (pq g o) 1 w K := by ((try simp -dsimp [go_sem]); repeat (simp -dsimp (disch := omega) only [gL, gI]; try simp -dsimp [go_sem])); exact hk
end
theorem same2 (a b : List UInt8) : (a == a && b == b) = true := by simp
end Go.Proofs.YtdbcpkihokagkaaGreatDoor
