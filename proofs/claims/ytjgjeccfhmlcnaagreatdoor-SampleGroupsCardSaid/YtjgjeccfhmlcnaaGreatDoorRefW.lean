/-
  Contracts and plain lemmas. By an AI agent.
-/
import Derived.Test.YtjgjeccfhmlcnaaGreatDoorRefZ
import Derived.Test.YtjgjeccfhmlcnaaGreatDoorStrY
set_option linter.unusedSimpArgs false
set_option linter.unusedVariables false
set_option linter.unusedSectionVars false
namespace Go.Proofs.YtjgjeccfhmlcnaaGreatDoor
open Go Go.Eng Go.Proofs Go.Num Go.RowKit
set_option maxRecDepth 100000
section
variable {s t : List UInt8} {w : World} (hs : s.length ≤ 1000000) (ht : t.length ≤ 1000000) (h : (validB s && validB t) = false)
include hs ht h
end
theorem Un_ng {x : Int} {w : World} {K : Value → World → Prop} (h0 : -9223372036854775808 ≤ -x) (h1 : -x ≤ 9223372036854775807) (hk : K (.int .i64 (-x)) w) : Un Tryz.prog .neg (.int .i64 x) w K := by
 ((try simp -dsimp [go_sem]); repeat (simp -dsimp (disch := omega) only [gL, gI]; try simp -dsimp [go_sem])); exact hk
theorem i64M {n : Int} (h0 : -9223372036854775808 ≤ n) (h1 : n ≤ 9223372036854775807) : n.natAbs < MaxI := by
 have h : n.natAbs < 10 ^ 200 := Nat.lt_of_lt_of_le (show n.natAbs < 10 ^ 20 by omega) (Nat.pow_le_pow_right (by decide) (by decide))
 unfold MaxI; exact h
end Go.Proofs.YtjgjeccfhmlcnaaGreatDoor
