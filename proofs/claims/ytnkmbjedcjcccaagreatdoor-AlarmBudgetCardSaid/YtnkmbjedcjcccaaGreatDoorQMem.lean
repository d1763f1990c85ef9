/-
  Contracts and plain lemmas. By an AI agent.
-/
import Derived.Test.YtnkmbjedcjcccaaGreatDoorQRatC
import Derived.Test.YtnkmbjedcjcccaaGreatDoorEng
set_option linter.unusedSimpArgs false
set_option linter.unusedVariables false
set_option linter.unusedSectionVars false
namespace Go.Proofs.YtnkmbjedcjcccaaGreatDoor
open Go Go.Eng Go.Proofs Go.Num Go.RowKit
set_option maxRecDepth 100000
theorem gdR {op : BinOp} {c : Bool} {xs ys : Array Value} {w : World} : (eqG op tR c (.agg xs) (.agg ys)).run Tryz.prog w = .ok () w := eqG_agg (by kernel_rfl)
section
variable {w : World} {K : Value → World → Prop} {KP : Value → Prop} {rest : Prop} {g o : Nat} {ty : TypeId} {cs : List Value} {a b a' b' : List UInt8} {wi c : Bool}
theorem qEqT (h : (a == a' && b == b') = true) (hk : K (.bool true) w) : Bn Tryz.prog .eql tR c (.agg #[str a, str b]) (.agg #[str a', str b']) w K := by
 simp only [Bool.and_eq_true] at h
 ((try simp -dsimp [go_sem, gdR, h.1, h.2]); repeat (simp -dsimp (disch := omega) only [gL, gI]; try simp -dsimp [go_sem, gdR, h.1, h.2])); exact hk
theorem qEqF (h : (a == a' && b == b') = false) (hk : K (.bool false) w) : Bn Tryz.prog .eql tR c (.agg #[str a, str b]) (.agg #[str a', str b']) w K := by
 cases h1 : (a == a') with
 | false => ((try simp -dsimp [go_sem, gdR, h1]); repeat (simp -dsimp (disch := omega) only [gL, gI]; try simp -dsimp [go_sem, gdR, h1])); exact hk
 | true => rw [h1] at h; ((try simp -dsimp [go_sem, gdR, h1, show (b == b') = false from h]); repeat (simp -dsimp (disch := omega) only [gL, gI]; try simp -dsimp [go_sem, gdR, h1, show (b == b') = false from h])); exact hk
theorem qNeT (h : (a == a' && b == b') = false) (hk : K (.bool true) w) : Bn Tryz.prog .neq tR c (.agg #[str a, str b]) (.agg #[str a', str b']) w K := by
 cases h1 : (a == a') with
 | false => ((try simp -dsimp [go_sem, gdR, h1]); repeat (simp -dsimp (disch := omega) only [gL, gI]; try simp -dsimp [go_sem, gdR, h1])); exact hk
 | true => rw [h1] at h; ((try simp -dsimp [go_sem, gdR, h1, show (b == b') = false from h]); repeat (simp -dsimp (disch := omega) only [gL, gI]; try simp -dsimp [go_sem, gdR, h1, show (b == b') = false from h])); exact hk
theorem qNeF (h : (a == a' && b == b') = true) (hk : K (.bool false) w) : Bn Tryz.prog .neq tR c (.agg #[str a, str b]) (.agg #[str a', str b']) w K := by
 simp only [Bool.and_eq_true] at h
 ((try simp -dsimp [go_sem, gdR, h.1, h.2]); repeat (simp -dsimp (disch := omega) only [gL, gI]; try simp -dsimp [go_sem, gdR, h.1, h.2])); exact hk
theorem dqEqT (h : (a == a' && b == b') = true) (hk : KP (.bool true)) : Dv Tryz.prog wi (bn .eql tR c (.agg #[str a, str b]) (.agg #[str a', str b'])) w KP := by
 simp only [Bool.and_eq_true] at h
 cases wi <;> ((try simp -dsimp [go_sem, gdR, h.1, h.2]); repeat (simp -dsimp (disch := omega) only [gL, gI]; try simp -dsimp [go_sem, gdR, h.1, h.2])) <;> exact hk
theorem dqEqF (h : (a == a' && b == b') = false) (hk : KP (.bool false)) : Dv Tryz.prog wi (bn .eql tR c (.agg #[str a, str b]) (.agg #[str a', str b'])) w KP := by
 cases h1 : (a == a') with
 | false => cases wi <;> ((try simp -dsimp [go_sem, gdR, h1]); repeat (simp -dsimp (disch := omega) only [gL, gI]; try simp -dsimp [go_sem, gdR, h1])) <;> exact hk
 | true => rw [h1] at h; cases wi <;> ((try simp -dsimp [go_sem, gdR, h1, show (b == b') = false from h]); repeat (simp -dsimp (disch := omega) only [gL, gI]; try simp -dsimp [go_sem, gdR, h1, show (b == b') = false from h])) <;> exact hk
end
theorem same2 (a b : List UInt8) : (a == a && b == b) = true := by simp
end Go.Proofs.YtnkmbjedcjcccaaGreatDoor
