/-
  Contracts and plain lemmas. By an AI agent.
-/
import Derived.Test.YtnocjgmmglmfiaaGreatDoorQRatC
import Derived.Test.YtnocjgmmglmfiaaGreatDoorEng
set_option linter.unusedSimpArgs false
set_option linter.unusedVariables false
set_option linter.unusedSectionVars false
namespace Go.Proofs.YtnocjgmmglmfiaaGreatDoor
open Go Go.Eng Go.Proofs Go.Num Go.RowKit
set_option maxRecDepth 100000
set_option linter.unusedVariables false
abbrev pq (g o : Nat) : Value := .pointer (some ⟨g, o, none⟩)
theorem gdR {op : BinOp} {c : Bool} {xs ys : Array Value} {w : World} : (eqG op tR c (.agg xs) (.agg ys)).run Tryz.prog w = .ok () w := eqG_agg (by kernel_rfl)
section
variable {w : World} {K : Value → World → Prop} {KP : Value → Prop} {rest : Prop} {g o : Nat} {ty : TypeId} {cs : List Value} {a b a' b' : List UInt8} {wi c : Bool}
theorem mR (h : Blk w g ty cs) (hi : cs[o]? = some (str a)) (hj : cs[o + 1]? = some (str b)) (hk : K (.agg #[str a, str b]) w) : Ld Tryz.prog tR (pq g o) w K := by
  ((try simp -dsimp [go_sem, h.cell hi, h.cell hj]); repeat (simp -dsimp (disch := omega) only [gL, it_t, it_f, dit_t, dit_f]; try simp -dsimp [go_sem, h.cell hi, h.cell hj])); exact hk
theorem dR (h : Blk w g ty cs) (hi : cs[o]? = some (str a)) (hj : cs[o + 1]? = some (str b)) (hk : KP (.agg #[str a, str b])) : Dv Tryz.prog false (Instr.loadAt tR (pq g o)) w KP := by
  ((try simp -dsimp [go_sem, h.cell hi, h.cell hj]); repeat (simp -dsimp (disch := omega) only [gL, it_t, it_f, dit_t, dit_f]; try simp -dsimp [go_sem, h.cell hi, h.cell hj])); exact hk
theorem kR (h : Blk w g ty cs) (hi : cs[o]? = some (str a)) (hj : cs[o + 1]? = some (str b)) (hk : rest) : Ke Tryz.prog (Instr.loadAt tR (pq g o)) (.agg #[str a, str b]) w rest := by
  ((try simp -dsimp [go_sem, h.cell hi, h.cell hj]); repeat (simp -dsimp (disch := omega) only [gL, it_t, it_f, dit_t, dit_f]; try simp -dsimp [go_sem, h.cell hi, h.cell hj])); exact hk
theorem qNeF (h : (a == a' && b == b') = true) (hk : K (.bool false) w) : Bn Tryz.prog .neq tR c (.agg #[str a, str b]) (.agg #[str a', str b']) w K := by
  simp only [Bool.and_eq_true] at h
  ((try simp -dsimp [go_sem, gdR, h.1, h.2]); repeat (simp -dsimp (disch := omega) only [gL, it_t, it_f, dit_t, dit_f]; try simp -dsimp [go_sem, gdR, h.1, h.2])); exact hk
theorem dqEqT (h : (a == a' && b == b') = true) (hk : KP (.bool true)) : Dv Tryz.prog wi (bn .eql tR c (.agg #[str a, str b]) (.agg #[str a', str b'])) w KP := by
  simp only [Bool.and_eq_true] at h
  cases wi <;> ((try simp -dsimp [go_sem, gdR, h.1, h.2]); repeat (simp -dsimp (disch := omega) only [gL, it_t, it_f, dit_t, dit_f]; try simp -dsimp [go_sem, gdR, h.1, h.2])) <;> exact hk
end
theorem same2 (a b : List UInt8) : (a == a && b == b) = true := by simp
section
variable {w : World} {K : Value → World → Prop} {KP : Value → Prop} {KW : World → Prop} {rest : Prop} {g o : Nat} {wi : Bool}
theorem dR2x0 {ty : TypeId} {x0 x1 : List UInt8} (h : Blk w g ty [str x0, str x1]) (hk : KP (.agg #[str x0, str x1])) : Dv Tryz.prog false (Instr.loadAt 30 (pq g 0)) w KP := by ((try simp -dsimp [go_sem, h.cell (i := 0) rfl, h.cell (i := 1) rfl]); repeat (simp -dsimp (disch := omega) only [gL, it_t, it_f, dit_t, dit_f]; try simp -dsimp [go_sem, h.cell (i := 0) rfl, h.cell (i := 1) rfl])); exact hk
theorem kR2x0 {ty : TypeId} {x0 x1 : List UInt8} (h : Blk w g ty [str x0, str x1]) (hk : rest) : Ke Tryz.prog (Instr.loadAt 30 (pq g 0)) (.agg #[str x0, str x1]) w rest := by ((try simp -dsimp [go_sem, h.cell (i := 0) rfl, h.cell (i := 1) rfl]); repeat (simp -dsimp (disch := omega) only [gL, it_t, it_f, dit_t, dit_f]; try simp -dsimp [go_sem, h.cell (i := 0) rfl, h.cell (i := 1) rfl])); exact hk
theorem rcR {a b : List UInt8} (h : Blk w g tR [str a, str b]) (hk : KP (.agg #[str a, str b])) : Rc Tryz.prog tR (pt g) w KP := by
  ((try simp -dsimp [go_sem, h.cell (i := 0) rfl, h.cell (i := 1) rfl]); repeat (simp -dsimp (disch := omega) only [gL, it_t, it_f, dit_t, dit_f]; try simp -dsimp [go_sem, h.cell (i := 0) rfl, h.cell (i := 1) rfl]))
  exact hk
end
end Go.Proofs.YtnocjgmmglmfiaaGreatDoor
