/-
  Contracts and plain lemmas. By an AI agent.
-/
import Derived.Test.YthdhnhghjecfkaaGreatEngW
import Derived.Test.YthdhnhghjecfkaaGreatProg
set_option linter.unusedSimpArgs false
set_option linter.unusedVariables false
set_option linter.unusedSectionVars false
namespace Go.Proofs.YthdhnhghjecfkaaGreat
open Go Go.Eng Go.Shelf
set_option maxRecDepth 100000
def s_shard_Valid (P : Program) (t0 : Value) (w : World) (R : Ending → World → Prop) : Prop :=
 Bx P 30 t0 w fun t1 w =>
 Al P 4 w fun t2 w =>
 Ld P 30 t1 w fun t3 w =>
 Bd P 76 [(0, t3)] w fun t4 w =>
 Bx P 76 t4 w fun t5 w =>
 Cl P 47 #[t5] w (fun c w => Df P 46 #[t2] (.panicking c) w (fun w => Rc P 4 t2 w fun r0 => R (.returned r0) w) R) fun t6 w =>
 Sto P 4 t2 (.bool true) w fun w =>
 Df P 46 #[t2] .returning w (fun w => Rc P 4 t2 w fun r0 => R (.returned r0) w) R
theorem e_shard_Valid {t0 : Value} {w : World} {R : Ending → World → Prop} (hE : Enters Tryz.prog 46) (h : s_shard_Valid Tryz.prog t0 w R) : Calls Tryz.prog 19 #[t0] w R :=
 enterE (hA := .z) (hB := (.sq .z (.sq .z .z))) (args := [t0]) Tryz.func19 rfl (by kernel_rfl) (by kernel_rfl) (by kernel_rfl) (by kernel_rfl) (by kernel_rfl) hE (Eq.mp (by kernel_rfl) h)
theorem n_shard_Valid : Enters Tryz.prog 19 := enters_of Tryz.func19 (by kernel_rfl) rfl
def s_shard_try (P : Program) (t0 : Value) (w : World) (R : Ending → World → Prop) : Prop :=
 Al P 4 w fun t2 w =>
 Cw P t0 #[] w (fun c w => Df P 46 #[t2] (.panicking c) w (fun w => Rc P 4 t2 w fun r0 => R (.returned r0) w) R) fun t4 w =>
 Sto P 4 t2 (.bool true) w fun w =>
 Df P 46 #[t2] .returning w (fun w => Rc P 4 t2 w fun r0 => R (.returned r0) w) R
theorem e_shard_try {t0 : Value} {w : World} {R : Ending → World → Prop} (hE : Enters Tryz.prog 46) (h : s_shard_try Tryz.prog t0 w R) : Calls Tryz.prog 34 #[t0] w R :=
 enterE (hA := .z) (hB := (.sq .z (.sq .z .z))) (args := [t0]) Tryz.func34 rfl (by kernel_rfl) (by kernel_rfl) (by kernel_rfl) (by kernel_rfl) (by kernel_rfl) hE (Eq.mp (by kernel_rfl) h)
theorem n_shard_try : Enters Tryz.prog 34 := enters_of Tryz.func34 (by kernel_rfl) rfl
end Go.Proofs.YthdhnhghjecfkaaGreat
