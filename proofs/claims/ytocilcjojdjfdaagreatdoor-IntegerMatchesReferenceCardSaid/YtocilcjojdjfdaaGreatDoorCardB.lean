/-
  Contracts of functions of the program, and plain lemmas on numbers and strings. By an AI agent.
-/
import Derived.Test.YtocilcjojdjfdaaGreatDoorCardA
import Derived.Test.YtocilcjojdjfdaaGreatDoorStrZ
set_option linter.unusedSimpArgs false
set_option linter.unusedVariables false
namespace Go.Proofs.YtocilcjojdjfdaaGreatDoor
open Go Go.Eng Go.Proofs Go.Num Go.RowKit
set_option maxRecDepth 100000
theorem errV_of_laid {w : World} (h : laidMetH Tryz.prog theLaid w) : ErrV w := by
  rw [MakeChecks.laidMetH_plain _ _ _ (by kernel_rfl)] at h
  exact ⟨err_of (n := "strconv.ErrSyntax") (nm := "*errors.errorString") (d := .ptr (.agg [.lit (.string [105, 110, 118, 97, 108, 105, 100, 32, 115, 121, 110, 116, 97, 120])])) h (List.mem_of_getElem? (i := 5) rfl) (g := 0) (by kernel_rfl) (by kernel_rfl) Tryz.underlying69,
    err_of (n := "strconv.ErrRange") (nm := "*errors.errorString") (d := .ptr (.agg [.lit (.string [118, 97, 108, 117, 101, 32, 111, 117, 116, 32, 111, 102, 32, 114, 97, 110, 103, 101])])) h (List.mem_of_getElem? (i := 4) rfl) (g := 1) (by kernel_rfl) (by kernel_rfl) Tryz.underlying69⟩
end Go.Proofs.YtocilcjojdjfdaaGreatDoor
