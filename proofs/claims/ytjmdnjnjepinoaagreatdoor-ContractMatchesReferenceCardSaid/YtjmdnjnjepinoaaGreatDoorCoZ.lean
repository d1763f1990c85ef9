/-
  Contracts and plain lemmas. By an AI agent.
-/
import Derived.Test.YtjmdnjnjepinoaaGreatDoorLCoZ
import Derived.Test.YtjmdnjnjepinoaaGreatDoorCoY
import Derived.Test.YtjmdnjnjepinoaaGreatDoorPlain
set_option linter.unusedSimpArgs false
set_option linter.unusedVariables false
set_option linter.unusedSectionVars false
namespace Go.Proofs.YtjmdnjnjepinoaaGreatDoor
open Go Go.Eng Go.Proofs Go.Num Go.RowKit
set_option maxRecDepth 100000
theorem smQ_Pri (n d : Int) : Pri (smQ n d) := ⟨dr_sml (smQ_DR n d) (by decide) (by decide) (by decide), smQ_nn n d⟩
theorem capZ_bd (d : Int) : 0 ≤ capZ d ∧ capZ d ≤ 1000000000 := by
 have b3 := pickZ_bd (c := d) (n := 4) (by decide)
 have b4 := pickZ_bd (c := d.tdiv 4) (n := 50) (by decide)
 have bz := cz_bd b3
 have b5 := cz_3 b3
 have hz : pickZ d 4 = 3 → cz (pickZ d 4) = 1000000000 := fun e => by rw [e]; rfl
 show 0 ≤ cz (pickZ d 4) + pickZ (d.tdiv 4) 50 - 50 * (pickZ d 4).tdiv 3 ∧ cz (pickZ d 4) + pickZ (d.tdiv 4) 50 - 50 * (pickZ d 4).tdiv 3 ≤ 1000000000
 rw [b5]
 by_cases h3 : pickZ d 4 = 3
 ·have := hz h3; omega
 ·have := bz.2.1 (by omega); omega
abbrev aC (tm gr : Int) (q : Rat) (cap : Int) : Value := .agg #[.int .i64 tm, .int .i64 gr, str (eN (some q)), str (eD (some q)), .int .i64 cap]
section
variable {w0 : World} {v : Value} {l : List Int} {x0 x1 x2 x3 : Int} (he : En w0) (hv : SlC w0 1 v l.length (l.flatMap fI)) (hI : ∀ a ∈ l, I64 a) (hll : l.length ≤ 9223372036854775807) (h0 : I64 x0) (h1 : I64 x1) (h2 : I64 x2) (h3 : I64 x3)
include he hv hI hll h0 h1 h2 h3
end
end Go.Proofs.YtjmdnjnjepinoaaGreatDoor
