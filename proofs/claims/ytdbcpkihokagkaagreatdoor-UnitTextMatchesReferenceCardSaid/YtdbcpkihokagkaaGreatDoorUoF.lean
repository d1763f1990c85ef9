/-
  Contracts and plain lemmas. By an AI agent.
-/
import Derived.Test.YtdbcpkihokagkaaGreatDoorLUoF
import Derived.Test.YtdbcpkihokagkaaGreatDoorUnX
set_option linter.unusedSimpArgs false
set_option linter.unusedVariables false
set_option linter.unusedSectionVars false
namespace Go.Proofs.YtdbcpkihokagkaaGreatDoor
open Go Go.Eng Go.Proofs Go.Num Go.RowKit
set_option maxRecDepth 100000
theorem encQ_le {q : QT} (h : (valQ q).isSome = true) : (encQ q).length ≤ 200 := by
 obtain ⟨b1, b2, hu⟩ := enc_bd h
 have z1 := putS_len b1 (by decide)
 have z2 := putS_len b2 (by decide)
 have j1 := hu.1
 have j2 := hu.2.1
 have j3 := hu.2.2.1
 have j4 := hu.2.2.2
 have i1 := putI_len9 (n := q.u.1) (by omega) (by omega)
 have i2 := putI_len9 (n := q.u.2.1) (by omega) (by omega)
 have i3 := putI_len9 (n := q.u.2.2.1) (by omega) (by omega)
 have i4 := putI_len9 (n := q.u.2.2.2) (by omega) (by omega)
 unfold encQ
 simp only [List.length_append]
 omega
theorem prQ_le {q : QT} : (prQ q).length ≤ 200 := by
 rcases h : (valQ q).isSome with _ | _
 ·rw [prQ_n h]; simp
 ·obtain ⟨b1, b2, hu⟩ := enc_bd h
  have hl := printS_len b1 b2
  have l1 := pT_len (w := wUs) hu.1 (by decide)
  have l2 := pT_len (w := wBy) hu.2.1 (by decide)
  have l3 := pT_len (w := wCe) hu.2.2.1 (by decide)
  have l4 := pT_len (w := wOn) hu.2.2.2 (by decide)
  rw [prQ_y h]
  unfold prU
  simp only [List.length_append]
  omega
end Go.Proofs.YtdbcpkihokagkaaGreatDoor
