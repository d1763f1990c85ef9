/-
  Contracts and plain lemmas. By an AI agent.
-/
import Derived.Test.YtdbcpkihokagkaaGreatDoorLUoE
import Derived.Test.YtdbcpkihokagkaaGreatDoorUnX
set_option linter.unusedSimpArgs false
set_option linter.unusedVariables false
set_option linter.unusedSectionVars false
namespace Go.Proofs.YtdbcpkihokagkaaGreatDoor
open Go Go.Eng Go.Proofs Go.Num Go.RowKit
set_option maxRecDepth 100000
def cutQ (q : QT) : QT := ⟨(q.p.1.take 70, q.p.2.take 70), q.u⟩
theorem cutQ_k (q : QT) : QTk (cutQ q) := ⟨by simp only [cutQ, List.length_take]; omega, by simp only [cutQ, List.length_take]; omega⟩
structure QTi (q : QT) : Prop where
 p1 : q.p.1.length ≤ 9223372036854775807
 p2 : q.p.2.length ≤ 9223372036854775807
 u : UI q.u
theorem tk_min {s : List UInt8} : s.take (min (s.length : Int) 70).toNat = s.take 70 := take_min (k := 70)
theorem c_cut {w0 : World} {q : QT} (hq : QTi q) : Calls Tryz.prog 11 #[vQ q] w0 (Ret fun r w' => Ext w0 w' ∧ r = vQ (cutQ q)) := by
 have k1 := hq.p1
 have k2 := hq.p2
 apply e_law05_cut
 unfold s_law05_cut
 have h := Hp.init [] w0
 refine bxA h fun g1 w h => ?_
 refine alS h fun g2 w h => ?_
 refine faS (faS (Eng.ld1 h 1 rfl rfl (faS (faS (Eng.ld1 h 1 rfl rfl (Bt_lenT ?_))))))
 refine Bt_mi ?_
 refine Sc_tH (by omega) (by omega) ?_
 refine faS (faS (st1 h 1 rfl rfl rfl rfl fun w h => ?_))
 refine faS (faS (Eng.ld1 h 1 rfl rfl (faS (faS (Eng.ld1 h 1 rfl rfl (Bt_lenT ?_))))))
 refine Bt_mi ?_
 refine Sc_tH (by omega) (by omega) ?_
 refine faS (faS (st1 h 1 rfl rfl rfl rfl fun w h => ?_))
 refine ldA h 1 rfl rfl ?_
 refine stA h 0 rfl rfl rfl rfl fun w h => ?_
 refine rcA h 0 rfl rfl ?_
 dsimp only [List.set] at h
 exact Ret.mk ⟨h.ext, by simp only [tk_min]; rfl⟩
end Go.Proofs.YtdbcpkihokagkaaGreatDoor
