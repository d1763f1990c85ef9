/-
  Contracts and plain lemmas. By an AI agent.
-/
import Derived.Test.YtnkmbjedcjcccaaGreatDoorLAmH
import Derived.Test.YtnkmbjedcjcccaaGreatDoorAmC
import Derived.Test.YtnkmbjedcjcccaaGreatDoorPlain
import Derived.Test.YtnkmbjedcjcccaaGreatDoorTyp
set_option linter.unusedSimpArgs false
set_option linter.unusedVariables false
set_option linter.unusedSectionVars false
namespace Go.Proofs.YtnkmbjedcjcccaaGreatDoor
open Go Go.Eng Go.Proofs Go.Num Go.RowKit
open Go.Alm (Ft Wt Sm VW VA dn fct obs obs1 rungs obsN fresh sumW RgI D60)
set_option maxRecDepth 100000
structure SI (s : St) : Prop where
 rg : RgI s.ws s.rg
 d6 : ∀ w ∈ s.ws, D60 w.al
section
variable {n : Int} {B : Rat} {fl : List Ft} {s : St} (d : Dd)
end
end Go.Proofs.YtnkmbjedcjcccaaGreatDoor
namespace Go.Proofs.YtnkmbjedcjcccaaGreatDoor
open Go Go.Eng
set_option maxRecDepth 100000
def s_law28_AlarmBudget_5 (P : Program) (t7 : Value) (t190 : Value) (t9 : Value) (k1 : Value → World → Prop) (w : World) (R : Ending → World → Prop) : Prop :=
 Sto P 35 t7 t190 w fun w =>
 Bn P .add 3 true t9 (.int .i64 1) w fun t43 w =>
 k1 t43 w
end Go.Proofs.YtnkmbjedcjcccaaGreatDoor
namespace Go.Proofs.YtnkmbjedcjcccaaGreatDoor
open Go Go.Eng Go.Proofs Go.Num Go.RowKit
open Go.Alm (Ft Wt Sm VW VA dn fct obs obs1 rungs obsN fresh sumW RgI D60)
set_option maxRecDepth 100000
section
variable {w0 : World} {R : Ending → World → Prop} {n : Int} {B : Rat} {v u lv rv rv' : Value} {ws ws' : List Wt} {g7 g10 at0 at1 i : Nat} {k1 : Value → World → Prop}
variable (hE : En w0) (hB : VB n B ws) (hB' : VB n B ws') (hn : 0 ≤ n ∧ n ≤ 1000000) (b7 : Blk w0 g7 tWd [str (tx B).1, str (tx B).2, v, lv, .int .i64 (at0 : Int), rv]) (b10 : Blk w0 g10 tWd [str (tx B).1, str (tx B).2, u, lv, .int .i64 (at1 : Int), rv'])
 (sv : SlC w0 15 v ws.length ((ws.map wr).flatMap fW)) (su : SlC w0 15 u ws'.length ((ws'.map wr).flatMap fW)) (hl : ws.length ≤ ws'.length)
 (hk : ∀ W, Ext w0 W → s_law28_AlarmBudget_5 Tryz.prog (pr g7 0) (vWd B u lv at1 rv') (.int .i64 (i : Int)) k1 W R)
include hE hB hB' hn b7 b10 sv su hl hk
omit hk
include hk
end
abbrev fDd (d : Dd) : List Value := [.int .i64 d.kind, .int .i64 (d.x 0), .int .i64 (d.x 1), .int .i64 (d.x 2), .int .i64 (d.x 3), .int .i64 (d.x 4), .int .i64 (d.x 5), .int .i64 d.many]
def Dok (l : List Dd) : Prop := ∀ d ∈ l, Ddk d
structure WI (W1 W : World) (B : Rat) (fl : List Ft) (lv : Value) (g1 j : Nat) (s : St) (x y z x' y' z' : _) : Prop where
 vb : VB (30 * j) B s.ws
 si : SI s
 at' : s.at' ≤ fl.length
 rg : s.rg.length ≤ 12 * j
 h : Hp [] W1 W [sl2 (.slice x y z) s.ws.length ((s.ws.map wr).flatMap fW) (.slice x' y' z') s.rg.length (s.rg.flatMap fN), bx g1 tWd [str (tx B).1, str (tx B).2, .slice x y z, lv, .int .i64 (s.at' : Int), .slice x' y' z']]
section
variable {w0 : World} {b : Int} {v2 v3 : Value} {l3 : List I3} {dl : List Dd} (hE : En w0) (hb : I64 b) (h2 : SlC w0 3 v2 l3.length (l3.flatMap fT)) (h3 : SlC w0 8 v3 dl.length (dl.flatMap fDd)) (o2 : I3ok l3) (o3 : Dok dl) (n2 : l3.length ≤ 9223372036854775807) (n3 : dl.length ≤ 9223372036854775807)
include hE hb h2 h3 o2 o3 n2 n3
end
end Go.Proofs.YtnkmbjedcjcccaaGreatDoor
