/-
  Contracts and plain lemmas. By an AI agent.
-/
import Derived.Test.YtnkmbjedcjcccaaGreatDoorLAmT
import Derived.Test.YtnkmbjedcjcccaaGreatDoorAmN
import Derived.Test.YtnkmbjedcjcccaaGreatDoorTyp
set_option linter.unusedSimpArgs false
set_option linter.unusedVariables false
set_option linter.unusedSectionVars false
namespace Go.Proofs.YtnkmbjedcjcccaaGreatDoor
open Go Go.Eng Go.Proofs Go.Num Go.RowKit
open Go.Alm (Ft Wt Sm VW VA dn fct obs obs1 rungs obsN fresh sumW)
set_option maxRecDepth 100000
abbrev RSB (p : RS) : Prop := p.1.length ≤ 9223372036854775807 ∧ p.2.length ≤ 9223372036854775807
structure WRB (r : WR) : Prop where
 op : I64 r.op
 ve : I64 r.ve
 lim : I64 r.lim
 m : RSB r.m
 a : RSB r.a
 b : RSB r.b
 st : I64 r.st
 th : I64 r.th
 sn : I64 r.sn
 we : RSB r.we
end Go.Proofs.YtnkmbjedcjcccaaGreatDoor
namespace Go.Proofs.YtnkmbjedcjcccaaGreatDoor
open Go Go.Eng
set_option maxRecDepth 100000
end Go.Proofs.YtnkmbjedcjcccaaGreatDoor
namespace Go.Proofs.YtnkmbjedcjcccaaGreatDoor
open Go Go.Eng Go.Proofs Go.Num Go.RowKit
open Go.Alm (Ft Wt Sm VW VA dn fct obs obs1 rungs obsN fresh sumW)
set_option maxRecDepth 100000
section
variable {w0 : World} {R : Ending → World → Prop} {b lm : Int} (hE : En w0) (hb : I64 b) (hlm : I64 lm)
include hE hb hlm
end
section
variable {w0 : World} {R : Ending → World → Prop} {p : RS} {x20 : Option Addr} {y20 z20 : Nat} {l : List WR} {g20 : Nat} (hE : En w0) (hA : Ak w0 p (.slice x20 y20 z20) l) (hl : l.length ≤ 1000) (b20 : Blk w0 g20 tAl [str p.1, str p.2, .slice x20 y20 z20])
include hE hA hl b20
end
structure MrC (w0 : World) (b lm : Int) (B : Rat) (x15 : Option Addr) (y15 z15 : Nat) (xl : Option Addr) (yl zl : Nat) (rv : Value) (ws : List Wt) (fl la : List Ft) (at0 g15 g18 : Nat) (own : WR) (xa : Option Addr) (ya za : Nat) : Prop where
 hE : En w0
 hb : I64 b
 hlm : I64 lm
 b15 : Blk w0 g15 tWd [str (tx B).1, str (tx B).2, .slice x15 y15 z15, .slice xl yl zl, .int .i64 (at0 : Int), rv]
 b18 : Blk w0 g18 tWc (fW own)
 hw : Ak w0 (tx B) (.slice x15 y15 z15) (ws.map wr)
 hF : Fk w0 (.slice xl yl zl) fl
 hFl : Fk w0 (.slice xa ya za) la
 own : WRk own
 at' : at0 ≤ fl.length
section
variable {w0 : World} {R : Ending → World → Prop} {p : RS} {x20 : Option Addr} {y20 z20 : Nat} {l : List WR} {g20 : Nat} {b lm : Int} {B : Rat} {x15 : Option Addr} {y15 z15 : Nat} {xl : Option Addr} {yl zl : Nat} {rv : Value} {ws : List Wt} {fl la : List Ft} {at0 g15 g18 : Nat} {own : WR} {xa : Option Addr} {ya za : Nat} {k2 : Value → World → Prop} {i : Nat}
variable (hM : MrC w0 b lm B x15 y15 z15 xl yl zl rv ws fl la at0 g15 g18 own xa ya za) (hA : Ak w0 p (.slice x20 y20 z20) l) (hl : l.length ≤ 1000) (hi : i ≤ 5) (hk : ∀ W, Ext w0 W → k2 (.int .i64 ((i : Int) + 1)) W)
include hM hA hl hi hk
section
variable (b20 : Blk w0 g20 tAl [str p.1, str p.2, .slice x20 y20 z20])
include b20
end
end
structure A4 where
 p : RS
 x : Option Addr
 y : Nat
 z : Nat
 l : List WR
section
variable {w0 : World} {R : Ending → World → Prop} {b lm : Int} {B : Rat} {x15 : Option Addr} {y15 z15 : Nat} {xl : Option Addr} {yl zl : Nat} {rv : Value} {ws : List Wt} {fl l5 : List Ft} {at0 g15 g10 : Nat} {other : WR} {pr0 : RS} {xr : Option Addr} {yr zr : Nat} {lr : List WR} {t5 : Value}
variable (hE : En w0) (hb : I64 b) (hlm : I64 lm) (b15 : Blk w0 g15 tWd [str (tx B).1, str (tx B).2, .slice x15 y15 z15, .slice xl yl zl, .int .i64 (at0 : Int), rv]) (hw : Ak w0 (tx B) (.slice x15 y15 z15) (ws.map wr)) (hwl : ws.length ≤ 12) (hF : Fk w0 (.slice xl yl zl) fl) (hat : at0 ≤ fl.length)
 (b10 : Blk w0 g10 tAl [str pr0.1, str pr0.2, .slice xr yr zr]) (hpr : RSB pr0) (sr : SlC w0 15 (.slice xr yr zr) lr.length (lr.flatMap fW)) (hkr : ∀ r ∈ lr, WRB r) (hlr : lr.length ≤ 9223372036854775807) (hot : WRB other) (s5 : SlC w0 10 t5 l5.length (l5.flatMap fF)) (h5 : ∀ f ∈ l5, FI f) (n5 : l5.length ≤ 9223372036854775807)
 (hR : ∀ W, Ext w0 W → R (.returned (.bool true)) W)
include hE hb hlm b15 hw hwl hF hat b10 hpr sr hkr hlr hot s5 h5 n5 hR
end
section
variable {w0 : World} {b lm : Int} {v2 v3 t5 : Value} {l3 : List I3} {dl : List Dd} {l5 : List Ft} {other : WR} {pr0 : RS} {vr : Value} {lr : List WR}
variable (hE : En w0) (hb : I64 b) (h2 : SlC w0 3 v2 l3.length (l3.flatMap fT)) (h3 : SlC w0 8 v3 dl.length (dl.flatMap fDd)) (o2 : I3ok l3) (o3 : Dok dl) (n2 : l3.length ≤ 9223372036854775807) (n3 : dl.length ≤ 9223372036854775807)
 (hpr : RSB pr0) (sr : SlC w0 15 vr lr.length (lr.flatMap fW)) (hkr : ∀ r ∈ lr, WRB r) (hlr : lr.length ≤ 9223372036854775807) (hot : WRB other) (s5 : SlC w0 10 t5 l5.length (l5.flatMap fF)) (h5 : ∀ f ∈ l5, FI f) (n5 : l5.length ≤ 9223372036854775807) (hlm : I64 lm)
include hE hb h2 h3 o2 o3 n2 n3 hpr sr hkr hlr hot s5 h5 n5 hlm
end
end Go.Proofs.YtnkmbjedcjcccaaGreatDoor
