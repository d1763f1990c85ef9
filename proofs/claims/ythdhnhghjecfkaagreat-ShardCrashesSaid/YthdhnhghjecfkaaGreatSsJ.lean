/-
  Contracts and plain lemmas. By an AI agent.
-/
import Derived.Test.YthdhnhghjecfkaaGreatLSsJ
import Derived.Test.YthdhnhghjecfkaaGreatSsI
import Derived.Test.YthdhnhghjecfkaaGreatPlain
set_option linter.unusedSimpArgs false
set_option linter.unusedVariables false
set_option linter.unusedSectionVars false
namespace Go.Proofs.YthdhnhghjecfkaaGreat
open Go Go.Eng Go.Proofs Go.RowKit
open Go.Srd (Ft VF Hd Mv mv0 Rd Ab Cmd got ltF sam srt plh ofS gotL delN cntL insR rdd fP facts)
set_option maxRecDepth 100000
section
variable {S : List Nat} {w0 w : World} {L : List Et} {x : Sx} {a : Ab} {c : Cmd} {fv : Value} {l : List Ft} {pan : List PanicEntry → World → Prop} {K : Value → World → Prop}
theorem cl_DoT {p : Ab × List Ft} (h : Hp S w0 w (shE x a fv l :: L)) (hO : Srd.Ok a) (hc : CmdOk c) (hs : Srd.step a c = some p)
 (hk : ∀ x' fv' w1, Hp S w0 w1 (shE x' p.1 fv' p.2 :: shE x a fv l :: L) → K (.tuple #[vSh x' p.1, fv', .int .i64 0]) w1) : Cl Tryz.prog 13 #[vSh x a, vCmd c] w pan K := by
 have hd := c_Do (h.get (i := 0) rfl : _ ∧ _).1 hO hc
 rw [hs] at hd
 refine Cl_i n_shard_Do hd ?_
 rintro _ w1 ⟨x', fv', rfl, h'⟩
 exact hk x' fv' w1 (h.cat1 h' shE_sm)
theorem cl_DoN (h : Hp S w0 w (shE x a fv l :: L)) (hO : Srd.Ok a) (hc : CmdOk c) (hs : Srd.step a c = none)
 (hk : ∀ w1, Hp S w0 w1 (shE x a fv l :: L) → K (.tuple #[vSh0, .slice none 0 0, .int .i64 370]) w1) : Cl Tryz.prog 13 #[vSh x a, vCmd c] w pan K := by
 have hd := c_Do (h.get (i := 0) rfl : _ ∧ _).1 hO hc
 rw [hs] at hd
 refine Cl_i n_shard_Do hd ?_
 rintro _ w1 ⟨e, rfl⟩
 exact hk w1 (h.x e)
end
structure Put (k : Nat) (a : Ab) : Prop where
 ok : Srd.Ok a
 k : a.k = k
 mv : a.mv = mv0
 rd : a.rd = []
abbrev zSh : List Value := [.slice none 0 0, .slice none 0 0, .int .i64 0, .int .i64 0, .int .i64 0, .int .i64 0, .int .i64 0, .int .i64 0, .slice none 0 0]
section
variable {w0 : World} {n : Int} {v : Value} {xs : List I4} {z1 z2 : Int} (hn : I64 n) (hx : SlC w0 4 v xs.length (xs.flatMap fQ)) (hq : I64s xs) (hz1 : I64 z1) (hz2 : I64 z2)
include hn hx hq hz1 hz2
end
end Go.Proofs.YthdhnhghjecfkaaGreat
