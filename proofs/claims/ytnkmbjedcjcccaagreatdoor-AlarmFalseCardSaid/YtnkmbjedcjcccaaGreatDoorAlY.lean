/-
  Contracts and plain lemmas. By an AI agent.
-/
import Derived.Test.YtnkmbjedcjcccaaGreatDoorAlT
set_option linter.unusedSimpArgs false
set_option linter.unusedVariables false
set_option linter.unusedSectionVars false
namespace Go.Proofs.YtnkmbjedcjcccaaGreatDoor
open Go Go.Eng Go.Proofs Go.Num Go.RowKit
open Go.Alm (Ft Wt Sm VW VA dn fct obs obs1 rungs obsN fresh sumW)
set_option maxRecDepth 100000
section
variable {w0 : World} {n : Int} {B : Rat} {s : St} {v lv rv : Value} {fl : List Ft} {d : Dd} (hE : En w0) (hB : VB n B s.ws) (hn : 0 ≤ n ∧ n + fl.length ≤ 1000000) (hv : SlC w0 15 v s.ws.length ((s.ws.map wr).flatMap fW)) (hr : SlC w0 1 rv s.rg.length (s.rg.flatMap fN)) (hF : Fk w0 lv fl) (hfl : VFs fl) (ha : s.at' ≤ fl.length) (hrg : s.rg.length ≤ 1000000) (hd : Ddk d)
include hE hB hn hv hr hF hfl ha hrg hd
end
def bud (b : Int) : Rat := ((1 + pickZ b 20 : Int) : Rat) / ((20 : Int) : Rat)
theorem bud_Sm (b : Int) : Sm 1 (bud b) := by
 have h := pickZ_bd (c := b) (n := 20) (by decide)
 exact Sm.divq (by omega) (by omega) (by decide)
theorem bud_VB (b : Int) : VB 0 (bud b) [] := ⟨bud_Sm b, by simp, by simp, (bud_Sm b).ge⟩
theorem bud_k (b : Int) : RSk (tx (bud b)) := by
 have h := Sm.rb (bud_Sm b) (.inl rfl)
 exact ⟨itoa_ok h.n, itoa_ok h.d⟩
theorem c_OpenB {w0 : World} {b : Int} (hE : En w0) : Calls Tryz.prog 17 #[vR (tx (bud b))] w0 (Ret fun r w' => Ext w0 w' ∧ r = .tuple #[vA (tx (bud b)) (.slice none 0 0), .int .i64 0]) := by
 have := c_Open (w0 := w0) hE (bud_k b)
 rw [show okA (tx (bud b)) [] = true from okA_t ⟨bud b, [], rfl, rfl, (bud_VB b).va (by decide)⟩] at this
 exact this
abbrev fX6 (x : I6) : List Value := [.int .i64 (x 0), .int .i64 (x 1), .int .i64 (x 2), .int .i64 (x 3), .int .i64 (x 4), .int .i64 (x 5)]
def I6ok (l : List I6) : Prop := ∀ x ∈ l, ∀ i, I64 (x i)
open Classical in
noncomputable def reg1 (B : Rat) (ws : List Wt) (w : Wt) : List Wt := if Can B ws w then ws ++ [fresh ws w] else ws
theorem reg1_VB {n : Int} {B : Rat} {ws : List Wt} {w : Wt} (h : VB n B ws) (hw : Reg w) (hn : 0 ≤ n) : VB n B (reg1 B ws w) := by
 unfold reg1
 split
 ·next hc => exact h.reg hw hn hc
 ·exact h
end Go.Proofs.YtnkmbjedcjcccaaGreatDoor
