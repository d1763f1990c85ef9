/-
  Contracts and plain lemmas. By an AI agent.
-/
import Derived.Test.YtjmdnjnjepinoaaGreatDoorLCoX
import Derived.Test.YtjmdnjnjepinoaaGreatDoorCoV
set_option linter.unusedSimpArgs false
set_option linter.unusedVariables false
set_option linter.unusedSectionVars false
namespace Go.Proofs.YtjmdnjnjepinoaaGreatDoor
open Go Go.Eng Go.Proofs Go.Num Go.RowKit
set_option maxRecDepth 100000
theorem lsum_mulr (b : Rat) : ∀ l : List Rat, lsum qid (l.map (· * b)) = lsum qid l * b
 | [] => by show (0 : Rat) = 0 * b; grind
 | x :: l => by
  show x * b + lsum qid (l.map (· * b)) = (x + lsum qid l) * b
  rw [lsum_mulr b l]; grind
theorem GP.mul {l : List Rat} (h : GP 2520 l) (h50 : ∀ x ∈ l, DR 2520 50 x) {n d : Int} (hn : 1 ≤ n ∧ n ≤ 50) (hd : 1 ≤ d ∧ d ≤ 50) : GP (2520 * d.toNat) (l.map (· * hq n d)) := by
 have hb : 0 < hq n d := div_pos' (by omega) (by omega)
 have hd' : DR d.toNat 50 (hq n d) := DR.of (by omega) (by rw [show d.natAbs = d.toNat by omega]; exact Nat.dvd_refl _) (by omega) (by omega)
 refine ⟨⟨by omega, by omega, fun x hx => ?_, fun x hx => ?_, by rw [List.length_map]; exact h.len⟩, by rw [List.length_map]; exact h.len1, ?_⟩
 ·obtain ⟨y, hy, rfl⟩ := List.mem_map.1 hx
  exact (h50 y hy).mul hd' (by decide) (by omega)
 ·obtain ⟨y, hy, rfl⟩ := List.mem_map.1 hx
  exact Rat.mul_nonneg (h.nn y hy) (Rat.le_of_lt hb)
 ·rw [lsum_mulr]; exact Rat.mul_pos h.pos hb
theorem GS.txok {D : Nat} {l : List Rat} (hg : GS D l) : RSok (txs l) := fun p hp => by
 obtain ⟨x, hx, rfl⟩ := List.mem_map.1 hp
 have hB := (hg.sml hx).rb
 exact ⟨itoa_ok hB.n, itoa_ok hB.d⟩
section
variable {w0 : World} {v : Value} {x : List I2} {amount : Int} (he : En w0) (hv : SlC w0 2 v x.length (x.flatMap f2)) (hI : ∀ a ∈ x, I64 a.1 ∧ I64 a.2) (hll : x.length ≤ 9223372036854775807) (ham : I64 amount)
include he hv hI hll ham
end
end Go.Proofs.YtjmdnjnjepinoaaGreatDoor
