/-
  Contracts of functions of the program, and plain lemmas on numbers and strings. By an AI agent.
-/
import Derived.Test.YtocilcjojdjfdaaGreatDoorRefV
import Derived.Test.YtocilcjojdjfdaaGreatDoorRefU
import Derived.Test.YtocilcjojdjfdaaGreatDoorRefW
import Derived.Test.YtocilcjojdjfdaaGreatDoorMadV
import Derived.Test.YtocilcjojdjfdaaGreatDoorStrY
import Derived.Test.YtocilcjojdjfdaaGreatDoorLawE
set_option linter.unusedSimpArgs false
set_option linter.unusedVariables false
namespace Go.Proofs.YtocilcjojdjfdaaGreatDoor
open Go Go.Eng Go.Proofs Go.Num Go.RowKit
set_option maxRecDepth 100000
set_option linter.unusedVariables false
noncomputable def zOf (s : List UInt8) : Int := if h : validB s = true then Classical.choose (valid_ex h) else 0
theorem zOf_spec {s : List UInt8} (h : validB s = true) : (zOf s).natAbs < MaxI ∧ s = Lib.itoa (zOf s) := by
  unfold zOf
  rw [dif_pos h]
  exact Classical.choose_spec (valid_ex h)
def resA (z : Int) : List UInt8 := if z.natAbs < MaxI then Lib.itoa z else []
def resE (z : Int) : Int := if z.natAbs < MaxI then 0 else 30
theorem resI_AE (z : Int) : resI z = .tuple #[str (resA z), .int .i64 (resE z)] := by
  unfold resI resA resE
  split <;> rfl
noncomputable def binA (f : Int → Int → Int) (p q : List UInt8) : List UInt8 := if validB p && validB q then resA (f (zOf p) (zOf q)) else []
noncomputable def binE (f : Int → Int → Int) (p q : List UInt8) : Int := if validB p && validB q then resE (f (zOf p) (zOf q)) else 30
theorem bin_bad {f : Int → Int → Int} {p q : List UInt8} (h : (validB p && validB q) = false) : (.tuple #[str [], .int .i64 30] : Value) = .tuple #[str (binA f p q), .int .i64 (binE f p q)] := by
  unfold binA binE; rw [h]; rfl
theorem bin_ok {f : Int → Int → Int} {p q : List UInt8} (h : (validB p && validB q) = true) : resI (f (zOf p) (zOf q)) = .tuple #[str (binA f p q), .int .i64 (binE f p q)] := by
  unfold binA binE; rw [h, resI_AE]; rfl
section
variable {p q : List UInt8} {w : World} (hp : p.length ≤ 1000000) (hq : q.length ≤ 1000000)
include hp hq
theorem g_Add (ht : Tab w) : Calls Tryz.prog 14 #[str p, str q] w (Ret fun r w' => Ext w w' ∧ r = .tuple #[str (binA (fun a b => a + b) p q), .int .i64 (binE (fun a b => a + b) p q)]) := by
  cases h : (validB p && validB q) with
  | false => exact Ret.lit (c_Add_bad hp hq h) (bin_bad h)
  | true =>
    have h' := h
    simp only [Bool.and_eq_true] at h
    obtain ⟨x0, x1⟩ := zOf_spec h.1
    obtain ⟨y0, y1⟩ := zOf_spec h.2
    have := c_Add (x := zOf p) (y := zOf q) (w := w) x0 y0 ht
    rw [← x1, ← y1] at this
    exact Ret.lit this (bin_ok (f := fun a b => a + b) h')
theorem gr_Add : Calls Tryz.prog 25 #[str p, str q] w (Ret fun r w' => Ext w w' ∧ r = .tuple #[str (binA (fun a b => a + b) p q), .int .i64 (binE (fun a b => a + b) p q)]) := by
  cases h : (validB p && validB q) with
  | false => exact Ret.lit (c_rAdd_bad hp hq h) (bin_bad h)
  | true =>
    have h' := h
    simp only [Bool.and_eq_true] at h
    obtain ⟨x0, x1⟩ := zOf_spec h.1
    obtain ⟨y0, y1⟩ := zOf_spec h.2
    have := c_rAdd (x := zOf p) (y := zOf q) (w := w) x0 y0
    rw [← x1, ← y1] at this
    exact Ret.lit this (bin_ok (f := fun a b => a + b) h')
theorem g_Sub (ht : Tab w) : Calls Tryz.prog 16 #[str p, str q] w (Ret fun r w' => Ext w w' ∧ r = .tuple #[str (binA (fun a b => a - b) p q), .int .i64 (binE (fun a b => a - b) p q)]) := by
  cases h : (validB p && validB q) with
  | false => exact Ret.lit (c_Sub_bad hp hq h) (bin_bad h)
  | true =>
    have h' := h
    simp only [Bool.and_eq_true] at h
    obtain ⟨x0, x1⟩ := zOf_spec h.1
    obtain ⟨y0, y1⟩ := zOf_spec h.2
    have := c_Sub (x := zOf p) (y := zOf q) (w := w) x0 y0 ht
    rw [← x1, ← y1] at this
    exact Ret.lit this (bin_ok (f := fun a b => a - b) h')
theorem gr_Sub : Calls Tryz.prog 26 #[str p, str q] w (Ret fun r w' => Ext w w' ∧ r = .tuple #[str (binA (fun a b => a - b) p q), .int .i64 (binE (fun a b => a - b) p q)]) := by
  cases h : (validB p && validB q) with
  | false => exact Ret.lit (c_rSub_bad hp hq h) (bin_bad h)
  | true =>
    have h' := h
    simp only [Bool.and_eq_true] at h
    obtain ⟨x0, x1⟩ := zOf_spec h.1
    obtain ⟨y0, y1⟩ := zOf_spec h.2
    have := c_rSub (x := zOf p) (y := zOf q) (w := w) x0 y0
    rw [← x1, ← y1] at this
    exact Ret.lit this (bin_ok (f := fun a b => a - b) h')
theorem g_Mul (ht : Tab w) : Calls Tryz.prog 15 #[str p, str q] w (Ret fun r w' => Ext w w' ∧ r = .tuple #[str (binA (fun a b => a * b) p q), .int .i64 (binE (fun a b => a * b) p q)]) := by
  cases h : (validB p && validB q) with
  | false => exact Ret.lit (c_Mul_bad hp hq h) (bin_bad h)
  | true =>
    have h' := h
    simp only [Bool.and_eq_true] at h
    obtain ⟨x0, x1⟩ := zOf_spec h.1
    obtain ⟨y0, y1⟩ := zOf_spec h.2
    have := c_Mul (x := zOf p) (y := zOf q) (w := w) x0 y0 ht
    rw [← x1, ← y1] at this
    exact Ret.lit this (bin_ok (f := fun a b => a * b) h')
theorem gr_Mul : Calls Tryz.prog 27 #[str p, str q] w (Ret fun r w' => Ext w w' ∧ r = .tuple #[str (binA (fun a b => a * b) p q), .int .i64 (binE (fun a b => a * b) p q)]) := by
  cases h : (validB p && validB q) with
  | false => exact Ret.lit (c_rMul_bad hp hq h) (bin_bad h)
  | true =>
    have h' := h
    simp only [Bool.and_eq_true] at h
    obtain ⟨x0, x1⟩ := zOf_spec h.1
    obtain ⟨y0, y1⟩ := zOf_spec h.2
    have := c_rMul (x := zOf p) (y := zOf q) (w := w) x0 y0
    rw [← x1, ← y1] at this
    exact Ret.lit this (bin_ok (f := fun a b => a * b) h')
theorem g_Gcd (ht : Tab w) : Calls Tryz.prog 20 #[str p, str q] w (Ret fun r w' => Ext w w' ∧ r = .tuple #[str (binA (fun a b => (Int.gcd a b : Int)) p q), .int .i64 (binE (fun a b => (Int.gcd a b : Int)) p q)]) := by
  cases h : (validB p && validB q) with
  | false => exact Ret.lit (c_Gcd_bad hp hq h) (bin_bad h)
  | true =>
    have h' := h
    simp only [Bool.and_eq_true] at h
    obtain ⟨x0, x1⟩ := zOf_spec h.1
    obtain ⟨y0, y1⟩ := zOf_spec h.2
    have := c_Gcd (x := zOf p) (y := zOf q) (w := w) x0 y0 ht
    rw [← x1, ← y1] at this
    exact Ret.lit this (bin_ok (f := fun a b => (Int.gcd a b : Int)) h')
theorem gr_Gcd : Calls Tryz.prog 29 #[str p, str q] w (Ret fun r w' => Ext w w' ∧ r = .tuple #[str (binA (fun a b => (Int.gcd a b : Int)) p q), .int .i64 (binE (fun a b => (Int.gcd a b : Int)) p q)]) := by
  cases h : (validB p && validB q) with
  | false => exact Ret.lit (c_rGcd_bad hp hq h) (bin_bad h)
  | true =>
    have h' := h
    simp only [Bool.and_eq_true] at h
    obtain ⟨x0, x1⟩ := zOf_spec h.1
    obtain ⟨y0, y1⟩ := zOf_spec h.2
    have := c_rGcd (x := zOf p) (y := zOf q) (w := w) x0 y0
    rw [← x1, ← y1] at this
    exact Ret.lit this (bin_ok (f := fun a b => (Int.gcd a b : Int)) h')
noncomputable def cmpV (p q : List UInt8) : Int := if validB p && validB q then cmpI (zOf p) (zOf q) else 0
omit hp hq in
theorem cmp_bad {p q : List UInt8} (h : (validB p && validB q) = false) : (.int .i64 0 : Value) = .int .i64 (cmpV p q) := by unfold cmpV; rw [h]; rfl
omit hp hq in
theorem cmp_ok {p q : List UInt8} (h : (validB p && validB q) = true) : (.int .i64 (cmpI (zOf p) (zOf q)) : Value) = .int .i64 (cmpV p q) := by unfold cmpV; rw [h]; rfl
theorem g_Compare : Calls Tryz.prog 18 #[str p, str q] w (Ret fun r w' => Ext w w' ∧ r = .int .i64 (cmpV p q)) := by
  cases h : (validB p && validB q) with
  | false => exact Ret.lit (c_Compare_bad hp hq h) (cmp_bad h)
  | true =>
    have h' := h
    simp only [Bool.and_eq_true] at h
    obtain ⟨x0, x1⟩ := zOf_spec h.1
    obtain ⟨y0, y1⟩ := zOf_spec h.2
    have := c_Compare (x := zOf p) (y := zOf q) (w := w) x0 y0
    rw [← x1, ← y1] at this
    exact Ret.lit this (cmp_ok h')
theorem gr_Compare : Calls Tryz.prog 34 #[str p, str q] w (Ret fun r w' => Ext w w' ∧ r = .int .i64 (cmpV p q)) := by
  cases h : (validB p && validB q) with
  | false => exact Ret.lit (c_rCompare_bad hp hq h) (cmp_bad h)
  | true =>
    have h' := h
    simp only [Bool.and_eq_true] at h
    obtain ⟨x0, x1⟩ := zOf_spec h.1
    obtain ⟨y0, y1⟩ := zOf_spec h.2
    have := c_rCompare (x := zOf p) (y := zOf q) (w := w) x0 y0
    rw [← x1, ← y1] at this
    exact Ret.lit this (cmp_ok h')
noncomputable def divOk (p q : List UInt8) : Bool := validB p && validB q && decide (zOf q ≠ 0)
noncomputable def divA (p q : List UInt8) : List UInt8 := if divOk p q then Lib.itoa (zOf p / zOf q) else []
noncomputable def divB (p q : List UInt8) : List UInt8 := if divOk p q then Lib.itoa (zOf p % zOf q) else []
noncomputable def divE (p q : List UInt8) : Int := if divOk p q then 0 else 30
omit hp hq in
theorem div_bad {p q : List UInt8} (h : divOk p q = false) : (.tuple #[str [], str [], .int .i64 30] : Value) = .tuple #[str (divA p q), str (divB p q), .int .i64 (divE p q)] := by
  unfold divA divB divE; rw [h]; rfl
omit hp hq in
theorem div_ok {p q : List UInt8} (h : divOk p q = true) : (.tuple #[str (Lib.itoa (zOf p / zOf q)), str (Lib.itoa (zOf p % zOf q)), .int .i64 0] : Value) = .tuple #[str (divA p q), str (divB p q), .int .i64 (divE p q)] := by
  unfold divA divB divE; rw [h]; rfl
theorem g_Div (ht : Tab w) : Calls Tryz.prog 17 #[str p, str q] w (Ret fun r w' => Ext w w' ∧ r = .tuple #[str (divA p q), str (divB p q), .int .i64 (divE p q)]) := by
  cases h : (validB p && validB q) with
  | false => exact Ret.lit (c_Div_bad hp hq h) (div_bad (by unfold divOk; rw [h]; rfl))
  | true =>
    have h' := h
    simp only [Bool.and_eq_true] at h
    obtain ⟨x0, x1⟩ := zOf_spec h.1
    obtain ⟨y0, y1⟩ := zOf_spec h.2
    by_cases hz : zOf q = 0
    · have := c_Div_zero (x := zOf p) (w := w) x0
      rw [← x1, ← hz, ← y1] at this
      exact Ret.lit this (div_bad (by unfold divOk; rw [h', hz]; rfl))
    · have hok : divOk p q = true := by unfold divOk; rw [h']; simpa using hz
      have := k_Div (x := zOf p) (y := zOf q) (w := w) x0 y0 hz ht rfl rfl
      rw [← x1, ← y1] at this
      exact Ret.lit this (div_ok hok)
theorem gr_Div : Calls Tryz.prog 28 #[str p, str q] w (Ret fun r w' => Ext w w' ∧ r = .tuple #[str (divA p q), str (divB p q), .int .i64 (divE p q)]) := by
  cases h : (validB p && validB q) with
  | false => exact Ret.lit (c_rDiv_bad hp hq h) (div_bad (by unfold divOk; rw [h]; rfl))
  | true =>
    have h' := h
    simp only [Bool.and_eq_true] at h
    obtain ⟨x0, x1⟩ := zOf_spec h.1
    obtain ⟨y0, y1⟩ := zOf_spec h.2
    by_cases hz : zOf q = 0
    · have := c_rDiv_zero (x := zOf p) (w := w) x0
      rw [← x1, ← hz, ← y1] at this
      exact Ret.lit this (div_bad (by unfold divOk; rw [h', hz]; rfl))
    · have hok : divOk p q = true := by unfold divOk; rw [h']; simpa using hz
      have := c_rDiv (x := zOf p) (y := zOf q) (w := w) x0 y0 hz
      rw [← x1, ← y1] at this
      exact Ret.lit this (div_ok hok)
end
theorem root_ex (x : Nat) : ∃ s : Nat, s * s ≤ x ∧ x < (s + 1) * (s + 1) := by
  induction x with
  | zero => exact ⟨0, by decide, by decide⟩
  | succ x ih =>
    obtain ⟨s, h1, h2⟩ := ih
    by_cases h : x + 1 < (s + 1) * (s + 1)
    · exact ⟨s, by omega, h⟩
    · refine ⟨s + 1, by omega, ?_⟩
      have : (s + 1 + 1) * (s + 1 + 1) = (s + 1) * (s + 1) + 2 * s + 3 := by grind
      omega
noncomputable def isq (z : Int) : Int := (Classical.choose (root_ex z.toNat) : Nat)
theorem isq_spec {z : Int} (h : 0 ≤ z) : 0 ≤ isq z ∧ isq z * isq z ≤ z ∧ z < (isq z + 1) * (isq z + 1) := by
  obtain ⟨h1, h2⟩ := Classical.choose_spec (root_ex z.toNat)
  unfold isq
  refine ⟨by omega, ?_, ?_⟩
  · have : ((Classical.choose (root_ex z.toNat) * Classical.choose (root_ex z.toNat) : Nat) : Int) ≤ (z.toNat : Int) := by exact_mod_cast h1
    push_cast at this; omega
  · have : (z.toNat : Int) < (((Classical.choose (root_ex z.toNat) + 1) * (Classical.choose (root_ex z.toNat) + 1) : Nat) : Int) := by exact_mod_cast h2
    push_cast at this; omega
noncomputable def rtOk (p : List UInt8) : Bool := validB p && decide (0 ≤ zOf p)
noncomputable def rtA (p : List UInt8) : List UInt8 := if rtOk p then Lib.itoa (isq (zOf p)) else []
noncomputable def rtE (p : List UInt8) : Int := if rtOk p then 0 else 30
theorem rt_bad {p : List UInt8} (h : rtOk p = false) : (.tuple #[str [], .int .i64 30] : Value) = .tuple #[str (rtA p), .int .i64 (rtE p)] := by unfold rtA rtE; rw [h]; rfl
theorem rt_ok {p : List UInt8} (h : rtOk p = true) : (.tuple #[str (Lib.itoa (isq (zOf p))), .int .i64 0] : Value) = .tuple #[str (rtA p), .int .i64 (rtE p)] := by unfold rtA rtE; rw [h]; rfl
theorem k_Root {x s : Int} {w : World} (hx : x.natAbs < MaxI) (hx0 : 0 ≤ x) (hs0 : 0 ≤ s) (hs1 : s * s ≤ x) (hs2 : x < (s + 1) * (s + 1)) (ht : Tab w) : Calls Tryz.prog 21 #[str (Lib.itoa x)] w (Ret fun r w' => Ext w w' ∧ r = .tuple #[str (Lib.itoa s), .int .i64 0]) := by
  refine (c_Root hx hx0 ht).mono ?_
  rintro _ w' ⟨_, rfl, h1, s', h2, h3, h4, rfl⟩
  refine Ret.mk ⟨h1, ?_⟩
  have : s' = s := by
    rcases Int.lt_trichotomy s' s with h | h | h
    · have := sq_le (a := s' + 1) (b := s) (by omega) (by omega); omega
    · exact h
    · have := sq_le (a := s + 1) (b := s') (by omega) (by omega); omega
  rw [this]
theorem g_Root {p : List UInt8} {w : World} (hp : p.length ≤ 1000000) (ht : Tab w) : Calls Tryz.prog 21 #[str p] w (Ret fun r w' => Ext w w' ∧ r = .tuple #[str (rtA p), .int .i64 (rtE p)]) := by
  cases h : validB p with
  | false => exact Ret.lit (c_Root_bad hp h) (rt_bad (by unfold rtOk; rw [h]; rfl))
  | true =>
    obtain ⟨x0, x1⟩ := zOf_spec h
    by_cases hz : 0 ≤ zOf p
    · obtain ⟨s0, s1, s2⟩ := isq_spec hz
      have := k_Root (x := zOf p) (s := isq (zOf p)) (w := w) x0 hz s0 s1 s2 ht
      rw [← x1] at this
      exact Ret.lit this (rt_ok (by unfold rtOk; rw [h]; simpa using hz))
    · have := c_Root_neg (x := zOf p) (w := w) x0 (by omega)
      rw [← x1] at this
      exact Ret.lit this (rt_bad (by unfold rtOk; rw [h]; simpa using hz))
theorem gr_Root {p : List UInt8} {w : World} (hp : p.length ≤ 1000000) : Calls Tryz.prog 30 #[str p] w (Ret fun r w' => Ext w w' ∧ r = .tuple #[str (rtA p), .int .i64 (rtE p)]) := by
  cases h : validB p with
  | false => exact Ret.lit (c_rRoot_bad hp h) (rt_bad (by unfold rtOk; rw [h]; rfl))
  | true =>
    obtain ⟨x0, x1⟩ := zOf_spec h
    by_cases hz : 0 ≤ zOf p
    · obtain ⟨s0, s1, s2⟩ := isq_spec hz
      have := c_rRoot (x := zOf p) (s := isq (zOf p)) (w := w) x0 hz s0 s1 s2
      rw [← x1] at this
      exact Ret.lit this (rt_ok (by unfold rtOk; rw [h]; simpa using hz))
    · have := c_rRoot_neg (x := zOf p) (w := w) x0 (by omega)
      rw [← x1] at this
      exact Ret.lit this (rt_bad (by unfold rtOk; rw [h]; simpa using hz))
def toA (p : List UInt8) : Int := if validB p then (match Lib.atoiAll p with | .ok v => v | _ => 0) else 0
def toE (p : List UInt8) : Int := if validB p then (match Lib.atoiAll p with | .ok v => 0 | _ => 30) else 30
theorem to_eq (p : List UInt8) : toIntV p = .tuple #[.int .i64 (toA p), .int .i64 (toE p)] := by
  unfold toIntV toA toE
  cases validB p
  · rfl
  · cases Lib.atoiAll p <;> rfl
theorem g_ToInt {p : List UInt8} {w : World} (hp : p.length ≤ 1000000) (he : ErrV w) : Calls Tryz.prog 31 #[str p] w (Ret fun r w' => Ext w w' ∧ r = .tuple #[.int .i64 (toA p), .int .i64 (toE p)]) := Ret.lit (c_ToInt hp he) (to_eq p)
theorem gr_ToInt {p : List UInt8} {w : World} (hp : p.length ≤ 1000000) : Calls Tryz.prog 32 #[str p] w (Ret fun r w' => Ext w w' ∧ r = .tuple #[.int .i64 (toA p), .int .i64 (toE p)]) := Ret.lit (c_rToInt hp) (to_eq p)
end Go.Proofs.YtocilcjojdjfdaaGreatDoor
namespace Go.Proofs.YtocilcjojdjfdaaGreatDoor
open Go Go.Eng Go.Proofs Go.Num Go.RowKit
set_option maxRecDepth 100000
set_option linter.unusedVariables false
theorem cutS {l : List UInt8} {k : Nat} {w : World} {K : Value → World → Prop} (hk : K (str (l.take k)) w) :
    Bt Tryz.prog .len #[9] 3 #[str l] w fun t27 w => Bt Tryz.prog .min #[3, 3] 3 #[t27, (.int .i64 (k : Int))] w fun t28 w => Sc Tryz.prog 9 (str l) none (some t28) none w K := by
  have e := cut_eq l (m := (k : Int)) (k := k) rfl
  ((try simp -dsimp [go_sem, size_str, e]); repeat (simp -dsimp (disch := omega) only [w64, wu64, dlt_t, dlt_f, dle_t, dle_f, deq_t, deq_f, beq_t, beq_f, bne_t, bne_f, nlt_t, nlt_f, nle_t, nle_f, neq_t, neq_f, nbeq_t, nbeq_f, nbne_t, nbne_f, it_t, it_f, dit_t, dit_f]; try simp -dsimp [go_sem, size_str, e]))
  exact hk
theorem bd2 {x y : List UInt8} {w : World} {K : Value → World → Prop} (hk : K (.agg #[str x, str y]) w) : Bd Tryz.prog 37 [(0, str x), (1, str y)] w K := by
  ((try simp -dsimp [go_sem]); repeat (simp -dsimp (disch := omega) only [w64, wu64, dlt_t, dlt_f, dle_t, dle_f, deq_t, deq_f, beq_t, beq_f, bne_t, bne_f, nlt_t, nlt_f, nle_t, nle_f, neq_t, neq_f, nbeq_t, nbeq_f, nbne_t, nbne_f, it_t, it_f, dit_t, dit_f]; try simp -dsimp [go_sem]))
  exact hk
theorem cells2 (x y : ByteArray) : (Value.agg #[.string x, .string y]).cells = #[.string x, .string y] := by
  simp [Value.cells]
theorem bs3 {a b c d e f : List UInt8} {w : World} {K : Value → World → Prop} (hk : K (.slice (some ⟨w.heap.size, 0, none⟩) 3 3) (w.alloc (.cells #[str a, str b, str c, str d, str e, str f] 37))) :
    Bs Tryz.prog 38 3 [(0, .agg #[str a, str b]), (1, .agg #[str c, str d]), (2, .agg #[str e, str f])] w K := by
  rw [Bs_x]
  have hr : (Instr.buildSlice 38 3 [(0, (.agg #[str a, str b] : Value)), (1, .agg #[str c, str d]), (2, .agg #[str e, str f])].toArray).run Tryz.prog w = .ok (.slice (some ⟨w.heap.size, 0, none⟩) 3 3) (w.alloc (.cells #[str a, str b, str c, str d, str e, str f] 37)) := by
    obtain ⟨i, hi, hz, hs⟩ : ∃ i, Tryz.prog.info? 37 = some i ∧ i.zero = some (.agg #[.string ⟨#[]⟩, .string ⟨#[]⟩]) ∧ i.size = 2 := ⟨Tryz.t37, by kernel_rfl, by kernel_rfl, by kernel_rfl⟩
    exact run_buildSlice w _ _ 3 _ _ i _ Tryz.underlying38 hi hz (by rw [hs]; decide) (by rw [hs]; decide) (by rw [hs, cells2]; simp only [Instr.fill, cells2]; kernel_rfl)
  rw [hr]
  exact hk
theorem ld37_0 {p q : List UInt8} {g : Nat} {w : World} {K : Value → World → Prop} (h0 : w.cell? ⟨g, 0, none⟩ = some (str p)) (h1 : w.cell? ⟨g, 1, none⟩ = some (str q)) (hk : K (.agg #[str p, str q]) w) :
    Ia Tryz.prog 38 (.slice (some ⟨g, 0, none⟩) 3 3) (.int .i64 0) w fun a w => Ld Tryz.prog 37 a w K := by
  simp -dsimp [go_sem, h0, h1]
  exact hk
theorem ld37_1 {p q : List UInt8} {g : Nat} {w : World} {K : Value → World → Prop} (h0 : w.cell? ⟨g, 2, none⟩ = some (str p)) (h1 : w.cell? ⟨g, 3, none⟩ = some (str q)) (hk : K (.agg #[str p, str q]) w) :
    Ia Tryz.prog 38 (.slice (some ⟨g, 0, none⟩) 3 3) (.int .i64 1) w fun a w => Ld Tryz.prog 37 a w K := by
  simp -dsimp [go_sem, h0, h1]
  exact hk
theorem ld37_2 {p q : List UInt8} {g : Nat} {w : World} {K : Value → World → Prop} (h0 : w.cell? ⟨g, 4, none⟩ = some (str p)) (h1 : w.cell? ⟨g, 5, none⟩ = some (str q)) (hk : K (.agg #[str p, str q]) w) :
    Ia Tryz.prog 38 (.slice (some ⟨g, 0, none⟩) 3 3) (.int .i64 2) w fun a w => Ld Tryz.prog 37 a w K := by
  simp -dsimp [go_sem, h0, h1]
  exact hk
theorem alsto {p q : List UInt8} {w : World} {K : Value → World → Prop} (hk : ∀ W', Ext w W' → Blk W' w.heap.size 37 [str p, str q] → K (.pointer (some ⟨w.heap.size, 0, none⟩)) W') :
    Al Tryz.prog 37 w fun t9 w => Sto Tryz.prog 37 t9 (.agg #[str p, str q]) w fun w => K t9 w := by
  ((try simp -dsimp [go_sem]); repeat (simp -dsimp (disch := omega) only [w64, wu64, dlt_t, dlt_f, dle_t, dle_f, deq_t, deq_f, beq_t, beq_f, bne_t, bne_f, nlt_t, nlt_f, nle_t, nle_f, neq_t, neq_f, nbeq_t, nbeq_f, nbne_t, nbne_f, it_t, it_f, dit_t, dit_f]; try simp -dsimp [go_sem]))
  exact hk _ ((Ext.refl w).al _) (Blk.al w [str p, str q] _)
theorem ldP0 {p q : List UInt8} {g : Nat} {w : World} {K : Value → World → Prop} (h : Blk w g 37 [str p, str q]) (hk : K (str p) w) :
    Ia Tryz.prog 37 (.pointer (some ⟨g, 0, none⟩)) (.int .i64 0) w fun a w => Ld Tryz.prog 9 a w K := by
  ((try simp -dsimp [go_sem, h.cell (i := 0) rfl]); repeat (simp -dsimp (disch := omega) only [w64, wu64, dlt_t, dlt_f, dle_t, dle_f, deq_t, deq_f, beq_t, beq_f, bne_t, bne_f, nlt_t, nlt_f, nle_t, nle_f, neq_t, neq_f, nbeq_t, nbeq_f, nbne_t, nbne_f, it_t, it_f, dit_t, dit_f]; try simp -dsimp [go_sem, h.cell (i := 0) rfl]))
  exact hk
theorem ldP1 {p q : List UInt8} {g : Nat} {w : World} {K : Value → World → Prop} (h : Blk w g 37 [str p, str q]) (hk : K (str q) w) :
    Ia Tryz.prog 37 (.pointer (some ⟨g, 0, none⟩)) (.int .i64 1) w fun a w => Ld Tryz.prog 9 a w K := by
  ((try simp -dsimp [go_sem, h.cell (i := 1) rfl]); repeat (simp -dsimp (disch := omega) only [w64, wu64, dlt_t, dlt_f, dle_t, dle_f, deq_t, deq_f, beq_t, beq_f, bne_t, bne_f, nlt_t, nlt_f, nle_t, nle_f, neq_t, neq_f, nbeq_t, nbeq_f, nbne_t, nbne_f, it_t, it_f, dit_t, dit_f]; try simp -dsimp [go_sem, h.cell (i := 1) rfl]))
  exact hk
end Go.Proofs.YtocilcjojdjfdaaGreatDoor
namespace Go.Proofs.YtocilcjojdjfdaaGreatDoor
open Go Go.Eng Go.Proofs Go.Num Go.RowKit
set_option maxRecDepth 100000
set_option linter.unusedVariables false
theorem ld37 {p q : List UInt8} {g j : Nat} {w : World} {K : Value → World → Prop} (hj : j < 3) (h0 : w.cell? ⟨g, 2 * j, none⟩ = some (str p)) (h1 : w.cell? ⟨g, 2 * j + 1, none⟩ = some (str q)) (hk : K (.agg #[str p, str q]) w) :
    Ia Tryz.prog 38 (.slice (some ⟨g, 0, none⟩) 3 3) (.int .i64 j) w fun a w => Ld Tryz.prog 37 a w K := by
  obtain rfl | rfl | rfl : j = 0 ∨ j = 1 ∨ j = 2 := by omega
  · exact ld37_0 h0 h1 hk
  · exact ld37_1 h0 h1 hk
  · exact ld37_2 h0 h1 hk
set_option maxHeartbeats 2000000 in
theorem law_Match {a b : List UInt8} {n : Int} {w : World} (h0 : -9223372036854775808 ≤ n) (h1 : n ≤ 9223372036854775807) (ht : Tab w) (he : ErrV w) :
    Calls Tryz.prog 9 #[str a, str b, .int .i64 n] w (Ret fun r w' => Ext w w' ∧ r = .bool true) := by
  have hL : ∃ e, Tryz.prog.underlying 38 = some (.slice e) := ⟨_, Tryz.underlying38⟩
  have hB := Tryz.underlying4
  obtain ⟨A, hA⟩ : ∃ A, A = a.take 210 := ⟨_, rfl⟩
  obtain ⟨B, hB'⟩ : ∃ B, B = b.take 210 := ⟨_, rfl⟩
  have lA : A.length ≤ 1000000 := by rw [hA, List.length_take]; omega
  have lB : B.length ≤ 1000000 := by rw [hB', List.length_take]; omega
  have mz : ∀ (s : List UInt8) (m : Nat), m ≤ 200 → (madeV s m).natAbs < MaxI := fun s m hm => Sz.max (k := m) (madeV_lt s m) hm
  obtain ⟨C, hC⟩ : ∃ C, C = Lib.itoa (madeV A 70) := ⟨_, rfl⟩
  obtain ⟨D, hD⟩ : ∃ D, D = Lib.itoa (madeV B 30) := ⟨_, rfl⟩
  obtain ⟨E, hE⟩ : ∃ E, E = Lib.itoa (madeV A 12) := ⟨_, rfl⟩
  obtain ⟨F, hF⟩ : ∃ F, F = Lib.itoa n := ⟨_, rfl⟩
  have lC : C.length ≤ 1000000 := by rw [hC]; exact itoa_ok (mz _ _ (by decide))
  have lD : D.length ≤ 1000000 := by rw [hD]; exact itoa_ok (mz _ _ (by decide))
  have lE : E.length ≤ 1000000 := by rw [hE]; exact itoa_ok (mz _ _ (by decide))
  have lF : F.length ≤ 1000000 := by rw [hF]; exact itoa_ok (i64M h0 h1)
  have cC : ∀ w, Calls Tryz.prog 13 #[str (a.take 210), .int .i64 70] w (Ret fun r w' => Ext w w' ∧ r = str C) := fun w => by rw [hC, ← hA]; exact c_MadeV (m := 70) (by decide)
  have cD : ∀ w, Calls Tryz.prog 13 #[str (b.take 210), .int .i64 30] w (Ret fun r w' => Ext w w' ∧ r = str D) := fun w => by rw [hD, ← hB']; exact c_MadeV (m := 30) (by decide)
  have cE : ∀ w, Calls Tryz.prog 13 #[str (a.take 210), .int .i64 12] w (Ret fun r w' => Ext w w' ∧ r = str E) := fun w => by rw [hE, ← hA]; exact c_MadeV (m := 12) (by decide)
  have cF : ∀ w, Calls Tryz.prog 24 #[.int .i64 n] w (Ret fun r w' => Ext w w' ∧ r = str F) := fun w => by rw [hF]; exact c_rFromInt h0 h1
  have cG : ∀ w, Tab w → Calls Tryz.prog 35 #[.int .i64 n] w (Ret fun r w' => Ext w w' ∧ r = str F) := fun w ht => by rw [hF]; exact c_FromInt h0 h1 ht
  apply e_law03_IntegerMatchesReference
  unfold s_law03_IntegerMatchesReference
  refine Cl1 n_law03_sane (c_sane ht) fun v1 z1 => ?_
  refine cutS (k := 210) ?_
  refine cutS (k := 210) ?_
  refine bd2 ?_
  refine Cl1 n_ref03_Made (cC v1) fun v2 z2 => ?_
  have z2 := z1.tr z2
  refine Cl1 n_ref03_Made (cD v2) fun v3 z3 => ?_
  have z3 := z2.tr z3
  refine bd2 ?_
  refine Cl1 n_ref03_Made (cE v3) fun v4 z4 => ?_
  have z4 := z3.tr z4
  refine Cl1 n_ref03_FromInt (cF v4) fun v5 z5 => ?_
  have z5 := z4.tr z5
  refine bd2 ?_
  refine bs3 ?_
  have z6 : Ext w (v5.alloc (.cells #[str (a.take 210), str (b.take 210), str C, str D, str E, str F] 37)) := z5.tr ((Ext.refl v5).al _)
  have hblk : Blk (v5.alloc (.cells #[str (a.take 210), str (b.take 210), str C, str D, str E, str F] 37)) v5.heap.size 37 [str (a.take 210), str (b.take 210), str C, str D, str E, str F] := Blk.al v5 _ _
  have hpair : ∀ j : Nat, j < 3 → ∃ p q : List UInt8, p.length ≤ 1000000 ∧ q.length ≤ 1000000 ∧ ∀ W, Ext (v5.alloc (.cells #[str (a.take 210), str (b.take 210), str C, str D, str E, str F] 37)) W → W.cell? ⟨v5.heap.size, 2 * j, none⟩ = some (str p) ∧ W.cell? ⟨v5.heap.size, 2 * j + 1, none⟩ = some (str q) := by
    intro j hj
    have hj' : j = 0 ∨ j = 1 ∨ j = 2 := by omega
    rcases hj' with rfl | rfl | rfl
    · exact ⟨a.take 210, b.take 210, by rw [← hA]; exact lA, by rw [← hB']; exact lB, fun W hW => ⟨(hblk.ext hW).cell (i := 0) rfl, (hblk.ext hW).cell (i := 1) rfl⟩⟩
    · exact ⟨C, D, lC, lD, fun W hW => ⟨(hblk.ext hW).cell (i := 2) rfl, (hblk.ext hW).cell (i := 3) rfl⟩⟩
    · exact ⟨E, F, lE, lF, fun W hW => ⟨(hblk.ext hW).cell (i := 4) rfl, (hblk.ext hW).cell (i := 5) rfl⟩⟩
  (repeat (first | (with_reducible refine Gd_T ?_) | (with_reducible refine Gd_F ?_) | (with_reducible refine Gd_TF ?_) | (with_reducible refine Gd_FT ?_) | (with_reducible refine Gd_U ?_) | (with_reducible refine Pick_T ?_) | (with_reducible refine Pick_F ?_) | (with_reducible refine If_T ?_) | (with_reducible refine If_F ?_) | (with_reducible refine Un_T ?_) | (with_reducible refine Un_F ?_) | (with_reducible refine Bn_eqST ?_) | (with_reducible refine Bn_neST ?_) | ((with_reducible refine Bn_eqSF ?_ ?_); focus assumption) | ((with_reducible refine Bn_eqS1 ?_ ?_); focus assumption) | ((with_reducible refine Bn_neSF ?_ ?_); focus assumption) | ((with_reducible refine Bn_eqBT ?_ ?_ ?_); (focus assumption); (focus decide)) | ((with_reducible refine Bn_eqBF ?_ ?_ ?_); (focus assumption); (focus decide)) | ((with_reducible refine Bn_neBT ?_ ?_ ?_); (focus assumption); (focus decide)) | ((with_reducible refine Bn_neBF ?_ ?_ ?_); (focus assumption); (focus decide)) | ((with_reducible refine Bn_eqT ?_ ?_); focus omega) | ((with_reducible refine Bn_eqF ?_ ?_); focus omega) | ((with_reducible refine Bn_neT ?_ ?_); focus omega) | ((with_reducible refine Bn_neF ?_ ?_); focus omega) | ((with_reducible refine Bn_ltT ?_ ?_); focus omega) | ((with_reducible refine Bn_ltF ?_ ?_); focus omega) | ((with_reducible refine Bn_gtT ?_ ?_); focus omega) | ((with_reducible refine Bn_gtF ?_ ?_); focus omega) | ((with_reducible refine Bn_leT ?_ ?_); focus omega) | ((with_reducible refine Bn_leF ?_ ?_); focus omega) | ((with_reducible refine Bn_geT ?_ ?_); focus omega) | ((with_reducible refine Bn_geF ?_ ?_); focus omega) | ((with_reducible refine Bn_ad ?_ ?_ ?_); (focus omega); (focus omega)) | ((with_reducible refine Bn_su ?_ ?_ ?_); (focus omega); (focus omega)) | ((with_reducible refine Bt_lenL ?_ ?_); (focus assumption)) | ((with_reducible refine Bt_lenS ?_ ?_); (focus assumption)) | ((with_reducible refine Bn_rm ?_ ?_ ?_); (focus omega); (focus omega)) | ((with_reducible refine Bn_qu ?_ ?_ ?_ ?_); (focus omega); (focus omega); (focus omega))))
  refine Lp1.mk (fun i W => Ext (v5.alloc (.cells #[str (a.take 210), str (b.take 210), str C, str D, str E, str F] 37)) W ∧ ∃ j : Nat, j ≤ 3 ∧ i = .int .i64 j) (fun i _ => match i with | .int _ i' => (3 - i').toNat | _ => 0) ⟨.refl _, 0, by omega, rfl⟩ ?_
  rintro i W ⟨hW, j, hj, rfl⟩
  have xW := z6.tr hW
  by_cases hjj : j < 3
  · refine Exists.elim (hpair j hjj) fun p hp1 => Exists.elim hp1 fun q hp2 => ?_
    have hp := hp2.1
    have hq := hp2.2.1
    have hc := hp2.2.2 W hW
    (repeat (first | (with_reducible refine Gd_T ?_) | (with_reducible refine Gd_F ?_) | (with_reducible refine Gd_TF ?_) | (with_reducible refine Gd_FT ?_) | (with_reducible refine Gd_U ?_) | (with_reducible refine Pick_T ?_) | (with_reducible refine Pick_F ?_) | (with_reducible refine If_T ?_) | (with_reducible refine If_F ?_) | (with_reducible refine Un_T ?_) | (with_reducible refine Un_F ?_) | (with_reducible refine Bn_eqST ?_) | (with_reducible refine Bn_neST ?_) | ((with_reducible refine Bn_eqSF ?_ ?_); focus assumption) | ((with_reducible refine Bn_eqS1 ?_ ?_); focus assumption) | ((with_reducible refine Bn_neSF ?_ ?_); focus assumption) | ((with_reducible refine Bn_eqBT ?_ ?_ ?_); (focus assumption); (focus decide)) | ((with_reducible refine Bn_eqBF ?_ ?_ ?_); (focus assumption); (focus decide)) | ((with_reducible refine Bn_neBT ?_ ?_ ?_); (focus assumption); (focus decide)) | ((with_reducible refine Bn_neBF ?_ ?_ ?_); (focus assumption); (focus decide)) | ((with_reducible refine Bn_eqT ?_ ?_); focus omega) | ((with_reducible refine Bn_eqF ?_ ?_); focus omega) | ((with_reducible refine Bn_neT ?_ ?_); focus omega) | ((with_reducible refine Bn_neF ?_ ?_); focus omega) | ((with_reducible refine Bn_ltT ?_ ?_); focus omega) | ((with_reducible refine Bn_ltF ?_ ?_); focus omega) | ((with_reducible refine Bn_gtT ?_ ?_); focus omega) | ((with_reducible refine Bn_gtF ?_ ?_); focus omega) | ((with_reducible refine Bn_leT ?_ ?_); focus omega) | ((with_reducible refine Bn_leF ?_ ?_); focus omega) | ((with_reducible refine Bn_geT ?_ ?_); focus omega) | ((with_reducible refine Bn_geF ?_ ?_); focus omega) | ((with_reducible refine Bn_ad ?_ ?_ ?_); (focus omega); (focus omega)) | ((with_reducible refine Bn_su ?_ ?_ ?_); (focus omega); (focus omega)) | ((with_reducible refine Bt_lenL ?_ ?_); (focus assumption)) | ((with_reducible refine Bt_lenS ?_ ?_); (focus assumption)) | ((with_reducible refine Bn_rm ?_ ?_ ?_); (focus omega); (focus omega)) | ((with_reducible refine Bn_qu ?_ ?_ ?_ ?_); (focus omega); (focus omega); (focus omega))))
    refine ld37 hjj hc.1 hc.2 ?_
    refine alsto fun W1 y1 hb => ?_
    have u1 := hW.tr y1
    refine ldP0 hb ?_
    refine ldP1 hb ?_
    refine Cl2 n_integer_Add (g_Add hp hq (ht.ext (z6.tr u1))) fun W2 y2 => ?_
    have hb := hb.ext y2
    have u2 := u1.tr y2
    refine ldP0 hb ?_
    refine ldP1 hb ?_
    refine Cl2 n_ref03_Add (gr_Add hp hq) fun W3 y3 => ?_
    have hb := hb.ext y3
    have u3 := u2.tr y3
    (repeat (first | (with_reducible refine Gd_T ?_) | (with_reducible refine Gd_F ?_) | (with_reducible refine Gd_TF ?_) | (with_reducible refine Gd_FT ?_) | (with_reducible refine Gd_U ?_) | (with_reducible refine Pick_T ?_) | (with_reducible refine Pick_F ?_) | (with_reducible refine If_T ?_) | (with_reducible refine If_F ?_) | (with_reducible refine Un_T ?_) | (with_reducible refine Un_F ?_) | (with_reducible refine Bn_eqST ?_) | (with_reducible refine Bn_neST ?_) | ((with_reducible refine Bn_eqSF ?_ ?_); focus assumption) | ((with_reducible refine Bn_eqS1 ?_ ?_); focus assumption) | ((with_reducible refine Bn_neSF ?_ ?_); focus assumption) | ((with_reducible refine Bn_eqBT ?_ ?_ ?_); (focus assumption); (focus decide)) | ((with_reducible refine Bn_eqBF ?_ ?_ ?_); (focus assumption); (focus decide)) | ((with_reducible refine Bn_neBT ?_ ?_ ?_); (focus assumption); (focus decide)) | ((with_reducible refine Bn_neBF ?_ ?_ ?_); (focus assumption); (focus decide)) | ((with_reducible refine Bn_eqT ?_ ?_); focus omega) | ((with_reducible refine Bn_eqF ?_ ?_); focus omega) | ((with_reducible refine Bn_neT ?_ ?_); focus omega) | ((with_reducible refine Bn_neF ?_ ?_); focus omega) | ((with_reducible refine Bn_ltT ?_ ?_); focus omega) | ((with_reducible refine Bn_ltF ?_ ?_); focus omega) | ((with_reducible refine Bn_gtT ?_ ?_); focus omega) | ((with_reducible refine Bn_gtF ?_ ?_); focus omega) | ((with_reducible refine Bn_leT ?_ ?_); focus omega) | ((with_reducible refine Bn_leF ?_ ?_); focus omega) | ((with_reducible refine Bn_geT ?_ ?_); focus omega) | ((with_reducible refine Bn_geF ?_ ?_); focus omega) | ((with_reducible refine Bn_ad ?_ ?_ ?_); (focus omega); (focus omega)) | ((with_reducible refine Bn_su ?_ ?_ ?_); (focus omega); (focus omega)) | ((with_reducible refine Bt_lenL ?_ ?_); (focus assumption)) | ((with_reducible refine Bt_lenS ?_ ?_); (focus assumption)) | ((with_reducible refine Bn_rm ?_ ?_ ?_); (focus omega); (focus omega)) | ((with_reducible refine Bn_qu ?_ ?_ ?_ ?_); (focus omega); (focus omega); (focus omega))))
    refine ldP0 hb ?_
    refine ldP1 hb ?_
    refine Cl2 n_integer_Sub (g_Sub hp hq (ht.ext (z6.tr u3))) fun W4 y4 => ?_
    have hb := hb.ext y4
    have u4 := u3.tr y4
    refine ldP0 hb ?_
    refine ldP1 hb ?_
    refine Cl2 n_ref03_Sub (gr_Sub hp hq) fun W5 y5 => ?_
    have hb := hb.ext y5
    have u5 := u4.tr y5
    (repeat (first | (with_reducible refine Gd_T ?_) | (with_reducible refine Gd_F ?_) | (with_reducible refine Gd_TF ?_) | (with_reducible refine Gd_FT ?_) | (with_reducible refine Gd_U ?_) | (with_reducible refine Pick_T ?_) | (with_reducible refine Pick_F ?_) | (with_reducible refine If_T ?_) | (with_reducible refine If_F ?_) | (with_reducible refine Un_T ?_) | (with_reducible refine Un_F ?_) | (with_reducible refine Bn_eqST ?_) | (with_reducible refine Bn_neST ?_) | ((with_reducible refine Bn_eqSF ?_ ?_); focus assumption) | ((with_reducible refine Bn_eqS1 ?_ ?_); focus assumption) | ((with_reducible refine Bn_neSF ?_ ?_); focus assumption) | ((with_reducible refine Bn_eqBT ?_ ?_ ?_); (focus assumption); (focus decide)) | ((with_reducible refine Bn_eqBF ?_ ?_ ?_); (focus assumption); (focus decide)) | ((with_reducible refine Bn_neBT ?_ ?_ ?_); (focus assumption); (focus decide)) | ((with_reducible refine Bn_neBF ?_ ?_ ?_); (focus assumption); (focus decide)) | ((with_reducible refine Bn_eqT ?_ ?_); focus omega) | ((with_reducible refine Bn_eqF ?_ ?_); focus omega) | ((with_reducible refine Bn_neT ?_ ?_); focus omega) | ((with_reducible refine Bn_neF ?_ ?_); focus omega) | ((with_reducible refine Bn_ltT ?_ ?_); focus omega) | ((with_reducible refine Bn_ltF ?_ ?_); focus omega) | ((with_reducible refine Bn_gtT ?_ ?_); focus omega) | ((with_reducible refine Bn_gtF ?_ ?_); focus omega) | ((with_reducible refine Bn_leT ?_ ?_); focus omega) | ((with_reducible refine Bn_leF ?_ ?_); focus omega) | ((with_reducible refine Bn_geT ?_ ?_); focus omega) | ((with_reducible refine Bn_geF ?_ ?_); focus omega) | ((with_reducible refine Bn_ad ?_ ?_ ?_); (focus omega); (focus omega)) | ((with_reducible refine Bn_su ?_ ?_ ?_); (focus omega); (focus omega)) | ((with_reducible refine Bt_lenL ?_ ?_); (focus assumption)) | ((with_reducible refine Bt_lenS ?_ ?_); (focus assumption)) | ((with_reducible refine Bn_rm ?_ ?_ ?_); (focus omega); (focus omega)) | ((with_reducible refine Bn_qu ?_ ?_ ?_ ?_); (focus omega); (focus omega); (focus omega))))
    refine ldP0 hb ?_
    refine ldP1 hb ?_
    refine Cl2 n_integer_Mul (g_Mul hp hq (ht.ext (z6.tr u5))) fun W6 y6 => ?_
    have hb := hb.ext y6
    have u6 := u5.tr y6
    refine ldP0 hb ?_
    refine ldP1 hb ?_
    refine Cl2 n_ref03_Mul (gr_Mul hp hq) fun W7 y7 => ?_
    have hb := hb.ext y7
    have u7 := u6.tr y7
    (repeat (first | (with_reducible refine Gd_T ?_) | (with_reducible refine Gd_F ?_) | (with_reducible refine Gd_TF ?_) | (with_reducible refine Gd_FT ?_) | (with_reducible refine Gd_U ?_) | (with_reducible refine Pick_T ?_) | (with_reducible refine Pick_F ?_) | (with_reducible refine If_T ?_) | (with_reducible refine If_F ?_) | (with_reducible refine Un_T ?_) | (with_reducible refine Un_F ?_) | (with_reducible refine Bn_eqST ?_) | (with_reducible refine Bn_neST ?_) | ((with_reducible refine Bn_eqSF ?_ ?_); focus assumption) | ((with_reducible refine Bn_eqS1 ?_ ?_); focus assumption) | ((with_reducible refine Bn_neSF ?_ ?_); focus assumption) | ((with_reducible refine Bn_eqBT ?_ ?_ ?_); (focus assumption); (focus decide)) | ((with_reducible refine Bn_eqBF ?_ ?_ ?_); (focus assumption); (focus decide)) | ((with_reducible refine Bn_neBT ?_ ?_ ?_); (focus assumption); (focus decide)) | ((with_reducible refine Bn_neBF ?_ ?_ ?_); (focus assumption); (focus decide)) | ((with_reducible refine Bn_eqT ?_ ?_); focus omega) | ((with_reducible refine Bn_eqF ?_ ?_); focus omega) | ((with_reducible refine Bn_neT ?_ ?_); focus omega) | ((with_reducible refine Bn_neF ?_ ?_); focus omega) | ((with_reducible refine Bn_ltT ?_ ?_); focus omega) | ((with_reducible refine Bn_ltF ?_ ?_); focus omega) | ((with_reducible refine Bn_gtT ?_ ?_); focus omega) | ((with_reducible refine Bn_gtF ?_ ?_); focus omega) | ((with_reducible refine Bn_leT ?_ ?_); focus omega) | ((with_reducible refine Bn_leF ?_ ?_); focus omega) | ((with_reducible refine Bn_geT ?_ ?_); focus omega) | ((with_reducible refine Bn_geF ?_ ?_); focus omega) | ((with_reducible refine Bn_ad ?_ ?_ ?_); (focus omega); (focus omega)) | ((with_reducible refine Bn_su ?_ ?_ ?_); (focus omega); (focus omega)) | ((with_reducible refine Bt_lenL ?_ ?_); (focus assumption)) | ((with_reducible refine Bt_lenS ?_ ?_); (focus assumption)) | ((with_reducible refine Bn_rm ?_ ?_ ?_); (focus omega); (focus omega)) | ((with_reducible refine Bn_qu ?_ ?_ ?_ ?_); (focus omega); (focus omega); (focus omega))))
    refine ldP0 hb ?_
    refine ldP1 hb ?_
    refine Cl3 n_integer_Div (g_Div hp hq (ht.ext (z6.tr u7))) fun W8 y8 => ?_
    have hb := hb.ext y8
    have u8 := u7.tr y8
    refine ldP0 hb ?_
    refine ldP1 hb ?_
    refine Cl3 n_ref03_Div (gr_Div hp hq) fun W9 y9 => ?_
    have hb := hb.ext y9
    have u9 := u8.tr y9
    (repeat (first | (with_reducible refine Gd_T ?_) | (with_reducible refine Gd_F ?_) | (with_reducible refine Gd_TF ?_) | (with_reducible refine Gd_FT ?_) | (with_reducible refine Gd_U ?_) | (with_reducible refine Pick_T ?_) | (with_reducible refine Pick_F ?_) | (with_reducible refine If_T ?_) | (with_reducible refine If_F ?_) | (with_reducible refine Un_T ?_) | (with_reducible refine Un_F ?_) | (with_reducible refine Bn_eqST ?_) | (with_reducible refine Bn_neST ?_) | ((with_reducible refine Bn_eqSF ?_ ?_); focus assumption) | ((with_reducible refine Bn_eqS1 ?_ ?_); focus assumption) | ((with_reducible refine Bn_neSF ?_ ?_); focus assumption) | ((with_reducible refine Bn_eqBT ?_ ?_ ?_); (focus assumption); (focus decide)) | ((with_reducible refine Bn_eqBF ?_ ?_ ?_); (focus assumption); (focus decide)) | ((with_reducible refine Bn_neBT ?_ ?_ ?_); (focus assumption); (focus decide)) | ((with_reducible refine Bn_neBF ?_ ?_ ?_); (focus assumption); (focus decide)) | ((with_reducible refine Bn_eqT ?_ ?_); focus omega) | ((with_reducible refine Bn_eqF ?_ ?_); focus omega) | ((with_reducible refine Bn_neT ?_ ?_); focus omega) | ((with_reducible refine Bn_neF ?_ ?_); focus omega) | ((with_reducible refine Bn_ltT ?_ ?_); focus omega) | ((with_reducible refine Bn_ltF ?_ ?_); focus omega) | ((with_reducible refine Bn_gtT ?_ ?_); focus omega) | ((with_reducible refine Bn_gtF ?_ ?_); focus omega) | ((with_reducible refine Bn_leT ?_ ?_); focus omega) | ((with_reducible refine Bn_leF ?_ ?_); focus omega) | ((with_reducible refine Bn_geT ?_ ?_); focus omega) | ((with_reducible refine Bn_geF ?_ ?_); focus omega) | ((with_reducible refine Bn_ad ?_ ?_ ?_); (focus omega); (focus omega)) | ((with_reducible refine Bn_su ?_ ?_ ?_); (focus omega); (focus omega)) | ((with_reducible refine Bt_lenL ?_ ?_); (focus assumption)) | ((with_reducible refine Bt_lenS ?_ ?_); (focus assumption)) | ((with_reducible refine Bn_rm ?_ ?_ ?_); (focus omega); (focus omega)) | ((with_reducible refine Bn_qu ?_ ?_ ?_ ?_); (focus omega); (focus omega); (focus omega))))
    refine ldP0 hb ?_
    refine ldP1 hb ?_
    refine Cl2 n_integer_Gcd (g_Gcd hp hq (ht.ext (z6.tr u9))) fun W10 y10 => ?_
    have hb := hb.ext y10
    have u10 := u9.tr y10
    refine ldP0 hb ?_
    refine ldP1 hb ?_
    refine Cl2 n_ref03_Gcd (gr_Gcd hp hq) fun W11 y11 => ?_
    have hb := hb.ext y11
    have u11 := u10.tr y11
    (repeat (first | (with_reducible refine Gd_T ?_) | (with_reducible refine Gd_F ?_) | (with_reducible refine Gd_TF ?_) | (with_reducible refine Gd_FT ?_) | (with_reducible refine Gd_U ?_) | (with_reducible refine Pick_T ?_) | (with_reducible refine Pick_F ?_) | (with_reducible refine If_T ?_) | (with_reducible refine If_F ?_) | (with_reducible refine Un_T ?_) | (with_reducible refine Un_F ?_) | (with_reducible refine Bn_eqST ?_) | (with_reducible refine Bn_neST ?_) | ((with_reducible refine Bn_eqSF ?_ ?_); focus assumption) | ((with_reducible refine Bn_eqS1 ?_ ?_); focus assumption) | ((with_reducible refine Bn_neSF ?_ ?_); focus assumption) | ((with_reducible refine Bn_eqBT ?_ ?_ ?_); (focus assumption); (focus decide)) | ((with_reducible refine Bn_eqBF ?_ ?_ ?_); (focus assumption); (focus decide)) | ((with_reducible refine Bn_neBT ?_ ?_ ?_); (focus assumption); (focus decide)) | ((with_reducible refine Bn_neBF ?_ ?_ ?_); (focus assumption); (focus decide)) | ((with_reducible refine Bn_eqT ?_ ?_); focus omega) | ((with_reducible refine Bn_eqF ?_ ?_); focus omega) | ((with_reducible refine Bn_neT ?_ ?_); focus omega) | ((with_reducible refine Bn_neF ?_ ?_); focus omega) | ((with_reducible refine Bn_ltT ?_ ?_); focus omega) | ((with_reducible refine Bn_ltF ?_ ?_); focus omega) | ((with_reducible refine Bn_gtT ?_ ?_); focus omega) | ((with_reducible refine Bn_gtF ?_ ?_); focus omega) | ((with_reducible refine Bn_leT ?_ ?_); focus omega) | ((with_reducible refine Bn_leF ?_ ?_); focus omega) | ((with_reducible refine Bn_geT ?_ ?_); focus omega) | ((with_reducible refine Bn_geF ?_ ?_); focus omega) | ((with_reducible refine Bn_ad ?_ ?_ ?_); (focus omega); (focus omega)) | ((with_reducible refine Bn_su ?_ ?_ ?_); (focus omega); (focus omega)) | ((with_reducible refine Bt_lenL ?_ ?_); (focus assumption)) | ((with_reducible refine Bt_lenS ?_ ?_); (focus assumption)) | ((with_reducible refine Bn_rm ?_ ?_ ?_); (focus omega); (focus omega)) | ((with_reducible refine Bn_qu ?_ ?_ ?_ ?_); (focus omega); (focus omega); (focus omega))))
    refine ldP0 hb ?_
    refine Cl2 n_integer_Root (g_Root hp (ht.ext (z6.tr u11))) fun W12 y12 => ?_
    have hb := hb.ext y12
    have u12 := u11.tr y12
    refine ldP0 hb ?_
    refine Cl2 n_ref03_Root (gr_Root hp) fun W13 y13 => ?_
    have hb := hb.ext y13
    have u13 := u12.tr y13
    (repeat (first | (with_reducible refine Gd_T ?_) | (with_reducible refine Gd_F ?_) | (with_reducible refine Gd_TF ?_) | (with_reducible refine Gd_FT ?_) | (with_reducible refine Gd_U ?_) | (with_reducible refine Pick_T ?_) | (with_reducible refine Pick_F ?_) | (with_reducible refine If_T ?_) | (with_reducible refine If_F ?_) | (with_reducible refine Un_T ?_) | (with_reducible refine Un_F ?_) | (with_reducible refine Bn_eqST ?_) | (with_reducible refine Bn_neST ?_) | ((with_reducible refine Bn_eqSF ?_ ?_); focus assumption) | ((with_reducible refine Bn_eqS1 ?_ ?_); focus assumption) | ((with_reducible refine Bn_neSF ?_ ?_); focus assumption) | ((with_reducible refine Bn_eqBT ?_ ?_ ?_); (focus assumption); (focus decide)) | ((with_reducible refine Bn_eqBF ?_ ?_ ?_); (focus assumption); (focus decide)) | ((with_reducible refine Bn_neBT ?_ ?_ ?_); (focus assumption); (focus decide)) | ((with_reducible refine Bn_neBF ?_ ?_ ?_); (focus assumption); (focus decide)) | ((with_reducible refine Bn_eqT ?_ ?_); focus omega) | ((with_reducible refine Bn_eqF ?_ ?_); focus omega) | ((with_reducible refine Bn_neT ?_ ?_); focus omega) | ((with_reducible refine Bn_neF ?_ ?_); focus omega) | ((with_reducible refine Bn_ltT ?_ ?_); focus omega) | ((with_reducible refine Bn_ltF ?_ ?_); focus omega) | ((with_reducible refine Bn_gtT ?_ ?_); focus omega) | ((with_reducible refine Bn_gtF ?_ ?_); focus omega) | ((with_reducible refine Bn_leT ?_ ?_); focus omega) | ((with_reducible refine Bn_leF ?_ ?_); focus omega) | ((with_reducible refine Bn_geT ?_ ?_); focus omega) | ((with_reducible refine Bn_geF ?_ ?_); focus omega) | ((with_reducible refine Bn_ad ?_ ?_ ?_); (focus omega); (focus omega)) | ((with_reducible refine Bn_su ?_ ?_ ?_); (focus omega); (focus omega)) | ((with_reducible refine Bt_lenL ?_ ?_); (focus assumption)) | ((with_reducible refine Bt_lenS ?_ ?_); (focus assumption)) | ((with_reducible refine Bn_rm ?_ ?_ ?_); (focus omega); (focus omega)) | ((with_reducible refine Bn_qu ?_ ?_ ?_ ?_); (focus omega); (focus omega); (focus omega))))
    refine ldP0 hb ?_
    refine Cl2 n_integer_ToInt (g_ToInt hp (he.ext (z6.tr u13))) fun W14 y14 => ?_
    have hb := hb.ext y14
    have u14 := u13.tr y14
    refine ldP0 hb ?_
    refine Cl2 n_ref03_ToInt (gr_ToInt hp) fun W15 y15 => ?_
    have hb := hb.ext y15
    have u15 := u14.tr y15
    ((try simp -dsimp [go_sem, hb.cell (i := 0) rfl, hb.cell (i := 1) rfl]); repeat (simp -dsimp (disch := omega) only [w64, wu64, dlt_t, dlt_f, dle_t, dle_f, deq_t, deq_f, beq_t, beq_f, bne_t, bne_f, nlt_t, nlt_f, nle_t, nle_f, neq_t, neq_f, nbeq_t, nbeq_f, nbne_t, nbne_f, it_t, it_f, dit_t, dit_f]; try simp -dsimp [go_sem, hb.cell (i := 0) rfl, hb.cell (i := 1) rfl]))
    have u16 := u15.tr (Ext.dr (.refl _))
    have hb := hb.ext (Ext.dr (.refl _))
    refine Cl1 n_integer_Valid (c_Valid hp) fun W17 y17 => ?_
    have hb := hb.ext y17
    have u17 := u16.tr y17
    ((try simp -dsimp [go_sem, hb.cell (i := 0) rfl, hb.cell (i := 1) rfl]); repeat (simp -dsimp (disch := omega) only [w64, wu64, dlt_t, dlt_f, dle_t, dle_f, deq_t, deq_f, beq_t, beq_f, bne_t, bne_f, nlt_t, nlt_f, nle_t, nle_f, neq_t, neq_f, nbeq_t, nbeq_f, nbne_t, nbne_f, it_t, it_f, dit_t, dit_f]; try simp -dsimp [go_sem, hb.cell (i := 0) rfl, hb.cell (i := 1) rfl]))
    refine ⟨fun _ => by simp -dsimp [go_sem, hb.cell (i := 0) rfl], ?_⟩
    refine Cl1 n_ref03_Valid (c_rValid hp) fun W18 y18 => ?_
    have hb := hb.ext y18
    have u18 := u17.tr y18
    ((try simp -dsimp [go_sem, hb.cell (i := 0) rfl, hb.cell (i := 1) rfl]); repeat (simp -dsimp (disch := omega) only [w64, wu64, dlt_t, dlt_f, dle_t, dle_f, deq_t, deq_f, beq_t, beq_f, bne_t, bne_f, nlt_t, nlt_f, nle_t, nle_f, neq_t, neq_f, nbeq_t, nbeq_f, nbne_t, nbne_f, it_t, it_f, dit_t, dit_f]; try simp -dsimp [go_sem, hb.cell (i := 0) rfl, hb.cell (i := 1) rfl]))
    refine Cl1 n_integer_Compare (g_Compare hp hq) fun W19 y19 => ?_
    have hb := hb.ext y19
    have u19 := u18.tr y19
    ((try simp -dsimp [go_sem, hb.cell (i := 0) rfl, hb.cell (i := 1) rfl]); repeat (simp -dsimp (disch := omega) only [w64, wu64, dlt_t, dlt_f, dle_t, dle_f, deq_t, deq_f, beq_t, beq_f, bne_t, bne_f, nlt_t, nlt_f, nle_t, nle_f, neq_t, neq_f, nbeq_t, nbeq_f, nbne_t, nbne_f, it_t, it_f, dit_t, dit_f]; try simp -dsimp [go_sem, hb.cell (i := 0) rfl, hb.cell (i := 1) rfl]))
    refine ⟨fun _ => by simp -dsimp [go_sem, hb.cell (i := 0) rfl], ?_⟩
    refine ⟨fun _ => by simp -dsimp [go_sem, hb.cell (i := 1) rfl], ?_⟩
    refine Cl1 n_ref03_Compare (gr_Compare hp hq) fun W20 y20 => ?_
    have hb := hb.ext y20
    have u20 := u19.tr y20
    ((try simp -dsimp [go_sem, hb.cell (i := 0) rfl, hb.cell (i := 1) rfl]); repeat (simp -dsimp (disch := omega) only [w64, wu64, dlt_t, dlt_f, dle_t, dle_f, deq_t, deq_f, beq_t, beq_f, bne_t, bne_f, nlt_t, nlt_f, nle_t, nle_f, neq_t, neq_f, nbeq_t, nbeq_f, nbne_t, nbne_f, it_t, it_f, dit_t, dit_f]; try simp -dsimp [go_sem, hb.cell (i := 0) rfl, hb.cell (i := 1) rfl]))
    exact ⟨⟨u20, j + 1, by omega, by push_cast; rfl⟩, by omega⟩
  · (repeat (first | (with_reducible refine Gd_T ?_) | (with_reducible refine Gd_F ?_) | (with_reducible refine Gd_TF ?_) | (with_reducible refine Gd_FT ?_) | (with_reducible refine Gd_U ?_) | (with_reducible refine Pick_T ?_) | (with_reducible refine Pick_F ?_) | (with_reducible refine If_T ?_) | (with_reducible refine If_F ?_) | (with_reducible refine Un_T ?_) | (with_reducible refine Un_F ?_) | (with_reducible refine Bn_eqST ?_) | (with_reducible refine Bn_neST ?_) | ((with_reducible refine Bn_eqSF ?_ ?_); focus assumption) | ((with_reducible refine Bn_eqS1 ?_ ?_); focus assumption) | ((with_reducible refine Bn_neSF ?_ ?_); focus assumption) | ((with_reducible refine Bn_eqBT ?_ ?_ ?_); (focus assumption); (focus decide)) | ((with_reducible refine Bn_eqBF ?_ ?_ ?_); (focus assumption); (focus decide)) | ((with_reducible refine Bn_neBT ?_ ?_ ?_); (focus assumption); (focus decide)) | ((with_reducible refine Bn_neBF ?_ ?_ ?_); (focus assumption); (focus decide)) | ((with_reducible refine Bn_eqT ?_ ?_); focus omega) | ((with_reducible refine Bn_eqF ?_ ?_); focus omega) | ((with_reducible refine Bn_neT ?_ ?_); focus omega) | ((with_reducible refine Bn_neF ?_ ?_); focus omega) | ((with_reducible refine Bn_ltT ?_ ?_); focus omega) | ((with_reducible refine Bn_ltF ?_ ?_); focus omega) | ((with_reducible refine Bn_gtT ?_ ?_); focus omega) | ((with_reducible refine Bn_gtF ?_ ?_); focus omega) | ((with_reducible refine Bn_leT ?_ ?_); focus omega) | ((with_reducible refine Bn_leF ?_ ?_); focus omega) | ((with_reducible refine Bn_geT ?_ ?_); focus omega) | ((with_reducible refine Bn_geF ?_ ?_); focus omega) | ((with_reducible refine Bn_ad ?_ ?_ ?_); (focus omega); (focus omega)) | ((with_reducible refine Bn_su ?_ ?_ ?_); (focus omega); (focus omega)) | ((with_reducible refine Bt_lenL ?_ ?_); (focus assumption)) | ((with_reducible refine Bt_lenS ?_ ?_); (focus assumption)) | ((with_reducible refine Bn_rm ?_ ?_ ?_); (focus omega); (focus omega)) | ((with_reducible refine Bn_qu ?_ ?_ ?_ ?_); (focus omega); (focus omega); (focus omega))))
    refine Cl1 n_integer_FromInt (cG W (ht.ext xW)) fun W1 y1 => ?_
    (repeat (first | (with_reducible refine Gd_T ?_) | (with_reducible refine Gd_F ?_) | (with_reducible refine Gd_TF ?_) | (with_reducible refine Gd_FT ?_) | (with_reducible refine Gd_U ?_) | (with_reducible refine Pick_T ?_) | (with_reducible refine Pick_F ?_) | (with_reducible refine If_T ?_) | (with_reducible refine If_F ?_) | (with_reducible refine Un_T ?_) | (with_reducible refine Un_F ?_) | (with_reducible refine Bn_eqST ?_) | (with_reducible refine Bn_neST ?_) | ((with_reducible refine Bn_eqSF ?_ ?_); focus assumption) | ((with_reducible refine Bn_eqS1 ?_ ?_); focus assumption) | ((with_reducible refine Bn_neSF ?_ ?_); focus assumption) | ((with_reducible refine Bn_eqBT ?_ ?_ ?_); (focus assumption); (focus decide)) | ((with_reducible refine Bn_eqBF ?_ ?_ ?_); (focus assumption); (focus decide)) | ((with_reducible refine Bn_neBT ?_ ?_ ?_); (focus assumption); (focus decide)) | ((with_reducible refine Bn_neBF ?_ ?_ ?_); (focus assumption); (focus decide)) | ((with_reducible refine Bn_eqT ?_ ?_); focus omega) | ((with_reducible refine Bn_eqF ?_ ?_); focus omega) | ((with_reducible refine Bn_neT ?_ ?_); focus omega) | ((with_reducible refine Bn_neF ?_ ?_); focus omega) | ((with_reducible refine Bn_ltT ?_ ?_); focus omega) | ((with_reducible refine Bn_ltF ?_ ?_); focus omega) | ((with_reducible refine Bn_gtT ?_ ?_); focus omega) | ((with_reducible refine Bn_gtF ?_ ?_); focus omega) | ((with_reducible refine Bn_leT ?_ ?_); focus omega) | ((with_reducible refine Bn_leF ?_ ?_); focus omega) | ((with_reducible refine Bn_geT ?_ ?_); focus omega) | ((with_reducible refine Bn_geF ?_ ?_); focus omega) | ((with_reducible refine Bn_ad ?_ ?_ ?_); (focus omega); (focus omega)) | ((with_reducible refine Bn_su ?_ ?_ ?_); (focus omega); (focus omega)) | ((with_reducible refine Bt_lenL ?_ ?_); (focus assumption)) | ((with_reducible refine Bt_lenS ?_ ?_); (focus assumption)) | ((with_reducible refine Bn_rm ?_ ?_ ?_); (focus omega); (focus omega)) | ((with_reducible refine Bn_qu ?_ ?_ ?_ ?_); (focus omega); (focus omega); (focus omega))))
    refine Cl1 n_ref03_FromInt (cF W1) fun W2 y2 => ?_
    (repeat (first | (with_reducible refine Gd_T ?_) | (with_reducible refine Gd_F ?_) | (with_reducible refine Gd_TF ?_) | (with_reducible refine Gd_FT ?_) | (with_reducible refine Gd_U ?_) | (with_reducible refine Pick_T ?_) | (with_reducible refine Pick_F ?_) | (with_reducible refine If_T ?_) | (with_reducible refine If_F ?_) | (with_reducible refine Un_T ?_) | (with_reducible refine Un_F ?_) | (with_reducible refine Bn_eqST ?_) | (with_reducible refine Bn_neST ?_) | ((with_reducible refine Bn_eqSF ?_ ?_); focus assumption) | ((with_reducible refine Bn_eqS1 ?_ ?_); focus assumption) | ((with_reducible refine Bn_neSF ?_ ?_); focus assumption) | ((with_reducible refine Bn_eqBT ?_ ?_ ?_); (focus assumption); (focus decide)) | ((with_reducible refine Bn_eqBF ?_ ?_ ?_); (focus assumption); (focus decide)) | ((with_reducible refine Bn_neBT ?_ ?_ ?_); (focus assumption); (focus decide)) | ((with_reducible refine Bn_neBF ?_ ?_ ?_); (focus assumption); (focus decide)) | ((with_reducible refine Bn_eqT ?_ ?_); focus omega) | ((with_reducible refine Bn_eqF ?_ ?_); focus omega) | ((with_reducible refine Bn_neT ?_ ?_); focus omega) | ((with_reducible refine Bn_neF ?_ ?_); focus omega) | ((with_reducible refine Bn_ltT ?_ ?_); focus omega) | ((with_reducible refine Bn_ltF ?_ ?_); focus omega) | ((with_reducible refine Bn_gtT ?_ ?_); focus omega) | ((with_reducible refine Bn_gtF ?_ ?_); focus omega) | ((with_reducible refine Bn_leT ?_ ?_); focus omega) | ((with_reducible refine Bn_leF ?_ ?_); focus omega) | ((with_reducible refine Bn_geT ?_ ?_); focus omega) | ((with_reducible refine Bn_geF ?_ ?_); focus omega) | ((with_reducible refine Bn_ad ?_ ?_ ?_); (focus omega); (focus omega)) | ((with_reducible refine Bn_su ?_ ?_ ?_); (focus omega); (focus omega)) | ((with_reducible refine Bt_lenL ?_ ?_); (focus assumption)) | ((with_reducible refine Bt_lenS ?_ ?_); (focus assumption)) | ((with_reducible refine Bn_rm ?_ ?_ ?_); (focus omega); (focus omega)) | ((with_reducible refine Bn_qu ?_ ?_ ?_ ?_); (focus omega); (focus omega); (focus omega))))
    exact Ret.mk ⟨(xW.tr y1).tr y2, rfl⟩
end Go.Proofs.YtocilcjojdjfdaaGreatDoor
