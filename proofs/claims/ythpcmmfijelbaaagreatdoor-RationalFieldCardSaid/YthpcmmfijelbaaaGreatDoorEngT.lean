/-
  Contracts of functions of the program, and plain lemmas on numbers and strings. By an AI agent.
-/
import Derived.Test.YthpcmmfijelbaaaGreatDoorEng
set_option linter.unusedSimpArgs false
set_option linter.unusedVariables false
set_option linter.unusedSectionVars false
namespace Go.Eng
open Go Go.RowKit Go.Proofs
section
variable {P : Program} {w : World} {K : Value → World → Prop} {KP : Value → Prop} {t : TypeId} {c wi : Bool} {k : IntKind} {b d v : Bool}
abbrev VW := Value → World → Prop
theorem and1 {A0 : VW → Prop} (h : b = true → ∀ K' : VW, K' (.bool d) w → A0 (K')) (hv : (b && d) = v) (hk : K (.bool v) w) : Gd (.bool b) true A0 w fun x0 w0 => Pick (.bool b) x0 (.bool false) w0 K := by
  subst hv
  cases b with
  | true => exact h rfl (fun x w' => Pick (.bool true) x (.bool false) w' K) hk
  | false => exact hk
theorem or1 {A0 : VW → Prop} (h : b = false → ∀ K' : VW, K' (.bool d) w → A0 (K')) (hv : (b || d) = v) (hk : K (.bool v) w) : Gd (.bool b) false A0 w fun x0 w0 => Pick (.bool b) (.bool true) x0 w0 K := by
  subst hv
  cases b with
  | true => exact hk
  | false => exact h rfl (fun x w' => Pick (.bool false) (.bool true) x w' K) hk
theorem and2 {A0 : VW → Prop} {A1 : Value → World → VW → Prop} (h : b = true → ∀ K' : VW, K' (.bool d) w → A0 (fun x0 w0 => (A1 x0 w0) (K'))) (hv : (b && d) = v) (hk : K (.bool v) w) : Gd (.bool b) true A0 w fun x0 w0 => Gd (.bool b) true (A1 x0 w0) w0 fun x1 w1 => Pick (.bool b) x1 (.bool false) w1 K := by
  subst hv
  cases b with
  | true => exact h rfl (fun x w' => Pick (.bool true) x (.bool false) w' K) hk
  | false => exact hk
theorem or2 {A0 : VW → Prop} {A1 : Value → World → VW → Prop} (h : b = false → ∀ K' : VW, K' (.bool d) w → A0 (fun x0 w0 => (A1 x0 w0) (K'))) (hv : (b || d) = v) (hk : K (.bool v) w) : Gd (.bool b) false A0 w fun x0 w0 => Gd (.bool b) false (A1 x0 w0) w0 fun x1 w1 => Pick (.bool b) (.bool true) x1 w1 K := by
  subst hv
  cases b with
  | true => exact hk
  | false => exact h rfl (fun x w' => Pick (.bool false) (.bool true) x w' K) hk
theorem and3 {A0 : VW → Prop} {A1 : Value → World → VW → Prop} {A2 : Value → World → Value → World → VW → Prop} (h : b = true → ∀ K' : VW, K' (.bool d) w → A0 (fun x0 w0 => (A1 x0 w0) (fun x1 w1 => (A2 x0 w0 x1 w1) (K')))) (hv : (b && d) = v) (hk : K (.bool v) w) : Gd (.bool b) true A0 w fun x0 w0 => Gd (.bool b) true (A1 x0 w0) w0 fun x1 w1 => Gd (.bool b) true (A2 x0 w0 x1 w1) w1 fun x2 w2 => Pick (.bool b) x2 (.bool false) w2 K := by
  subst hv
  cases b with
  | true => exact h rfl (fun x w' => Pick (.bool true) x (.bool false) w' K) hk
  | false => exact hk
theorem or3 {A0 : VW → Prop} {A1 : Value → World → VW → Prop} {A2 : Value → World → Value → World → VW → Prop} (h : b = false → ∀ K' : VW, K' (.bool d) w → A0 (fun x0 w0 => (A1 x0 w0) (fun x1 w1 => (A2 x0 w0 x1 w1) (K')))) (hv : (b || d) = v) (hk : K (.bool v) w) : Gd (.bool b) false A0 w fun x0 w0 => Gd (.bool b) false (A1 x0 w0) w0 fun x1 w1 => Gd (.bool b) false (A2 x0 w0 x1 w1) w1 fun x2 w2 => Pick (.bool b) (.bool true) x2 w2 K := by
  subst hv
  cases b with
  | true => exact hk
  | false => exact h rfl (fun x w' => Pick (.bool false) (.bool true) x w' K) hk
theorem and4 {A0 : VW → Prop} {A1 : Value → World → VW → Prop} {A2 : Value → World → Value → World → VW → Prop} {A3 : Value → World → Value → World → Value → World → VW → Prop} (h : b = true → ∀ K' : VW, K' (.bool d) w → A0 (fun x0 w0 => (A1 x0 w0) (fun x1 w1 => (A2 x0 w0 x1 w1) (fun x2 w2 => (A3 x0 w0 x1 w1 x2 w2) (K'))))) (hv : (b && d) = v) (hk : K (.bool v) w) : Gd (.bool b) true A0 w fun x0 w0 => Gd (.bool b) true (A1 x0 w0) w0 fun x1 w1 => Gd (.bool b) true (A2 x0 w0 x1 w1) w1 fun x2 w2 => Gd (.bool b) true (A3 x0 w0 x1 w1 x2 w2) w2 fun x3 w3 => Pick (.bool b) x3 (.bool false) w3 K := by
  subst hv
  cases b with
  | true => exact h rfl (fun x w' => Pick (.bool true) x (.bool false) w' K) hk
  | false => exact hk
theorem or4 {A0 : VW → Prop} {A1 : Value → World → VW → Prop} {A2 : Value → World → Value → World → VW → Prop} {A3 : Value → World → Value → World → Value → World → VW → Prop} (h : b = false → ∀ K' : VW, K' (.bool d) w → A0 (fun x0 w0 => (A1 x0 w0) (fun x1 w1 => (A2 x0 w0 x1 w1) (fun x2 w2 => (A3 x0 w0 x1 w1 x2 w2) (K'))))) (hv : (b || d) = v) (hk : K (.bool v) w) : Gd (.bool b) false A0 w fun x0 w0 => Gd (.bool b) false (A1 x0 w0) w0 fun x1 w1 => Gd (.bool b) false (A2 x0 w0 x1 w1) w1 fun x2 w2 => Gd (.bool b) false (A3 x0 w0 x1 w1 x2 w2) w2 fun x3 w3 => Pick (.bool b) (.bool true) x3 w3 K := by
  subst hv
  cases b with
  | true => exact hk
  | false => exact h rfl (fun x w' => Pick (.bool false) (.bool true) x w' K) hk
theorem and5 {A0 : VW → Prop} {A1 : Value → World → VW → Prop} {A2 : Value → World → Value → World → VW → Prop} {A3 : Value → World → Value → World → Value → World → VW → Prop} {A4 : Value → World → Value → World → Value → World → Value → World → VW → Prop} (h : b = true → ∀ K' : VW, K' (.bool d) w → A0 (fun x0 w0 => (A1 x0 w0) (fun x1 w1 => (A2 x0 w0 x1 w1) (fun x2 w2 => (A3 x0 w0 x1 w1 x2 w2) (fun x3 w3 => (A4 x0 w0 x1 w1 x2 w2 x3 w3) (K')))))) (hv : (b && d) = v) (hk : K (.bool v) w) : Gd (.bool b) true A0 w fun x0 w0 => Gd (.bool b) true (A1 x0 w0) w0 fun x1 w1 => Gd (.bool b) true (A2 x0 w0 x1 w1) w1 fun x2 w2 => Gd (.bool b) true (A3 x0 w0 x1 w1 x2 w2) w2 fun x3 w3 => Gd (.bool b) true (A4 x0 w0 x1 w1 x2 w2 x3 w3) w3 fun x4 w4 => Pick (.bool b) x4 (.bool false) w4 K := by
  subst hv
  cases b with
  | true => exact h rfl (fun x w' => Pick (.bool true) x (.bool false) w' K) hk
  | false => exact hk
theorem or5 {A0 : VW → Prop} {A1 : Value → World → VW → Prop} {A2 : Value → World → Value → World → VW → Prop} {A3 : Value → World → Value → World → Value → World → VW → Prop} {A4 : Value → World → Value → World → Value → World → Value → World → VW → Prop} (h : b = false → ∀ K' : VW, K' (.bool d) w → A0 (fun x0 w0 => (A1 x0 w0) (fun x1 w1 => (A2 x0 w0 x1 w1) (fun x2 w2 => (A3 x0 w0 x1 w1 x2 w2) (fun x3 w3 => (A4 x0 w0 x1 w1 x2 w2 x3 w3) (K')))))) (hv : (b || d) = v) (hk : K (.bool v) w) : Gd (.bool b) false A0 w fun x0 w0 => Gd (.bool b) false (A1 x0 w0) w0 fun x1 w1 => Gd (.bool b) false (A2 x0 w0 x1 w1) w1 fun x2 w2 => Gd (.bool b) false (A3 x0 w0 x1 w1 x2 w2) w2 fun x3 w3 => Gd (.bool b) false (A4 x0 w0 x1 w1 x2 w2 x3 w3) w3 fun x4 w4 => Pick (.bool b) (.bool true) x4 w4 K := by
  subst hv
  cases b with
  | true => exact hk
  | false => exact h rfl (fun x w' => Pick (.bool false) (.bool true) x w' K) hk
theorem and6 {A0 : VW → Prop} {A1 : Value → World → VW → Prop} {A2 : Value → World → Value → World → VW → Prop} {A3 : Value → World → Value → World → Value → World → VW → Prop} {A4 : Value → World → Value → World → Value → World → Value → World → VW → Prop} {A5 : Value → World → Value → World → Value → World → Value → World → Value → World → VW → Prop} (h : b = true → ∀ K' : VW, K' (.bool d) w → A0 (fun x0 w0 => (A1 x0 w0) (fun x1 w1 => (A2 x0 w0 x1 w1) (fun x2 w2 => (A3 x0 w0 x1 w1 x2 w2) (fun x3 w3 => (A4 x0 w0 x1 w1 x2 w2 x3 w3) (fun x4 w4 => (A5 x0 w0 x1 w1 x2 w2 x3 w3 x4 w4) (K'))))))) (hv : (b && d) = v) (hk : K (.bool v) w) : Gd (.bool b) true A0 w fun x0 w0 => Gd (.bool b) true (A1 x0 w0) w0 fun x1 w1 => Gd (.bool b) true (A2 x0 w0 x1 w1) w1 fun x2 w2 => Gd (.bool b) true (A3 x0 w0 x1 w1 x2 w2) w2 fun x3 w3 => Gd (.bool b) true (A4 x0 w0 x1 w1 x2 w2 x3 w3) w3 fun x4 w4 => Gd (.bool b) true (A5 x0 w0 x1 w1 x2 w2 x3 w3 x4 w4) w4 fun x5 w5 => Pick (.bool b) x5 (.bool false) w5 K := by
  subst hv
  cases b with
  | true => exact h rfl (fun x w' => Pick (.bool true) x (.bool false) w' K) hk
  | false => exact hk
theorem or6 {A0 : VW → Prop} {A1 : Value → World → VW → Prop} {A2 : Value → World → Value → World → VW → Prop} {A3 : Value → World → Value → World → Value → World → VW → Prop} {A4 : Value → World → Value → World → Value → World → Value → World → VW → Prop} {A5 : Value → World → Value → World → Value → World → Value → World → Value → World → VW → Prop} (h : b = false → ∀ K' : VW, K' (.bool d) w → A0 (fun x0 w0 => (A1 x0 w0) (fun x1 w1 => (A2 x0 w0 x1 w1) (fun x2 w2 => (A3 x0 w0 x1 w1 x2 w2) (fun x3 w3 => (A4 x0 w0 x1 w1 x2 w2 x3 w3) (fun x4 w4 => (A5 x0 w0 x1 w1 x2 w2 x3 w3 x4 w4) (K'))))))) (hv : (b || d) = v) (hk : K (.bool v) w) : Gd (.bool b) false A0 w fun x0 w0 => Gd (.bool b) false (A1 x0 w0) w0 fun x1 w1 => Gd (.bool b) false (A2 x0 w0 x1 w1) w1 fun x2 w2 => Gd (.bool b) false (A3 x0 w0 x1 w1 x2 w2) w2 fun x3 w3 => Gd (.bool b) false (A4 x0 w0 x1 w1 x2 w2 x3 w3) w3 fun x4 w4 => Gd (.bool b) false (A5 x0 w0 x1 w1 x2 w2 x3 w3 x4 w4) w4 fun x5 w5 => Pick (.bool b) (.bool true) x5 w5 K := by
  subst hv
  cases b with
  | true => exact hk
  | false => exact h rfl (fun x w' => Pick (.bool false) (.bool true) x w' K) hk
theorem andg1 {A0 : VW → Prop} (h : b = true → ∀ K' : VW, K' (.bool d) w → A0 (K')) (hv : (b && d) = v) (hk : K (.bool v) w) : Gd (.bool b) true A0 w fun x0 w0 => Gd (.bool true) true (fun k => Pick (.bool b) x0 (.bool false) w0 k) w0 K := and1 (K := K) h hv hk
theorem andh1 {A0 : VW → Prop} (h : b = true → ∀ K' : VW, K' (.bool d) w → A0 (K')) (hv : (b && d) = v) (hk : K (.bool v) w) : Gd (.bool b) true A0 w fun x0 w0 => Gd (.bool false) false (fun k => Pick (.bool b) x0 (.bool false) w0 k) w0 K := and1 (K := K) h hv hk
theorem org1 {A0 : VW → Prop} (h : b = false → ∀ K' : VW, K' (.bool d) w → A0 (K')) (hv : (b || d) = v) (hk : K (.bool v) w) : Gd (.bool b) false A0 w fun x0 w0 => Gd (.bool true) true (fun k => Pick (.bool b) (.bool true) x0 w0 k) w0 K := or1 (K := K) h hv hk
theorem orh1 {A0 : VW → Prop} (h : b = false → ∀ K' : VW, K' (.bool d) w → A0 (K')) (hv : (b || d) = v) (hk : K (.bool v) w) : Gd (.bool b) false A0 w fun x0 w0 => Gd (.bool false) false (fun k => Pick (.bool b) (.bool true) x0 w0 k) w0 K := or1 (K := K) h hv hk
theorem andg2 {A0 : VW → Prop} {A1 : Value → World → VW → Prop} (h : b = true → ∀ K' : VW, K' (.bool d) w → A0 (fun x0 w0 => (A1 x0 w0) (K'))) (hv : (b && d) = v) (hk : K (.bool v) w) : Gd (.bool b) true A0 w fun x0 w0 => Gd (.bool b) true (A1 x0 w0) w0 fun x1 w1 => Gd (.bool true) true (fun k => Pick (.bool b) x1 (.bool false) w1 k) w1 K := and2 (K := K) h hv hk
theorem andh2 {A0 : VW → Prop} {A1 : Value → World → VW → Prop} (h : b = true → ∀ K' : VW, K' (.bool d) w → A0 (fun x0 w0 => (A1 x0 w0) (K'))) (hv : (b && d) = v) (hk : K (.bool v) w) : Gd (.bool b) true A0 w fun x0 w0 => Gd (.bool b) true (A1 x0 w0) w0 fun x1 w1 => Gd (.bool false) false (fun k => Pick (.bool b) x1 (.bool false) w1 k) w1 K := and2 (K := K) h hv hk
theorem org2 {A0 : VW → Prop} {A1 : Value → World → VW → Prop} (h : b = false → ∀ K' : VW, K' (.bool d) w → A0 (fun x0 w0 => (A1 x0 w0) (K'))) (hv : (b || d) = v) (hk : K (.bool v) w) : Gd (.bool b) false A0 w fun x0 w0 => Gd (.bool b) false (A1 x0 w0) w0 fun x1 w1 => Gd (.bool true) true (fun k => Pick (.bool b) (.bool true) x1 w1 k) w1 K := or2 (K := K) h hv hk
theorem orh2 {A0 : VW → Prop} {A1 : Value → World → VW → Prop} (h : b = false → ∀ K' : VW, K' (.bool d) w → A0 (fun x0 w0 => (A1 x0 w0) (K'))) (hv : (b || d) = v) (hk : K (.bool v) w) : Gd (.bool b) false A0 w fun x0 w0 => Gd (.bool b) false (A1 x0 w0) w0 fun x1 w1 => Gd (.bool false) false (fun k => Pick (.bool b) (.bool true) x1 w1 k) w1 K := or2 (K := K) h hv hk
theorem andg3 {A0 : VW → Prop} {A1 : Value → World → VW → Prop} {A2 : Value → World → Value → World → VW → Prop} (h : b = true → ∀ K' : VW, K' (.bool d) w → A0 (fun x0 w0 => (A1 x0 w0) (fun x1 w1 => (A2 x0 w0 x1 w1) (K')))) (hv : (b && d) = v) (hk : K (.bool v) w) : Gd (.bool b) true A0 w fun x0 w0 => Gd (.bool b) true (A1 x0 w0) w0 fun x1 w1 => Gd (.bool b) true (A2 x0 w0 x1 w1) w1 fun x2 w2 => Gd (.bool true) true (fun k => Pick (.bool b) x2 (.bool false) w2 k) w2 K := and3 (K := K) h hv hk
theorem andh3 {A0 : VW → Prop} {A1 : Value → World → VW → Prop} {A2 : Value → World → Value → World → VW → Prop} (h : b = true → ∀ K' : VW, K' (.bool d) w → A0 (fun x0 w0 => (A1 x0 w0) (fun x1 w1 => (A2 x0 w0 x1 w1) (K')))) (hv : (b && d) = v) (hk : K (.bool v) w) : Gd (.bool b) true A0 w fun x0 w0 => Gd (.bool b) true (A1 x0 w0) w0 fun x1 w1 => Gd (.bool b) true (A2 x0 w0 x1 w1) w1 fun x2 w2 => Gd (.bool false) false (fun k => Pick (.bool b) x2 (.bool false) w2 k) w2 K := and3 (K := K) h hv hk
theorem org3 {A0 : VW → Prop} {A1 : Value → World → VW → Prop} {A2 : Value → World → Value → World → VW → Prop} (h : b = false → ∀ K' : VW, K' (.bool d) w → A0 (fun x0 w0 => (A1 x0 w0) (fun x1 w1 => (A2 x0 w0 x1 w1) (K')))) (hv : (b || d) = v) (hk : K (.bool v) w) : Gd (.bool b) false A0 w fun x0 w0 => Gd (.bool b) false (A1 x0 w0) w0 fun x1 w1 => Gd (.bool b) false (A2 x0 w0 x1 w1) w1 fun x2 w2 => Gd (.bool true) true (fun k => Pick (.bool b) (.bool true) x2 w2 k) w2 K := or3 (K := K) h hv hk
theorem orh3 {A0 : VW → Prop} {A1 : Value → World → VW → Prop} {A2 : Value → World → Value → World → VW → Prop} (h : b = false → ∀ K' : VW, K' (.bool d) w → A0 (fun x0 w0 => (A1 x0 w0) (fun x1 w1 => (A2 x0 w0 x1 w1) (K')))) (hv : (b || d) = v) (hk : K (.bool v) w) : Gd (.bool b) false A0 w fun x0 w0 => Gd (.bool b) false (A1 x0 w0) w0 fun x1 w1 => Gd (.bool b) false (A2 x0 w0 x1 w1) w1 fun x2 w2 => Gd (.bool false) false (fun k => Pick (.bool b) (.bool true) x2 w2 k) w2 K := or3 (K := K) h hv hk
theorem andg4 {A0 : VW → Prop} {A1 : Value → World → VW → Prop} {A2 : Value → World → Value → World → VW → Prop} {A3 : Value → World → Value → World → Value → World → VW → Prop} (h : b = true → ∀ K' : VW, K' (.bool d) w → A0 (fun x0 w0 => (A1 x0 w0) (fun x1 w1 => (A2 x0 w0 x1 w1) (fun x2 w2 => (A3 x0 w0 x1 w1 x2 w2) (K'))))) (hv : (b && d) = v) (hk : K (.bool v) w) : Gd (.bool b) true A0 w fun x0 w0 => Gd (.bool b) true (A1 x0 w0) w0 fun x1 w1 => Gd (.bool b) true (A2 x0 w0 x1 w1) w1 fun x2 w2 => Gd (.bool b) true (A3 x0 w0 x1 w1 x2 w2) w2 fun x3 w3 => Gd (.bool true) true (fun k => Pick (.bool b) x3 (.bool false) w3 k) w3 K := and4 (K := K) h hv hk
theorem andh4 {A0 : VW → Prop} {A1 : Value → World → VW → Prop} {A2 : Value → World → Value → World → VW → Prop} {A3 : Value → World → Value → World → Value → World → VW → Prop} (h : b = true → ∀ K' : VW, K' (.bool d) w → A0 (fun x0 w0 => (A1 x0 w0) (fun x1 w1 => (A2 x0 w0 x1 w1) (fun x2 w2 => (A3 x0 w0 x1 w1 x2 w2) (K'))))) (hv : (b && d) = v) (hk : K (.bool v) w) : Gd (.bool b) true A0 w fun x0 w0 => Gd (.bool b) true (A1 x0 w0) w0 fun x1 w1 => Gd (.bool b) true (A2 x0 w0 x1 w1) w1 fun x2 w2 => Gd (.bool b) true (A3 x0 w0 x1 w1 x2 w2) w2 fun x3 w3 => Gd (.bool false) false (fun k => Pick (.bool b) x3 (.bool false) w3 k) w3 K := and4 (K := K) h hv hk
theorem org4 {A0 : VW → Prop} {A1 : Value → World → VW → Prop} {A2 : Value → World → Value → World → VW → Prop} {A3 : Value → World → Value → World → Value → World → VW → Prop} (h : b = false → ∀ K' : VW, K' (.bool d) w → A0 (fun x0 w0 => (A1 x0 w0) (fun x1 w1 => (A2 x0 w0 x1 w1) (fun x2 w2 => (A3 x0 w0 x1 w1 x2 w2) (K'))))) (hv : (b || d) = v) (hk : K (.bool v) w) : Gd (.bool b) false A0 w fun x0 w0 => Gd (.bool b) false (A1 x0 w0) w0 fun x1 w1 => Gd (.bool b) false (A2 x0 w0 x1 w1) w1 fun x2 w2 => Gd (.bool b) false (A3 x0 w0 x1 w1 x2 w2) w2 fun x3 w3 => Gd (.bool true) true (fun k => Pick (.bool b) (.bool true) x3 w3 k) w3 K := or4 (K := K) h hv hk
theorem orh4 {A0 : VW → Prop} {A1 : Value → World → VW → Prop} {A2 : Value → World → Value → World → VW → Prop} {A3 : Value → World → Value → World → Value → World → VW → Prop} (h : b = false → ∀ K' : VW, K' (.bool d) w → A0 (fun x0 w0 => (A1 x0 w0) (fun x1 w1 => (A2 x0 w0 x1 w1) (fun x2 w2 => (A3 x0 w0 x1 w1 x2 w2) (K'))))) (hv : (b || d) = v) (hk : K (.bool v) w) : Gd (.bool b) false A0 w fun x0 w0 => Gd (.bool b) false (A1 x0 w0) w0 fun x1 w1 => Gd (.bool b) false (A2 x0 w0 x1 w1) w1 fun x2 w2 => Gd (.bool b) false (A3 x0 w0 x1 w1 x2 w2) w2 fun x3 w3 => Gd (.bool false) false (fun k => Pick (.bool b) (.bool true) x3 w3 k) w3 K := or4 (K := K) h hv hk
theorem andg5 {A0 : VW → Prop} {A1 : Value → World → VW → Prop} {A2 : Value → World → Value → World → VW → Prop} {A3 : Value → World → Value → World → Value → World → VW → Prop} {A4 : Value → World → Value → World → Value → World → Value → World → VW → Prop} (h : b = true → ∀ K' : VW, K' (.bool d) w → A0 (fun x0 w0 => (A1 x0 w0) (fun x1 w1 => (A2 x0 w0 x1 w1) (fun x2 w2 => (A3 x0 w0 x1 w1 x2 w2) (fun x3 w3 => (A4 x0 w0 x1 w1 x2 w2 x3 w3) (K')))))) (hv : (b && d) = v) (hk : K (.bool v) w) : Gd (.bool b) true A0 w fun x0 w0 => Gd (.bool b) true (A1 x0 w0) w0 fun x1 w1 => Gd (.bool b) true (A2 x0 w0 x1 w1) w1 fun x2 w2 => Gd (.bool b) true (A3 x0 w0 x1 w1 x2 w2) w2 fun x3 w3 => Gd (.bool b) true (A4 x0 w0 x1 w1 x2 w2 x3 w3) w3 fun x4 w4 => Gd (.bool true) true (fun k => Pick (.bool b) x4 (.bool false) w4 k) w4 K := and5 (K := K) h hv hk
theorem andh5 {A0 : VW → Prop} {A1 : Value → World → VW → Prop} {A2 : Value → World → Value → World → VW → Prop} {A3 : Value → World → Value → World → Value → World → VW → Prop} {A4 : Value → World → Value → World → Value → World → Value → World → VW → Prop} (h : b = true → ∀ K' : VW, K' (.bool d) w → A0 (fun x0 w0 => (A1 x0 w0) (fun x1 w1 => (A2 x0 w0 x1 w1) (fun x2 w2 => (A3 x0 w0 x1 w1 x2 w2) (fun x3 w3 => (A4 x0 w0 x1 w1 x2 w2 x3 w3) (K')))))) (hv : (b && d) = v) (hk : K (.bool v) w) : Gd (.bool b) true A0 w fun x0 w0 => Gd (.bool b) true (A1 x0 w0) w0 fun x1 w1 => Gd (.bool b) true (A2 x0 w0 x1 w1) w1 fun x2 w2 => Gd (.bool b) true (A3 x0 w0 x1 w1 x2 w2) w2 fun x3 w3 => Gd (.bool b) true (A4 x0 w0 x1 w1 x2 w2 x3 w3) w3 fun x4 w4 => Gd (.bool false) false (fun k => Pick (.bool b) x4 (.bool false) w4 k) w4 K := and5 (K := K) h hv hk
theorem org5 {A0 : VW → Prop} {A1 : Value → World → VW → Prop} {A2 : Value → World → Value → World → VW → Prop} {A3 : Value → World → Value → World → Value → World → VW → Prop} {A4 : Value → World → Value → World → Value → World → Value → World → VW → Prop} (h : b = false → ∀ K' : VW, K' (.bool d) w → A0 (fun x0 w0 => (A1 x0 w0) (fun x1 w1 => (A2 x0 w0 x1 w1) (fun x2 w2 => (A3 x0 w0 x1 w1 x2 w2) (fun x3 w3 => (A4 x0 w0 x1 w1 x2 w2 x3 w3) (K')))))) (hv : (b || d) = v) (hk : K (.bool v) w) : Gd (.bool b) false A0 w fun x0 w0 => Gd (.bool b) false (A1 x0 w0) w0 fun x1 w1 => Gd (.bool b) false (A2 x0 w0 x1 w1) w1 fun x2 w2 => Gd (.bool b) false (A3 x0 w0 x1 w1 x2 w2) w2 fun x3 w3 => Gd (.bool b) false (A4 x0 w0 x1 w1 x2 w2 x3 w3) w3 fun x4 w4 => Gd (.bool true) true (fun k => Pick (.bool b) (.bool true) x4 w4 k) w4 K := or5 (K := K) h hv hk
theorem orh5 {A0 : VW → Prop} {A1 : Value → World → VW → Prop} {A2 : Value → World → Value → World → VW → Prop} {A3 : Value → World → Value → World → Value → World → VW → Prop} {A4 : Value → World → Value → World → Value → World → Value → World → VW → Prop} (h : b = false → ∀ K' : VW, K' (.bool d) w → A0 (fun x0 w0 => (A1 x0 w0) (fun x1 w1 => (A2 x0 w0 x1 w1) (fun x2 w2 => (A3 x0 w0 x1 w1 x2 w2) (fun x3 w3 => (A4 x0 w0 x1 w1 x2 w2 x3 w3) (K')))))) (hv : (b || d) = v) (hk : K (.bool v) w) : Gd (.bool b) false A0 w fun x0 w0 => Gd (.bool b) false (A1 x0 w0) w0 fun x1 w1 => Gd (.bool b) false (A2 x0 w0 x1 w1) w1 fun x2 w2 => Gd (.bool b) false (A3 x0 w0 x1 w1 x2 w2) w2 fun x3 w3 => Gd (.bool b) false (A4 x0 w0 x1 w1 x2 w2 x3 w3) w3 fun x4 w4 => Gd (.bool false) false (fun k => Pick (.bool b) (.bool true) x4 w4 k) w4 K := or5 (K := K) h hv hk
theorem andg6 {A0 : VW → Prop} {A1 : Value → World → VW → Prop} {A2 : Value → World → Value → World → VW → Prop} {A3 : Value → World → Value → World → Value → World → VW → Prop} {A4 : Value → World → Value → World → Value → World → Value → World → VW → Prop} {A5 : Value → World → Value → World → Value → World → Value → World → Value → World → VW → Prop} (h : b = true → ∀ K' : VW, K' (.bool d) w → A0 (fun x0 w0 => (A1 x0 w0) (fun x1 w1 => (A2 x0 w0 x1 w1) (fun x2 w2 => (A3 x0 w0 x1 w1 x2 w2) (fun x3 w3 => (A4 x0 w0 x1 w1 x2 w2 x3 w3) (fun x4 w4 => (A5 x0 w0 x1 w1 x2 w2 x3 w3 x4 w4) (K'))))))) (hv : (b && d) = v) (hk : K (.bool v) w) : Gd (.bool b) true A0 w fun x0 w0 => Gd (.bool b) true (A1 x0 w0) w0 fun x1 w1 => Gd (.bool b) true (A2 x0 w0 x1 w1) w1 fun x2 w2 => Gd (.bool b) true (A3 x0 w0 x1 w1 x2 w2) w2 fun x3 w3 => Gd (.bool b) true (A4 x0 w0 x1 w1 x2 w2 x3 w3) w3 fun x4 w4 => Gd (.bool b) true (A5 x0 w0 x1 w1 x2 w2 x3 w3 x4 w4) w4 fun x5 w5 => Gd (.bool true) true (fun k => Pick (.bool b) x5 (.bool false) w5 k) w5 K := and6 (K := K) h hv hk
theorem andh6 {A0 : VW → Prop} {A1 : Value → World → VW → Prop} {A2 : Value → World → Value → World → VW → Prop} {A3 : Value → World → Value → World → Value → World → VW → Prop} {A4 : Value → World → Value → World → Value → World → Value → World → VW → Prop} {A5 : Value → World → Value → World → Value → World → Value → World → Value → World → VW → Prop} (h : b = true → ∀ K' : VW, K' (.bool d) w → A0 (fun x0 w0 => (A1 x0 w0) (fun x1 w1 => (A2 x0 w0 x1 w1) (fun x2 w2 => (A3 x0 w0 x1 w1 x2 w2) (fun x3 w3 => (A4 x0 w0 x1 w1 x2 w2 x3 w3) (fun x4 w4 => (A5 x0 w0 x1 w1 x2 w2 x3 w3 x4 w4) (K'))))))) (hv : (b && d) = v) (hk : K (.bool v) w) : Gd (.bool b) true A0 w fun x0 w0 => Gd (.bool b) true (A1 x0 w0) w0 fun x1 w1 => Gd (.bool b) true (A2 x0 w0 x1 w1) w1 fun x2 w2 => Gd (.bool b) true (A3 x0 w0 x1 w1 x2 w2) w2 fun x3 w3 => Gd (.bool b) true (A4 x0 w0 x1 w1 x2 w2 x3 w3) w3 fun x4 w4 => Gd (.bool b) true (A5 x0 w0 x1 w1 x2 w2 x3 w3 x4 w4) w4 fun x5 w5 => Gd (.bool false) false (fun k => Pick (.bool b) x5 (.bool false) w5 k) w5 K := and6 (K := K) h hv hk
theorem org6 {A0 : VW → Prop} {A1 : Value → World → VW → Prop} {A2 : Value → World → Value → World → VW → Prop} {A3 : Value → World → Value → World → Value → World → VW → Prop} {A4 : Value → World → Value → World → Value → World → Value → World → VW → Prop} {A5 : Value → World → Value → World → Value → World → Value → World → Value → World → VW → Prop} (h : b = false → ∀ K' : VW, K' (.bool d) w → A0 (fun x0 w0 => (A1 x0 w0) (fun x1 w1 => (A2 x0 w0 x1 w1) (fun x2 w2 => (A3 x0 w0 x1 w1 x2 w2) (fun x3 w3 => (A4 x0 w0 x1 w1 x2 w2 x3 w3) (fun x4 w4 => (A5 x0 w0 x1 w1 x2 w2 x3 w3 x4 w4) (K'))))))) (hv : (b || d) = v) (hk : K (.bool v) w) : Gd (.bool b) false A0 w fun x0 w0 => Gd (.bool b) false (A1 x0 w0) w0 fun x1 w1 => Gd (.bool b) false (A2 x0 w0 x1 w1) w1 fun x2 w2 => Gd (.bool b) false (A3 x0 w0 x1 w1 x2 w2) w2 fun x3 w3 => Gd (.bool b) false (A4 x0 w0 x1 w1 x2 w2 x3 w3) w3 fun x4 w4 => Gd (.bool b) false (A5 x0 w0 x1 w1 x2 w2 x3 w3 x4 w4) w4 fun x5 w5 => Gd (.bool true) true (fun k => Pick (.bool b) (.bool true) x5 w5 k) w5 K := or6 (K := K) h hv hk
theorem orh6 {A0 : VW → Prop} {A1 : Value → World → VW → Prop} {A2 : Value → World → Value → World → VW → Prop} {A3 : Value → World → Value → World → Value → World → VW → Prop} {A4 : Value → World → Value → World → Value → World → Value → World → VW → Prop} {A5 : Value → World → Value → World → Value → World → Value → World → Value → World → VW → Prop} (h : b = false → ∀ K' : VW, K' (.bool d) w → A0 (fun x0 w0 => (A1 x0 w0) (fun x1 w1 => (A2 x0 w0 x1 w1) (fun x2 w2 => (A3 x0 w0 x1 w1 x2 w2) (fun x3 w3 => (A4 x0 w0 x1 w1 x2 w2 x3 w3) (fun x4 w4 => (A5 x0 w0 x1 w1 x2 w2 x3 w3 x4 w4) (K'))))))) (hv : (b || d) = v) (hk : K (.bool v) w) : Gd (.bool b) false A0 w fun x0 w0 => Gd (.bool b) false (A1 x0 w0) w0 fun x1 w1 => Gd (.bool b) false (A2 x0 w0 x1 w1) w1 fun x2 w2 => Gd (.bool b) false (A3 x0 w0 x1 w1 x2 w2) w2 fun x3 w3 => Gd (.bool b) false (A4 x0 w0 x1 w1 x2 w2 x3 w3) w3 fun x4 w4 => Gd (.bool b) false (A5 x0 w0 x1 w1 x2 w2 x3 w3 x4 w4) w4 fun x5 w5 => Gd (.bool false) false (fun k => Pick (.bool b) (.bool true) x5 w5 k) w5 K := or6 (K := K) h hv hk
theorem eqD {x y : Int} (hv : decide (x = y) = v) (hk : K (.bool v) w) : Bn P .eql t c (.int k x) (.int k y) w K := by
  subst hv
  by_cases h : x = y
  · rw [decide_eq_true h] at hk; exact Bn_eqT (by omega) hk
  · rw [decide_eq_false h] at hk; exact Bn_eqF (by omega) hk
theorem deqD {x y : Int} (hv : decide (x = y) = v) (hk : KP (.bool v)) : Dv P wi (bn .eql t c (.int k x) (.int k y)) w KP := by
  subst hv
  by_cases h : x = y
  · rw [decide_eq_true h] at hk; exact Dv_eqT (by omega) hk
  · rw [decide_eq_false h] at hk; exact Dv_eqF (by omega) hk
theorem neD {x y : Int} (hv : decide (x ≠ y) = v) (hk : K (.bool v) w) : Bn P .neq t c (.int k x) (.int k y) w K := by
  subst hv
  by_cases h : x ≠ y
  · rw [decide_eq_true h] at hk; exact Bn_neT (by omega) hk
  · rw [decide_eq_false h] at hk; exact Bn_neF (by omega) hk
theorem dneD {x y : Int} (hv : decide (x ≠ y) = v) (hk : KP (.bool v)) : Dv P wi (bn .neq t c (.int k x) (.int k y)) w KP := by
  subst hv
  by_cases h : x ≠ y
  · rw [decide_eq_true h] at hk; exact Dv_neT (by omega) hk
  · rw [decide_eq_false h] at hk; exact Dv_neF (by omega) hk
theorem ltD {x y : Int} (hv : decide (x < y) = v) (hk : K (.bool v) w) : Bn P .lss t c (.int k x) (.int k y) w K := by
  subst hv
  by_cases h : x < y
  · rw [decide_eq_true h] at hk; exact Bn_ltT (by omega) hk
  · rw [decide_eq_false h] at hk; exact Bn_ltF (by omega) hk
theorem dltD {x y : Int} (hv : decide (x < y) = v) (hk : KP (.bool v)) : Dv P wi (bn .lss t c (.int k x) (.int k y)) w KP := by
  subst hv
  by_cases h : x < y
  · rw [decide_eq_true h] at hk; exact Dv_ltT (by omega) hk
  · rw [decide_eq_false h] at hk; exact Dv_ltF (by omega) hk
theorem gtD {x y : Int} (hv : decide (y < x) = v) (hk : K (.bool v) w) : Bn P .gtr t c (.int k x) (.int k y) w K := by
  subst hv
  by_cases h : y < x
  · rw [decide_eq_true h] at hk; exact Bn_gtT (by omega) hk
  · rw [decide_eq_false h] at hk; exact Bn_gtF (by omega) hk
theorem dgtD {x y : Int} (hv : decide (y < x) = v) (hk : KP (.bool v)) : Dv P wi (bn .gtr t c (.int k x) (.int k y)) w KP := by
  subst hv
  by_cases h : y < x
  · rw [decide_eq_true h] at hk; exact Dv_gtT (by omega) hk
  · rw [decide_eq_false h] at hk; exact Dv_gtF (by omega) hk
theorem leD {x y : Int} (hv : decide (x ≤ y) = v) (hk : K (.bool v) w) : Bn P .leq t c (.int k x) (.int k y) w K := by
  subst hv
  by_cases h : x ≤ y
  · rw [decide_eq_true h] at hk; exact Bn_leT (by omega) hk
  · rw [decide_eq_false h] at hk; exact Bn_leF (by omega) hk
theorem dleD {x y : Int} (hv : decide (x ≤ y) = v) (hk : KP (.bool v)) : Dv P wi (bn .leq t c (.int k x) (.int k y)) w KP := by
  subst hv
  by_cases h : x ≤ y
  · rw [decide_eq_true h] at hk; exact Dv_leT (by omega) hk
  · rw [decide_eq_false h] at hk; exact Dv_leF (by omega) hk
theorem geD {x y : Int} (hv : decide (y ≤ x) = v) (hk : K (.bool v) w) : Bn P .geq t c (.int k x) (.int k y) w K := by
  subst hv
  by_cases h : y ≤ x
  · rw [decide_eq_true h] at hk; exact Bn_geT (by omega) hk
  · rw [decide_eq_false h] at hk; exact Bn_geF (by omega) hk
theorem dgeD {x y : Int} (hv : decide (y ≤ x) = v) (hk : KP (.bool v)) : Dv P wi (bn .geq t c (.int k x) (.int k y)) w KP := by
  subst hv
  by_cases h : y ≤ x
  · rw [decide_eq_true h] at hk; exact Dv_geT (by omega) hk
  · rw [decide_eq_false h] at hk; exact Dv_geF (by omega) hk
theorem notD (hv : (!b) = v) (hk : K (.bool v) w) : Un P .not (.bool b) w K := by
  subst hv
  cases b <;> ((try simp -dsimp [go_sem]); repeat (simp -dsimp (disch := omega) only [gL, it_t, it_f, dit_t, dit_f]; try simp -dsimp [go_sem])) <;> exact hk
theorem IfSF {A B : Prop} (h : b = false) (hB : B) : If (.bool b) A B := by subst h; exact hB
theorem IfST {A B : Prop} (h : b = true) (hA : A) : If (.bool b) A B := by subst h; exact hA
end
end Go.Eng
