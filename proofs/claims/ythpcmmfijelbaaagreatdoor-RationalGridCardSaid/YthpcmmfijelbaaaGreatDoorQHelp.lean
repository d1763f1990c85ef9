/-
  Contracts of functions of the program, and plain lemmas on numbers and strings. By an AI agent.
-/
import Derived.Test.YthpcmmfijelbaaaGreatDoorQLow
set_option linter.unusedSimpArgs false
set_option linter.unusedVariables false
set_option linter.unusedSectionVars false
namespace Go.Proofs.YthpcmmfijelbaaaGreatDoor
open Go Go.Eng Go.Proofs Go.Num Go.RowKit
set_option maxRecDepth 100000
set_option linter.unusedVariables false
set_option linter.unusedSectionVars false
theorem rbad_e : rBad.2.2 = 40 := rfl
theorem ok_rq (x : Rat) : (rQ x).2.2 = 0 := rfl
theorem add_okE {x y : Rat} (h : (addQ x y).2.2 = 0) : addQ x y = rQ (x + y) ∧ RB (x + y) := by
  rcases add_cases x y with e | e
  · rw [e] at h; cases h
  · exact e
theorem sub_okE {x y : Rat} (h : (subQ x y).2.2 = 0) : subQ x y = rQ (x - y) ∧ RB (x - y) := by
  rcases sub_cases x y with e | e
  · rw [e] at h; cases h
  · exact e
theorem mul_okE {x y : Rat} (h : (mulQ x y).2.2 = 0) : mulQ x y = rQ (x * y) ∧ RB (x * y) := by
  rcases mul_cases x y with e | e
  · rw [e] at h; cases h
  · exact e
theorem div_okE {x y : Rat} (h : (divQ x y).2.2 = 0) : divQ x y = rQ (x / y) ∧ RB (x / y) ∧ y ≠ 0 := by
  rcases div_cases x y with e | e
  · rw [e] at h; cases h
  · exact e
theorem addQ_comm (x y : Rat) : addQ x y = addQ y x := by
  unfold addQ
  have h : sumOk (fun a b => a + b) x y ↔ sumOk (fun a b => a + b) y x := by
    unfold sumOk
    constructor
    · rintro ⟨⟨h1, h2⟩, h3, h4⟩
      refine ⟨⟨h2, h1⟩, ?_, by rw [Int.mul_comm]; exact h4⟩
      show (y.num * (x.den : Int) + x.num * (y.den : Int)).natAbs < MaxI
      rw [Int.add_comm]; exact h3
    · rintro ⟨⟨h1, h2⟩, h3, h4⟩
      refine ⟨⟨h2, h1⟩, ?_, by rw [Int.mul_comm]; exact h4⟩
      show (x.num * (y.den : Int) + y.num * (x.den : Int)).natAbs < MaxI
      rw [Int.add_comm]; exact h3
  by_cases k : sumOk (fun a b => a + b) x y
  · rw [if_pos k, if_pos (h.1 k), Rat.add_comm]
  · rw [if_neg k, if_neg (fun q => k (h.2 q))]
theorem mulQ_comm (x y : Rat) : mulQ x y = mulQ y x := by
  unfold mulQ
  have h : muOk x y ↔ muOk y x := by
    unfold muOk
    rw [Int.mul_comm x.num, Int.mul_comm (x.den : Int)]
  by_cases k : muOk x y
  · rw [if_pos k, if_pos (h.1 k), Rat.mul_comm]
  · rw [if_neg k, if_neg (fun q => k (h.2 q))]
theorem onQ2 {α : Type} {f : Rat → Rat → α} {u : α} {t : R3} {x y : Rat} (h : t = rQ x) (hx : RB x) (hy : RB y) : ans2 f u t.1 t.2.1 (Lib.itoa y.num) (Lib.itoa (y.den : Int)) = f x y := by
  subst h; exact ans2_ok hx hy
theorem onQ1 {α : Type} {f : Rat → Rat → α} {u : α} {t : R3} {x y : Rat} (h : t = rQ y) (hx : RB x) (hy : RB y) : ans2 f u (Lib.itoa x.num) (Lib.itoa (x.den : Int)) t.1 t.2.1 = f x y := by
  subst h; exact ans2_ok hx hy
theorem onQ12 {α : Type} {f : Rat → Rat → α} {u : α} {t s : R3} {x y : Rat} (h : t = rQ x) (k : s = rQ y) (hx : RB x) (hy : RB y) : ans2 f u t.1 t.2.1 s.1 s.2.1 = f x y := by
  subst h; subst k; exact ans2_ok hx hy
def Short (t : R3) : Prop := t.1.length ≤ 1000000 ∧ t.2.1.length ≤ 1000000
theorem short_bad : Short rBad := ⟨by decide, by decide⟩
theorem short_q {x : Rat} (h : RB x) : Short (rQ x) := rb_len h
theorem short_add (x y : Rat) : Short (addQ x y) := by
  rcases add_cases x y with e | ⟨e, h⟩ <;> rw [e]
  · exact short_bad
  · exact short_q h
theorem short_sub (x y : Rat) : Short (subQ x y) := by
  rcases sub_cases x y with e | ⟨e, h⟩ <;> rw [e]
  · exact short_bad
  · exact short_q h
theorem short_mul (x y : Rat) : Short (mulQ x y) := by
  rcases mul_cases x y with e | ⟨e, h⟩ <;> rw [e]
  · exact short_bad
  · exact short_q h
theorem short_div (x y : Rat) : Short (divQ x y) := by
  rcases div_cases x y with e | ⟨e, h, _⟩ <;> rw [e]
  · exact short_bad
  · exact short_q h
theorem short_ans {f : Rat → Rat → R3} (hf : ∀ x y, Short (f x y)) (n d m c : List UInt8) : Short (ans2 f rBad n d m c) := by
  by_cases h : okR n d ∧ okR m c
  · obtain ⟨⟨x, rfl, rfl, hx⟩, ⟨y, rfl, rfl, hy⟩⟩ := h
    rw [ans2_ok hx hy]; exact hf x y
  · rw [ans2_bad h]; exact short_bad
structure FieldF (x y z : Rat) (A B M D S0 S2 BC0 BC2 AB0 one two left ac sum whole back again : R3) : Prop where
  c0 : A = S0
  c2 : M = S2
  sa : A.2.2 = 0 → BC0.2.2 = 0 → AB0.2.2 = 0 → one.2.2 = 0 → AB0.1 = one.1 ∧ AB0.2.1 = one.2.1
  am : M.2.2 = 0 → BC2.2.2 = 0 → two.2.2 = 0 → left.2.2 = 0 → two.1 = left.1 ∧ two.2.1 = left.2.1
  ds : A.2.2 = 0 → ac.2.2 = 0 → BC2.2.2 = 0 → sum.2.2 = 0 → whole.2.2 = 0 → sum.1 = whole.1 ∧ sum.2.1 = whole.2.1
  bk : A.2.2 = 0 → back.2.2 = 0 → back.1 = Lib.itoa x.num ∧ back.2.1 = Lib.itoa (x.den : Int)
  ag : D.2.2 = 0 → again.2.2 = 0 → again.1 = Lib.itoa x.num ∧ again.2.1 = Lib.itoa (x.den : Int)
theorem fieldF {x y z : Rat} (hx : RB x) (hy : RB y) (hz : RB z) {A B M D S0 S2 BC0 BC2 AB0 one two left ac sum whole back again : R3}
    (eA : A = addQ x y) (eM : M = mulQ x y) (eD : D = divQ x y) (eS0 : S0 = addQ y x) (eS2 : S2 = mulQ y x) (eBC0 : BC0 = addQ y z) (eBC2 : BC2 = mulQ y z)
    (eAB0 : AB0 = ans2 addQ rBad A.1 A.2.1 (Lib.itoa z.num) (Lib.itoa (z.den : Int))) (eone : one = ans2 addQ rBad (Lib.itoa x.num) (Lib.itoa (x.den : Int)) BC0.1 BC0.2.1)
    (etwo : two = ans2 mulQ rBad (Lib.itoa x.num) (Lib.itoa (x.den : Int)) BC2.1 BC2.2.1) (eleft : left = ans2 mulQ rBad M.1 M.2.1 (Lib.itoa z.num) (Lib.itoa (z.den : Int)))
    (eac : ac = mulQ x z) (esum : sum = ans2 addQ rBad ac.1 ac.2.1 BC2.1 BC2.2.1) (ewhole : whole = ans2 mulQ rBad A.1 A.2.1 (Lib.itoa z.num) (Lib.itoa (z.den : Int)))
    (eback : back = ans2 subQ rBad A.1 A.2.1 (Lib.itoa y.num) (Lib.itoa (y.den : Int))) (eagain : again = ans2 mulQ rBad D.1 D.2.1 (Lib.itoa y.num) (Lib.itoa (y.den : Int))) :
    FieldF x y z A B M D S0 S2 BC0 BC2 AB0 one two left ac sum whole back again := by
  have pair : ∀ {s t : R3} {u v : Rat}, s = rQ u → t = rQ v → u = v → s.1 = t.1 ∧ s.2.1 = t.2.1 := by
    rintro s t u v rfl rfl rfl; exact ⟨rfl, rfl⟩
  refine ⟨by rw [eA, eS0, addQ_comm], by rw [eM, eS2, mulQ_comm], ?_, ?_, ?_, ?_, ?_⟩
  · intro h1 h2 h3 h4
    rw [eA] at h1; rw [eBC0] at h2
    obtain ⟨a1, a2⟩ := add_okE h1
    obtain ⟨b1, b2⟩ := add_okE h2
    rw [onQ2 (eA.trans a1) a2 hz] at eAB0
    rw [onQ1 (eBC0.trans b1) hx b2] at eone
    rw [eAB0] at h3; rw [eone] at h4
    exact pair (eAB0.trans (add_okE h3).1) (eone.trans (add_okE h4).1) (Rat.add_assoc _ _ _)
  · intro h1 h2 h3 h4
    rw [eM] at h1; rw [eBC2] at h2
    obtain ⟨a1, a2⟩ := mul_okE h1
    obtain ⟨b1, b2⟩ := mul_okE h2
    rw [onQ1 (eBC2.trans b1) hx b2] at etwo
    rw [onQ2 (eM.trans a1) a2 hz] at eleft
    rw [etwo] at h3; rw [eleft] at h4
    exact pair (etwo.trans (mul_okE h3).1) (eleft.trans (mul_okE h4).1) (Rat.mul_assoc _ _ _).symm
  · intro h1 h2 h3 h4 h5
    rw [eA] at h1; rw [eac] at h2; rw [eBC2] at h3
    obtain ⟨a1, a2⟩ := add_okE h1
    obtain ⟨b1, b2⟩ := mul_okE h2
    obtain ⟨c1, c2⟩ := mul_okE h3
    rw [onQ12 (eac.trans b1) (eBC2.trans c1) b2 c2] at esum
    rw [onQ2 (eA.trans a1) a2 hz] at ewhole
    rw [esum] at h4; rw [ewhole] at h5
    exact pair (esum.trans (add_okE h4).1) (ewhole.trans (mul_okE h5).1) (by grind)
  · intro h1 h2
    rw [eA] at h1
    obtain ⟨a1, a2⟩ := add_okE h1
    rw [onQ2 (eA.trans a1) a2 hy] at eback
    rw [eback] at h2
    exact pair (t := rQ x) (eback.trans (sub_okE h2).1) rfl (by grind)
  · intro h1 h2
    rw [eD] at h1
    obtain ⟨a1, a2, a3⟩ := div_okE h1
    rw [onQ2 (eD.trans a1) a2 hy] at eagain
    rw [eagain] at h2
    exact pair (t := rQ x) (eagain.trans (mul_okE h2).1) rfl (by grind)
end Go.Proofs.YthpcmmfijelbaaaGreatDoor
namespace Go.Proofs.YthpcmmfijelbaaaGreatDoor
open Go Go.Eng Go.Proofs Go.Num Go.RowKit
set_option maxRecDepth 100000
set_option linter.unusedVariables false
set_option linter.unusedSectionVars false
section
variable {w : World} {K : Value → World → Prop} {a b a' b' : List UInt8} {c v : Bool}
theorem qEqD (hv : (a == a' && b == b') = v) (hk : K (.bool v) w) : Bn Tryz.prog .eql tR c (.agg #[str a, str b]) (.agg #[str a', str b']) w K := by
  cases v
  · exact qEqF hv hk
  · exact qEqT hv hk
theorem qNeD (hv : (!(a == a' && b == b')) = v) (hk : K (.bool v) w) : Bn Tryz.prog .neq tR c (.agg #[str a, str b]) (.agg #[str a', str b']) w K := by
  cases v
  · exact qNeF (by revert hv; cases (a == a' && b == b') <;> simp) hk
  · exact qNeT (by revert hv; cases (a == a' && b == b') <;> simp) hk
theorem bdI2 {x y : Int} (hk : K (.agg #[.int .i64 x, .int .i64 y]) w) : Bd Tryz.prog 47 [(0, .int .i64 x), (1, .int .i64 y)] w K := by
  ((try simp -dsimp [go_sem]); repeat (simp -dsimp (disch := omega) only [gL, it_t, it_f, dit_t, dit_f]; try simp -dsimp [go_sem])); exact hk
end
theorem k_four {n d m c : List UInt8} {w : World} {A B M D : R3} (hn : n.length ≤ 1000000 ∧ d.length ≤ 1000000) (hm : m.length ≤ 1000000 ∧ c.length ≤ 1000000) (hA : A = ans2 addQ rBad n d m c) (hB : B = ans2 subQ rBad n d m c) (hM : M = ans2 mulQ rBad n d m c) (hD : D = ans2 divQ rBad n d m c) (hT : Tab w) :
    Calls Tryz.prog 29 #[.agg #[str n, str d], .agg #[str m, str c]] w (Ret fun r w' => Ext w w' ∧ r = .tuple #[.agg #[str A.1, str A.2.1, str B.1, str B.2.1, str M.1, str M.2.1, str D.1, str D.2.1], .agg #[.int .i64 A.2.2, .int .i64 B.2.2, .int .i64 M.2.2, .int .i64 D.2.2]]) := by
  subst hA; subst hB; subst hM; subst hD
  exact c_four hn.1 hn.2 hm.1 hm.2 hT
theorem k_op {f : Rat → Rat → R3} {fn : FuncId} {n d m c : List UInt8} {w : World} {A : R3}
    (hc : ∀ {n d m c : List UInt8} {w : World}, n.length ≤ 1000000 → d.length ≤ 1000000 → m.length ≤ 1000000 → c.length ≤ 1000000 → Tab w → Calls Tryz.prog fn #[.agg #[str n, str d], .agg #[str m, str c]] w (Ret fun r w' => Ext w w' ∧ r = rv (ans2 f rBad n d m c)))
    (hn : n.length ≤ 1000000 ∧ d.length ≤ 1000000) (hm : m.length ≤ 1000000 ∧ c.length ≤ 1000000) (hA : A = ans2 f rBad n d m c) (hT : Tab w) :
    Calls Tryz.prog fn #[.agg #[str n, str d], .agg #[str m, str c]] w (Ret fun r w' => Ext w w' ∧ r = .tuple #[.agg #[str A.1, str A.2.1], .int .i64 A.2.2]) := by
  subst hA
  exact hc hn.1 hn.2 hm.1 hm.2 hT
theorem dec_same (a b a' b' : List UInt8) (h : a = a' ∧ b = b') : (!(a == a' && b == b')) = false := by rw [h.1, h.2]; simp
theorem k_sub {x y : Rat} {w : World} (hx : RB x) (hy : RB y) (hT : Tab w) : Calls Tryz.prog 44 #[fq x, fq y] w (Ret fun r w' => Ext w w' ∧ r = .tuple #[.agg #[str (subQ x y).1, str (subQ x y).2.1], .int .i64 (subQ x y).2.2]) :=
  k_op c_qSub (rb_len hx) (rb_len hy) (ans2_ok hx hy).symm hT
theorem k_add {x y : Rat} {w : World} (hx : RB x) (hy : RB y) (hT : Tab w) : Calls Tryz.prog 27 #[fq x, fq y] w (Ret fun r w' => Ext w w' ∧ r = .tuple #[.agg #[str (addQ x y).1, str (addQ x y).2.1], .int .i64 (addQ x y).2.2]) :=
  k_op c_qAdd (rb_len hx) (rb_len hy) (ans2_ok hx hy).symm hT
theorem k_mul {x y : Rat} {w : World} (hx : RB x) (hy : RB y) (hT : Tab w) : Calls Tryz.prog 25 #[fq x, fq y] w (Ret fun r w' => Ext w w' ∧ r = .tuple #[.agg #[str (mulQ x y).1, str (mulQ x y).2.1], .int .i64 (mulQ x y).2.2]) :=
  k_op c_qMul (rb_len hx) (rb_len hy) (ans2_ok hx hy).symm hT
end Go.Proofs.YthpcmmfijelbaaaGreatDoor
