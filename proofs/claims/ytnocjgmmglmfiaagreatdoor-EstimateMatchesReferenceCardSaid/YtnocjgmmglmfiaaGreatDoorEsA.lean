/-
  Contracts and plain lemmas. By an AI agent.
-/
import Derived.Test.YtnocjgmmglmfiaaGreatDoorQRatC
import Derived.Test.YtnocjgmmglmfiaaGreatDoorQMem
import Derived.Test.YtnocjgmmglmfiaaGreatDoorPlain
set_option linter.unusedSimpArgs false
set_option linter.unusedVariables false
set_option linter.unusedSectionVars false
namespace Go.Proofs.YtnocjgmmglmfiaaGreatDoor
open Go Go.Eng Go.Proofs Go.Num Go.RowKit
set_option maxRecDepth 100000
set_option linter.unusedVariables false
set_option linter.unusedSectionVars false
def eN : Option Rat → List UInt8
  | some x => Lib.itoa x.num
  | none => []
def eD : Option Rat → List UInt8
  | some x => Lib.itoa (x.den : Int)
  | none => []
def eE : Option Rat → Int
  | some _ => 0
  | none => 40
abbrev ov (o : Option Rat) : Value := .agg #[str (eN o), str (eD o)]
abbrev ot (o : Option Rat) : Value := .tuple #[ov o, .int .i64 (eE o)]
def OB (o : Option Rat) : Prop := ∀ x, o = some x → RB x
theorem OB.none : OB none := fun _ h => by cases h
theorem OB.some {x : Rat} (h : RB x) : OB (some x) := fun _ e => by cases e; exact h
theorem OB.get {x : Rat} (h : OB (Option.some x)) : RB x := h x rfl
theorem itoa_ne' (z : Int) : Lib.itoa z ≠ [] := by
  unfold Lib.itoa; split
  · simp
  · exact dec_ne _
theorem ok_nil (d : List UInt8) : ¬ okR [] d := by
  rintro ⟨x, h, _⟩
  exact itoa_ne' x.num h.symm
theorem OB.okR {o : Option Rat} (h : OB o) : okR (eN o) (eD o) ↔ o ≠ .none := by
  cases o with
  | none => exact ⟨fun k => absurd k (ok_nil _), fun k => absurd rfl k⟩
  | some x => exact ⟨fun _ => by simp, fun _ => okR_q.2 h.get⟩
theorem OB.len {o : Option Rat} (h : OB o) : (eN o).length ≤ 1000000 ∧ (eD o).length ≤ 1000000 := by
  cases o with
  | none => exact ⟨by decide, by decide⟩
  | some x => exact ⟨itoa_ok h.get.n, itoa_ok h.get.d⟩
noncomputable def oBin (f : Rat → Rat → R3) (g : Rat → Rat → Rat) (o p : Option Rat) : Option Rat :=
  match o, p with
  | some x, some y => if (f x y).2.2 = 0 then some (g x y) else none
  | _, _ => none
noncomputable abbrev oAdd := oBin addQ (fun x y => x + y)
noncomputable abbrev oSub := oBin subQ (fun x y => x - y)
noncomputable abbrev oMul := oBin mulQ (fun x y => x * y)
noncomputable abbrev oDiv := oBin divQ (fun x y => x / y)
def Fit (f : Rat → Rat → R3) (g : Rat → Rat → Rat) : Prop := ∀ x y, f x y = rBad ∨ (f x y = rQ (g x y) ∧ RB (g x y))
theorem fit_add : Fit addQ (fun x y => x + y) := fun x y => add_cases x y
theorem fit_sub : Fit subQ (fun x y => x - y) := fun x y => sub_cases x y
theorem fit_mul : Fit mulQ (fun x y => x * y) := fun x y => mul_cases x y
theorem fit_div : Fit divQ (fun x y => x / y) := fun x y => (div_cases x y).imp id fun h => ⟨h.1, h.2.1⟩
theorem oBin_B {f : Rat → Rat → R3} {g : Rat → Rat → Rat} (hf : Fit f g) (o p : Option Rat) : OB (oBin f g o p) := by
  cases o with
  | none => exact .none
  | some x =>
    cases p with
    | none => exact .none
    | some y =>
      show OB (if (f x y).2.2 = 0 then some (g x y) else none)
      rcases hf x y with e | ⟨e, r⟩
      · rw [e, if_neg (by decide)]; exact .none
      · rw [e, if_pos (show (rQ (g x y)).2.2 = 0 from rfl)]; exact .some r
theorem oBin_e {f : Rat → Rat → R3} {g : Rat → Rat → Rat} (hf : Fit f g) {o p : Option Rat} (ho : OB o) (hp : OB p) :
    ans2 f rBad (eN o) (eD o) (eN p) (eD p) = (eN (oBin f g o p), eD (oBin f g o p), eE (oBin f g o p)) := by
  cases o with
  | none => exact ans2_bad fun h => ok_nil _ h.1
  | some x =>
    cases p with
    | none => exact ans2_bad fun h => ok_nil _ h.2
    | some y =>
      refine (ans2_ok ho.get hp.get).trans ?_
      show f x y = _
      have e0 : oBin f g (some x) (some y) = if (f x y).2.2 = 0 then some (g x y) else none := rfl
      rw [e0]
      rcases hf x y with e | ⟨e, r⟩
      · rw [e, if_neg (by decide)]; rfl
      · rw [e, if_pos (show (rQ (g x y)).2.2 = 0 from rfl)]; rfl
section
variable {o p : Option Rat} {w : World} (ho : OB o) (hp : OB p)
include ho hp
theorem o_add (hT : Tab w) : Calls Tryz.prog 25 #[ov o, ov p] w (Ret fun r w' => Ext w w' ∧ r = ot (oAdd o p)) := by
  have := c_qAdd (w := w) ho.len.1 ho.len.2 hp.len.1 hp.len.2 hT
  rw [oBin_e fit_add ho hp] at this; exact this
theorem o_sub (hT : Tab w) : Calls Tryz.prog 27 #[ov o, ov p] w (Ret fun r w' => Ext w w' ∧ r = ot (oSub o p)) := by
  have := c_qSub (w := w) ho.len.1 ho.len.2 hp.len.1 hp.len.2 hT
  rw [oBin_e fit_sub ho hp] at this; exact this
theorem o_mul (hT : Tab w) : Calls Tryz.prog 24 #[ov o, ov p] w (Ret fun r w' => Ext w w' ∧ r = ot (oMul o p)) := by
  have := c_qMul (w := w) ho.len.1 ho.len.2 hp.len.1 hp.len.2 hT
  rw [oBin_e fit_mul ho hp] at this; exact this
theorem o_div (hT : Tab w) : Calls Tryz.prog 26 #[ov o, ov p] w (Ret fun r w' => Ext w w' ∧ r = ot (oDiv o p)) := by
  have := c_qDiv (w := w) ho.len.1 ho.len.2 hp.len.1 hp.len.2 hT
  rw [oBin_e fit_div ho hp] at this; exact this
theorem o_fadd : Calls Tryz.prog 71 #[ov o, ov p] w (Ret fun r w' => Ext w w' ∧ r = ot (oAdd o p)) := by
  have := c_fAdd (w := w) ho.len.1 ho.len.2 hp.len.1 hp.len.2
  rw [oBin_e fit_add ho hp] at this; exact this
theorem o_fsub : Calls Tryz.prog 74 #[ov o, ov p] w (Ret fun r w' => Ext w w' ∧ r = ot (oSub o p)) := by
  have := c_fSub (w := w) ho.len.1 ho.len.2 hp.len.1 hp.len.2
  rw [oBin_e fit_sub ho hp] at this; exact this
theorem o_fmul : Calls Tryz.prog 73 #[ov o, ov p] w (Ret fun r w' => Ext w w' ∧ r = ot (oMul o p)) := by
  have := c_fMul (w := w) ho.len.1 ho.len.2 hp.len.1 hp.len.2
  rw [oBin_e fit_mul ho hp] at this; exact this
theorem o_fdiv : Calls Tryz.prog 72 #[ov o, ov p] w (Ret fun r w' => Ext w w' ∧ r = ot (oDiv o p)) := by
  have := c_fDiv (w := w) ho.len.1 ho.len.2 hp.len.1 hp.len.2
  rw [oBin_e fit_div ho hp] at this; exact this
end
section
variable {o : Option Rat} {w : World} (ho : OB o)
include ho
theorem o_valid (hT : Tab w) : Calls Tryz.prog 28 #[ov o] w (Ret fun r w' => Ext w w' ∧ r = .bool o.isSome) := by
  have e : okB (eN o) (eD o) = o.isSome := by
    cases o with
    | none => exact okB_f (ok_nil _)
    | some x => exact okB_t (okR_q.2 ho.get)
  have := c_qValid (w := w) ho.len.1 ho.len.2 hT
  rw [e] at this; exact this
theorem o_fvalid : Calls Tryz.prog 36 #[ov o] w (Ret fun r w' => Ext w w' ∧ r = .bool o.isSome) := by
  have e : okB (eN o) (eD o) = o.isSome := by
    cases o with
    | none => exact okB_f (ok_nil _)
    | some x => exact okB_t (okR_q.2 ho.get)
  have := c_fValid (w := w) ho.len.1 ho.len.2
  rw [e] at this; exact this
end
abbrev Sml (x : Rat) : Prop := SR 99 99 x
theorem Sml.of {D M : Nat} {x : Rat} (h : DR D M x) (hD : 0 < D) (h1 : D < 10 ^ 99) (h2 : M * D < 10 ^ 99) : Sml x := by
  obtain ⟨a, b⟩ := h.num hD
  exact ⟨Nat.lt_of_le_of_lt a h2, Nat.lt_of_le_of_lt b h1⟩
theorem Sml.rb {x : Rat} (h : Sml x) : RB x := SR.rb h (by decide) (by decide)
section
variable {x y : Rat} (hx : Sml x) (hy : Sml y)
include hx hy
theorem oadd_ok : oAdd (some x) (some y) = some (x + y) := by
  show (if (addQ x y).2.2 = 0 then some (x + y) else none) = _
  rw [qadd_ok hx hy (k := 198) (by decide) (by decide) (by decide) (by decide)]; rfl
theorem osub_ok : oSub (some x) (some y) = some (x - y) := by
  show (if (subQ x y).2.2 = 0 then some (x - y) else none) = _
  rw [qsub_ok hx hy (k := 198) (by decide) (by decide) (by decide) (by decide)]; rfl
theorem omul_ok : oMul (some x) (some y) = some (x * y) := by
  show (if (mulQ x y).2.2 = 0 then some (x * y) else none) = _
  rw [qmul_ok hx hy (by decide) (by decide)]; rfl
theorem odiv_ok (h : y ≠ 0) : oDiv (some x) (some y) = some (x / y) := by
  show (if (divQ x y).2.2 = 0 then some (x / y) else none) = _
  rw [qdiv_ok hx hy h (by decide) (by decide)]; rfl
end
noncomputable def oSum (f : El → Option Rat) (l : List El) (a : Option Rat) : Option Rat := l.foldl (fun a e => oAdd a (f e)) a
theorem oSum_cons (f : El → Option Rat) (e : El) (l : List El) (a : Option Rat) : oSum f (e :: l) a = oSum f l (oAdd a (f e)) := rfl
theorem oSum_snoc (f : El → Option Rat) (e : El) (l : List El) (a : Option Rat) : oSum f (l ++ [e]) a = oAdd (oSum f l a) (f e) := by
  unfold oSum; rw [List.foldl_append]; rfl
theorem oSum_B {f : El → Option Rat} : ∀ {l : List El} {a : Option Rat}, OB a → OB (oSum f l a)
  | [], _, h => h
  | e :: l, a, _ => by rw [oSum_cons]; exact oSum_B (oBin_B fit_add _ _)
noncomputable def oE (e : El) : Option Rat := oDiv (some e.1) (some e.2)
noncomputable def oRest (e : El) : Option Rat := oMul (oMul (some e.1) (some e.1)) (oSub (some 1) (some e.2))
noncomputable def oD (e : El) : Option Rat := oDiv (oRest e) (oMul (some e.2) (some e.2))
noncomputable def oV (e : El) : Option Rat := oDiv (oRest e) (some e.2)
theorem oSum_ok {f : El → Option Rat} {t : El → Rat} {D M : Nat} (hD : 0 < D) (h1 : D < 10 ^ 99) :
    ∀ {l : List El} {a : Rat} {A : Nat}, (∀ e ∈ l, f e = some (t e) ∧ DR D M (t e)) → DR D A a → (A + l.length * M) * D < 10 ^ 99 → oSum f l (some a) = some (a + sumR t l)
  | [], a, A, _, _, _ => by
    show some a = some (a + 0)
    rw [Rat.add_zero]
  | e :: l, a, A, h, ha, hb => by
    obtain ⟨e1, e2⟩ := h e (by simp)
    rw [List.length_cons] at hb
    have hl : (A + M) * D ≤ (A + (l.length + 1) * M) * D := Nat.mul_le_mul_right D (by rw [Nat.add_mul]; omega)
    have s1 : Sml a := Sml.of ha hD h1 (Nat.lt_of_le_of_lt (Nat.mul_le_mul_right D (by rw [Nat.add_mul]; omega)) hb)
    have s2 : Sml (t e) := Sml.of e2 hD h1 (Nat.lt_of_le_of_lt (Nat.mul_le_mul_right D (by rw [Nat.add_mul]; omega)) hb)
    rw [oSum_cons, e1, oadd_ok s1 s2, oSum_ok hD h1 (fun x hx => h x (by simp [hx])) (ha.add e2 hD) (by
      have : A + M + l.length * M = A + (l.length + 1) * M := by rw [Nat.add_mul]; omega
      rw [this]; exact hb)]
    rw [sumR, Rat.add_assoc]
noncomputable def oW : Nat → List El → Option Rat → Option Rat
  | _, [], w => w
  | k, e :: l, w => oW (k / 2) l (if k % 2 = 1 then oMul w (some e.2) else oMul w (oSub (some 1) (some e.2)))
theorem oW_B : ∀ {l : List El} {k : Nat} {w : Option Rat}, OB w → OB (oW k l w)
  | [], _, _, h => h
  | e :: l, k, w, _ => by
    unfold oW
    split
    · exact oW_B (oBin_B fit_mul _ _)
    · exact oW_B (oBin_B fit_mul _ _)
theorem pow_mono {D : Nat} (hD : 0 < D) (n : Nat) : 1 ≤ D ^ n := Nat.pow_pos hD
theorem oW_ok {D : Nat} (hD : 0 < D) : ∀ {l : List El} {k : Nat} {w : Rat} {E : Nat}, (∀ e ∈ l, DR D 1 e.2 ∧ DR D 1 (1 - e.2)) → 0 < E → DR E 1 w → E * D ^ l.length < 10 ^ 99 → oW k l (some w) = some (w * wt k l)
  | [], k, w, E, _, _, _, _ => by
    show some w = some (w * 1)
    rw [Rat.mul_one]
  | e :: l, k, w, E, h, hE, hw, hb => by
    obtain ⟨e1, e2⟩ := h e (by simp)
    have hp := pow_mono hD l.length
    rw [List.length_cons, Nat.pow_succ] at hb
    have hb' : E * D * D ^ l.length < 10 ^ 99 := by rw [Nat.mul_assoc, Nat.mul_comm D]; exact hb
    have hED : E * D < 10 ^ 99 := Nat.lt_of_le_of_lt (Nat.le_mul_of_pos_right _ hp) hb'
    have hE1 : E < 10 ^ 99 := Nat.lt_of_le_of_lt (Nat.le_mul_of_pos_right _ hD) hED
    have hD1 : D < 10 ^ 99 := Nat.lt_of_le_of_lt (Nat.le_mul_of_pos_left _ hE) hED
    have sw : Sml w := Sml.of hw hE hE1 (by omega)
    have s1 : Sml (1 : Rat) := ⟨by unfold Sz; decide, by unfold Sz; decide⟩
    have sp : Sml e.2 := Sml.of e1 hD hD1 (by omega)
    have sq : Sml (1 - e.2) := Sml.of e2 hD hD1 (by omega)
    have hn : ∀ x, x ∈ l → DR D 1 x.2 ∧ DR D 1 (1 - x.2) := fun x hx => h x (by simp [hx])
    unfold oW
    rw [osub_ok s1 sp, omul_ok sw sp, omul_ok sw sq]
    have hED0 : 0 < E * D := Nat.mul_pos hE hD
    split
    · next hk =>
      rw [oW_ok hD hn hED0 (hw.mul e1 hE hD) hb', wt, if_pos hk, Rat.mul_assoc]
    · next hk =>
      rw [oW_ok hD hn hED0 (hw.mul e2 hE hD) hb', wt, if_neg hk, Rat.mul_assoc]
noncomputable def oSumN (G : Nat → Option Rat) : Nat → Option Rat
  | 0 => some 0
  | n + 1 => oAdd (oSumN G n) (G n)
theorem oSumN_ok {G : Nat → Option Rat} {g : Nat → Rat} {D M : Nat} (hD : 0 < D) (h1 : D < 10 ^ 99) :
    ∀ {n : Nat}, (∀ k, k < n → G k = some (g k) ∧ DR D M (g k)) → (n * M) * D < 10 ^ 99 → oSumN G n = some (sumN n g)
  | 0, _, _ => rfl
  | n + 1, h, hb => by
    obtain ⟨e1, e2⟩ := h n (by omega)
    have hb' : (n * M) * D < 10 ^ 99 := Nat.lt_of_le_of_lt (Nat.mul_le_mul_right D (Nat.mul_le_mul_right M (by omega))) hb
    have hm : M * D < 10 ^ 99 := Nat.lt_of_le_of_lt (Nat.mul_le_mul_right D (by rw [Nat.add_mul]; omega)) hb
    have i := oSumN_ok hD h1 (fun k hk => h k (by omega)) hb'
    have s1 : Sml (sumN n g) := Sml.of (DR.sumN hD (fun k hk => (h k (by omega)).2)) hD h1 hb'
    have s2 : Sml (g n) := Sml.of e2 hD h1 hm
    show oAdd (oSumN G n) (G n) = _
    rw [i, e1, oadd_ok s1 s2]; rfl
theorem dvd2520 {d : Int} (h0 : 1 ≤ d) (h1 : d ≤ 10) : d.natAbs ∣ 2520 := by
  have : d = 1 ∨ d = 2 ∨ d = 3 ∨ d = 4 ∨ d = 5 ∨ d = 6 ∨ d = 7 ∨ d = 8 ∨ d = 9 ∨ d = 10 := by omega
  rcases this with rfl | rfl | rfl | rfl | rfl | rfl | rfl | rfl | rfl | rfl <;> decide
theorem dvd6 {d : Int} (h0 : 1 ≤ d) (h1 : d ≤ 3) : d.natAbs ∣ 6 := by
  have : d = 1 ∨ d = 2 ∨ d = 3 := by omega
  rcases this with rfl | rfl | rfl <;> decide
structure ME (e : El) : Prop where
  x : DR 360 450 e.1
  p : DR 10080 1 e.2
  q : DR 10080 1 (1 - e.2)
  r : DR 5342931457063200 40 (1 / e.2)
  h0 : 0 < e.2
  h1 : e.2 ≤ 1
theorem ME.of {a b c d : Int} (ha : -30 ≤ a ∧ a ≤ 30) (hb : 1 ≤ b ∧ b ≤ 3) (hc : 1 ≤ c ∧ c ≤ d) (hd : d ≤ 10) : ME ((a : Rat) / b, (c : Rat) / d) := by
  have hd0 : (0 : Rat) < d := by exact_mod_cast (show 0 < d by omega)
  have hc0 : (0 : Rat) < c := by exact_mod_cast (show 0 < c by omega)
  have hcd : (c : Rat) ≤ d := by exact_mod_cast hc.2
  have hp : DR d.natAbs 1 ((c : Rat) / d) := ⟨c, by rw [Int.natAbs_of_nonneg (by omega)], by omega⟩
  have hq : DR d.natAbs 1 (1 - (c : Rat) / d) := ⟨d - c, by rw [Int.natAbs_of_nonneg (by omega), Rat.intCast_sub]; grind, by omega⟩
  have hx : DR 6 30 ((a : Rat) / b) := .of (by omega) (dvd6 hb.1 hb.2) (by decide) (by omega)
  refine ⟨hx.mono (by decide) (by decide) (by decide) (by decide), hp.mono (by omega) (by decide) (Nat.dvd_trans (dvd2520 (by omega) hd) (by decide)) (by decide), hq.mono (by omega) (by decide) (Nat.dvd_trans (dvd2520 (by omega) hd) (by decide)) (by decide), ?_, ?_, ?_⟩
  · have e : (1 : Rat) / ((c : Rat) / d) = (d : Rat) / c := by grind
    show DR 5342931457063200 40 (1 / ((c : Rat) / d))
    rw [e]
    exact .of (by omega) (Nat.dvd_trans (dvd2520 (by omega) (by omega)) (by decide +kernel)) (by decide) (by omega)
  · exact (Rat.lt_div_iff hd0).2 (by grind)
  · show (c : Rat) / d ≤ 1
    refine Rat.not_lt.1 fun h => ?_
    have := (Rat.lt_div_iff hd0).1 h
    grind
section
variable {e : El} (h : ME e)
include h
theorem ME.ne : e.2 ≠ 0 := by have := h.h0; grind
theorem ME.tE : DR 1923455324542752000 18000 (Num.tE e) := by
  have := h.x.mul h.r (by decide) (by decide)
  have h0 := h.ne
  rw [show e.1 * (1 / e.2) = Num.tE e by unfold Num.tE; grind] at this
  exact this
theorem ME.xx : DR 129600 202500 (e.1 * e.1) := h.x.mul h.x (by decide) (by decide)
theorem ME.rest : DR 1306368000 202500 (e.1 * e.1 * (1 - e.2)) := h.xx.mul h.q (by decide) (by decide)
theorem ME.tV : DR 6979834681700738457600000 8100000 (Num.tV e) := by
  have := h.rest.mul h.r (by decide) (by decide)
  have h0 := h.ne
  rw [show e.1 * e.1 * (1 - e.2) * (1 / e.2) = Num.tV e by unfold Num.tV; grind] at this
  exact this
theorem ME.tD : DR 37292778285959583317124187393720320000000 324000000 (Num.tD e) := by
  have := (h.rest.mul h.r (by decide) (by decide)).mul h.r (by decide) (by decide)
  have h0 := h.ne
  rw [show e.1 * e.1 * (1 - e.2) * (1 / e.2) * (1 / e.2) = Num.tD e by unfold Num.tD; grind] at this
  exact this
theorem ME.sx : Sml e.1 := .of h.x (by decide) (by decide +kernel) (by decide +kernel)
theorem ME.sp : Sml e.2 := .of h.p (by decide) (by decide +kernel) (by decide +kernel)
theorem ME.sq : Sml (1 - e.2) := .of h.q (by decide) (by decide +kernel) (by decide +kernel)
omit h in
theorem Sml.one : Sml (1 : Rat) := ⟨by unfold Sz; decide, by unfold Sz; decide⟩
theorem ME.oE : Proofs.YtnocjgmmglmfiaaGreatDoor.oE e = some (Num.tE e) := odiv_ok h.sx h.sp h.ne
theorem ME.oRest : Proofs.YtnocjgmmglmfiaaGreatDoor.oRest e = some (e.1 * e.1 * (1 - e.2)) := by
  unfold Proofs.YtnocjgmmglmfiaaGreatDoor.oRest
  rw [omul_ok h.sx h.sx, osub_ok Sml.one h.sp, omul_ok (Sml.of h.xx (by decide) (by decide +kernel) (by decide +kernel)) h.sq]
theorem ME.oV : Proofs.YtnocjgmmglmfiaaGreatDoor.oV e = some (Num.tV e) := by
  unfold Proofs.YtnocjgmmglmfiaaGreatDoor.oV
  rw [h.oRest, odiv_ok (Sml.of h.rest (by decide) (by decide +kernel) (by decide +kernel)) h.sp h.ne]; rfl
theorem ME.oD : Proofs.YtnocjgmmglmfiaaGreatDoor.oD e = some (Num.tD e) := by
  have hpp := h.p.mul h.p (by decide) (by decide)
  have hn : e.2 * e.2 ≠ 0 := by
    have := h.ne
    intro hc
    rcases Rat.mul_eq_zero.1 hc with h | h <;> exact this h
  unfold Proofs.YtnocjgmmglmfiaaGreatDoor.oD
  rw [h.oRest, omul_ok h.sp h.sp, odiv_ok (Sml.of h.rest (by decide) (by decide +kernel) (by decide +kernel)) (Sml.of hpp (by decide) (by decide +kernel) (by decide +kernel)) hn]; rfl
end
noncomputable def oEst (l : List El) : Option Rat := oSum oE l (some 0)
noncomputable def oEsd (l : List El) : Option Rat := oSum oD l (some 0)
noncomputable def oVar (l : List El) : Option Rat := oSum oV l (some 0)
noncomputable def oExpE (l : List El) : Nat → Option Rat := oSumN (fun k => oMul (oW k l (some 1)) (oEst (kept k l)))
noncomputable def oExpD (l : List El) : Nat → Option Rat := oSumN (fun k => oMul (oW k l (some 1)) (oEsd (kept k l)))
noncomputable def oExpV (l : List El) (m : Option Rat) : Nat → Option Rat := oSumN (fun k => oMul (oW k l (some 1)) (oMul (oSub (oEst (kept k l)) m) (oSub (oEst (kept k l)) m)))
abbrev MEs (l : List El) : Prop := ∀ e ∈ l, ME e
theorem MEs.pos {l : List El} (h : MEs l) : Pos l := fun e he => (h e he).ne
theorem MEs.kept {l : List El} (h : MEs l) (k : Nat) : MEs (kept k l) := fun e he => h e (kept_sub l k e he)
section
variable {l : List El} (h : MEs l)
include h
theorem est_ok (hl : l.length ≤ 1000) : oEst l = some (sumR tE l) := by
  have := oSum_ok (f := oE) (t := tE) (D := 1923455324542752000) (M := 18000) (l := l) (a := 0) (A := 0) (by decide +kernel) (by decide +kernel) (fun e he => ⟨(h e he).oE, (h e he).tE⟩) .zero
    (Nat.lt_of_le_of_lt (Nat.mul_le_mul_right _ (by omega : 0 + l.length * 18000 ≤ 18000000)) (by decide +kernel))
  rw [Rat.zero_add] at this; exact this
theorem esd_ok (hl : l.length ≤ 1000) : oEsd l = some (sumR tD l) := by
  have := oSum_ok (f := oD) (t := tD) (D := 37292778285959583317124187393720320000000) (M := 324000000) (l := l) (a := 0) (A := 0) (by decide +kernel) (by decide +kernel) (fun e he => ⟨(h e he).oD, (h e he).tD⟩) .zero
    (Nat.lt_of_le_of_lt (Nat.mul_le_mul_right _ (by omega : 0 + l.length * 324000000 ≤ 324000000000)) (by decide +kernel))
  rw [Rat.zero_add] at this; exact this
theorem var_ok (hl : l.length ≤ 1000) : oVar l = some (sumR tV l) := by
  have := oSum_ok (f := oV) (t := tV) (D := 6979834681700738457600000) (M := 8100000) (l := l) (a := 0) (A := 0) (by decide +kernel) (by decide +kernel) (fun e he => ⟨(h e he).oV, (h e he).tV⟩) .zero
    (Nat.lt_of_le_of_lt (Nat.mul_le_mul_right _ (by omega : 0 + l.length * 8100000 ≤ 8100000000)) (by decide +kernel))
  rw [Rat.zero_add] at this; exact this
theorem est_DR (hl : l.length ≤ 7) : DR 1923455324542752000 126000 (sumR tE l) := (DR.sumR (by decide +kernel) (fun e he => (h e he).tE)).mono (by decide +kernel) (by decide +kernel) (Nat.dvd_refl _) (by omega)
theorem esd_DR (hl : l.length ≤ 7) : DR 37292778285959583317124187393720320000000 2268000000 (sumR tD l) := (DR.sumR (by decide +kernel) (fun e he => (h e he).tD)).mono (by decide +kernel) (by decide +kernel) (Nat.dvd_refl _) (by omega)
theorem all_DR (hl : l.length ≤ 7) : DR 1923455324542752000 3150 (sumR tX l) := (DR.sumR (D := 360) (by decide +kernel) (fun e he => (h e he).x)).mono (by decide +kernel) (by decide +kernel) (by decide +kernel) (by omega)
theorem wt_DR (hl : l.length ≤ 7) (k : Nat) : DR (10080 ^ 7) 1 (wt k l) := (DR.wt (D := 10080) (by decide +kernel) k (fun e he => ⟨(h e he).p, (h e he).q⟩)).mono (Nat.pow_pos (by decide +kernel)) (by decide +kernel) (Nat.pow_dvd_pow 10080 hl) (by decide +kernel)
theorem w_ok (hl : l.length ≤ 7) (k : Nat) : oW k l (some 1) = some (wt k l) := by
  have := oW_ok (D := 10080) (by decide +kernel) (l := l) (k := k) (w := 1) (E := 1) (fun e he => ⟨(h e he).p, (h e he).q⟩) (by decide +kernel) (.one (by decide +kernel))
    (Nat.lt_of_le_of_lt (Nat.mul_le_mul_left 1 (Nat.pow_le_pow_right (by decide +kernel) hl)) (by decide +kernel))
  rw [Rat.one_mul] at this; exact this
theorem two_le (hl : l.length ≤ 7) : 2 ^ l.length ≤ 128 := Nat.pow_le_pow_right (by decide +kernel) hl
theorem expE_ok (hl : l.length ≤ 7) : oExpE l (2 ^ l.length) = some (sumR tX l) := by
  have hk := fun k => Nat.le_trans (kept_len l k) hl
  have hD : ∀ k, DR (10080 ^ 7 * 1923455324542752000) (1 * 126000) (wt k l * sumR tE (kept k l)) := fun k => (wt_DR h hl k).mul (est_DR (h.kept k) (hk k)) (by decide +kernel) (by decide +kernel)
  have := oSumN_ok (G := fun k => oMul (oW k l (some 1)) (oEst (kept k l))) (g := fun k => wt k l * sumR tE (kept k l)) (D := 10080 ^ 7 * 1923455324542752000) (M := 1 * 126000) (n := 2 ^ l.length) (by decide +kernel) (by decide +kernel) (fun k _ => ⟨by
      show oMul (oW k l (some 1)) (oEst (kept k l)) = _
      rw [w_ok h hl, est_ok (h.kept k) (by have := hk k; omega), omul_ok (Sml.of (wt_DR h hl k) (by decide +kernel) (by decide +kernel) (by decide +kernel)) (Sml.of (est_DR (h.kept k) (hk k)) (by decide +kernel) (by decide +kernel) (by decide +kernel))], hD k⟩)
    (Nat.lt_of_le_of_lt (Nat.mul_le_mul_right _ (Nat.mul_le_mul_right (1 * 126000) (two_le h hl))) (by decide +kernel))
  refine this.trans ?_
  exact congrArg some (mean_est h.pos)
theorem expD_ok (hl : l.length ≤ 7) : oExpD l (2 ^ l.length) = some (sumR tV l) := by
  have hk := fun k => Nat.le_trans (kept_len l k) hl
  have hD : ∀ k, DR (10080 ^ 7 * 37292778285959583317124187393720320000000) (1 * 2268000000) (wt k l * sumR tD (kept k l)) := fun k => (wt_DR h hl k).mul (esd_DR (h.kept k) (hk k)) (by decide +kernel) (by decide +kernel)
  have := oSumN_ok (G := fun k => oMul (oW k l (some 1)) (oEsd (kept k l))) (g := fun k => wt k l * sumR tD (kept k l)) (D := 10080 ^ 7 * 37292778285959583317124187393720320000000) (M := 1 * 2268000000) (n := 2 ^ l.length) (by decide +kernel) (by decide +kernel) (fun k _ => ⟨by
      show oMul (oW k l (some 1)) (oEsd (kept k l)) = _
      rw [w_ok h hl, esd_ok (h.kept k) (by have := hk k; omega), omul_ok (Sml.of (wt_DR h hl k) (by decide +kernel) (by decide +kernel) (by decide +kernel)) (Sml.of (esd_DR (h.kept k) (hk k)) (by decide +kernel) (by decide +kernel) (by decide +kernel))], hD k⟩)
    (Nat.lt_of_le_of_lt (Nat.mul_le_mul_right _ (Nat.mul_le_mul_right (1 * 2268000000) (two_le h hl))) (by decide +kernel))
  refine this.trans ?_
  exact congrArg some (mean_esd h.pos)
theorem expV_ok (hl : l.length ≤ 7) : oExpV l (some (sumR tX l)) (2 ^ l.length) = some (sumR tV l) := by
  have hk := fun k => Nat.le_trans (kept_len l k) hl
  have hd : ∀ k, DR 1923455324542752000 129150 (sumR tE (kept k l) - sumR tX l) := fun k => by
    have := (est_DR (h.kept k) (hk k)).sub (all_DR h hl) (by decide +kernel)
    exact this
  have hdd : ∀ k, DR (1923455324542752000 * 1923455324542752000) (129150 * 129150) ((sumR tE (kept k l) - sumR tX l) * (sumR tE (kept k l) - sumR tX l)) := fun k => (hd k).mul (hd k) (by decide +kernel) (by decide +kernel)
  have hD : ∀ k, DR (10080 ^ 7 * (1923455324542752000 * 1923455324542752000)) (1 * (129150 * 129150)) (wt k l * ((sumR tE (kept k l) - sumR tX l) * (sumR tE (kept k l) - sumR tX l))) := fun k => (wt_DR h hl k).mul (hdd k) (by decide +kernel) (by decide +kernel)
  have sX : Sml (sumR tX l) := Sml.of (all_DR h hl) (by decide +kernel) (by decide +kernel) (by decide +kernel)
  have := oSumN_ok (G := fun k => oMul (oW k l (some 1)) (oMul (oSub (oEst (kept k l)) (some (sumR tX l))) (oSub (oEst (kept k l)) (some (sumR tX l))))) (g := fun k => wt k l * ((sumR tE (kept k l) - sumR tX l) * (sumR tE (kept k l) - sumR tX l))) (D := 10080 ^ 7 * (1923455324542752000 * 1923455324542752000)) (M := 1 * (129150 * 129150)) (n := 2 ^ l.length) (by decide +kernel) (by decide +kernel) (fun k _ => ⟨by
      have s1 : Sml (sumR tE (kept k l)) := Sml.of (est_DR (h.kept k) (hk k)) (by decide +kernel) (by decide +kernel) (by decide +kernel)
      have s2 := Sml.of (hd k) (by decide +kernel) (by decide +kernel) (by decide +kernel)
      show oMul (oW k l (some 1)) (oMul (oSub (oEst (kept k l)) (some (sumR tX l))) (oSub (oEst (kept k l)) (some (sumR tX l)))) = _
      rw [w_ok h hl, est_ok (h.kept k) (by have := hk k; omega), osub_ok s1 sX, omul_ok s2 s2, omul_ok (Sml.of (wt_DR h hl k) (by decide +kernel) (by decide +kernel) (by decide +kernel)) (Sml.of (hdd k) (by decide +kernel) (by decide +kernel) (by decide +kernel))], hD k⟩)
    (Nat.lt_of_le_of_lt (Nat.mul_le_mul_right _ (Nat.mul_le_mul_right (1 * (129150 * 129150)) (two_le h hl))) (by decide +kernel))
  refine this.trans ?_
  exact congrArg some (mean_var h.pos)
end
end Go.Proofs.YtnocjgmmglmfiaaGreatDoor
