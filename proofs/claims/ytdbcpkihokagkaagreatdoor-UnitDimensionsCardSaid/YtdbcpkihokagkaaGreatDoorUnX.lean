/-
  Contracts and plain lemmas. By an AI agent.
-/
import Derived.Test.YtdbcpkihokagkaaGreatDoorUnJ
import Derived.Test.YtdbcpkihokagkaaGreatDoorUnU
import Derived.Test.YtdbcpkihokagkaaGreatDoorUnV
import Derived.Test.YtdbcpkihokagkaaGreatDoorUnO
set_option linter.unusedSimpArgs false
set_option linter.unusedVariables false
set_option linter.unusedSectionVars false
namespace Go.Proofs.YtdbcpkihokagkaaGreatDoor
open Go Go.Eng Go.Proofs Go.Num Go.RowKit
set_option maxRecDepth 100000
def pickZ (c n : Int) : Int := if c < 0 then (-(c + 1)) % n else c % n
theorem pickZ_bd {c n : Int} (hn : 0 < n) : 0 ≤ pickZ c n ∧ pickZ c n < n := by
 unfold pickZ
 split
 ·exact ⟨Int.emod_nonneg _ (by omega), Int.emod_lt_of_pos _ hn⟩
 ·exact ⟨Int.emod_nonneg _ (by omega), Int.emod_lt_of_pos _ hn⟩
theorem ofQ {n d : Int} (hd : d ≠ 0) : rv (makeQ n d) = .tuple #[ov (some ((n : Rat) / d)), .int .i64 0] := by
 unfold makeQ; rw [if_neg hd]; rfl
theorem c_pick5 {w : World} {c n : Int} (h0 : -9223372036854775808 ≤ c) (h1 : c ≤ 9223372036854775807) (hn : 0 < n) : Calls Tryz.prog 38 #[.int .i64 c, .int .i64 n] w (Ret fun r w' => Ext w w' ∧ r = .int .i64 (pickZ c n)) := by
 apply e_ref05_pick
 unfold s_ref05_pick
 have h := Hp.init [] w
 by_cases h0 : c < 0
 ·have e : pickZ c n = (-(c + 1)) % n := by unfold pickZ; rw [if_pos h0]
  rw [e]
  refine Bn_ltT (by omega) (If_T (Bn_ad (by omega) (by omega) (Eng.Un_ng (by omega) (by omega) (Bn_rm (by omega) (by omega) ?_))))
  exact Ret.mk ⟨h.ext, rfl⟩
 ·have e : pickZ c n = c % n := by unfold pickZ; rw [if_neg h0]
  rw [e]
  refine Bn_ltF (by omega) (If_F (Bn_rm (by omega) (by omega) ?_))
  exact Ret.mk ⟨h.ext, rfl⟩
def made1 (x : U4) : Rat := (((pickZ x.1 41 - 20 : Int)) : Rat) / ((1 + pickZ x.2.1 9 : Int) : Rat)
def made2 (x : U4) : Rat := ((pickZ x.1 1152921504606846976 : Int) : Rat) / ((1 + pickZ x.2.1 1099511627776 : Int) : Rat)
def madeR (x : U4) : Rat := if pickZ x.2.2.1 7 = 6 then made2 x else made1 x
def madeU (x : U4) : U4 := (pickZ x.2.2.2 625 % 5 - 2, pickZ x.2.2.2 625 / 5 % 5 - 2, pickZ x.2.2.2 625 / 25 % 5 - 2, pickZ x.2.2.2 625 / 125 - 2)
def madeQ (x : U4) : QT := ⟨tx (madeR x), madeU x⟩
theorem sz60 {z : Int} (h0 : -1152921504606846976 ≤ z) (h1 : z ≤ 1152921504606846976) : Sz 60 z := by
 have : (1152921504606846976 : Nat) < 10 ^ 60 := by decide
 unfold Sz; omega
theorem made_F (x : U4) : F60 (madeR x) := by
 have a1 := pickZ_bd (c := x.1) (n := 41) (by decide)
 have a2 := pickZ_bd (c := x.2.1) (n := 9) (by decide)
 have a3 := pickZ_bd (c := x.1) (n := 1152921504606846976) (by decide)
 have a4 := pickZ_bd (c := x.2.1) (n := 1099511627776) (by decide)
 unfold madeR
 split
 ·exact .of (sz60 (by omega) (by omega)) (sz60 (by omega) (by omega)) (by omega)
 ·exact .of (sz60 (by omega) (by omega)) (sz60 (by omega) (by omega)) (by omega)
theorem made_U (x : U4) : uOk (madeU x) := by
 have a1 := pickZ_bd (c := x.2.2.2) (n := 625) (by decide)
 unfold madeU
 refine ⟨⟨?_, ?_⟩, ⟨?_, ?_⟩, ⟨?_, ?_⟩, ⟨?_, ?_⟩⟩ <;> show _ ≤ _ <;> simp only <;> omega
theorem made_v (x : U4) : valQ (madeQ x) = some (madeR x) := by
 have h := made_F x
 unfold madeQ
 rw [valQ_tx (h.rb (by decide) (by decide)), if_pos ⟨made_U x, h⟩]
theorem QTk.of {q : QT} (h : (valQ q).isSome = true) : QTk q := by
 obtain ⟨h1, h2, _⟩ := enc_bd h
 exact ⟨by omega, by omega⟩
theorem c_Made {w0 : World} {x : U4} (hx : UI x) : Calls Tryz.prog 12 #[vU x] w0 (Ret fun r w' => Ext w0 w' ∧ r = vQ (madeQ x)) := by
 obtain ⟨⟨p1, q1⟩, ⟨p2, q2⟩, ⟨p3, q3⟩, ⟨p4, q4⟩⟩ := hx
 have a1 := pickZ_bd (c := x.1) (n := 41) (by decide)
 have a2 := pickZ_bd (c := x.2.1) (n := 9) (by decide)
 have a3 := pickZ_bd (c := x.1) (n := 1152921504606846976) (by decide)
 have a4 := pickZ_bd (c := x.2.1) (n := 1099511627776) (by decide)
 have a5 := pickZ_bd (c := x.2.2.1) (n := 7) (by decide)
 have a6 := pickZ_bd (c := x.2.2.2) (n := 625) (by decide)
 have cc1 := fun {W : World} (_ : Ext w0 W) => c_pick5 (w := W) (c := x.1) (n := 41) p1 q1 (by decide)
 have cc2 := fun {W : World} (_ : Ext w0 W) => c_pick5 (w := W) (c := x.2.1) (n := 9) p2 q2 (by decide)
 have cc3 := fun {W : World} (_ : Ext w0 W) => c_pick5 (w := W) (c := x.1) (n := 1152921504606846976) p1 q1 (by decide)
 have cc4 := fun {W : World} (_ : Ext w0 W) => c_pick5 (w := W) (c := x.2.1) (n := 1099511627776) p2 q2 (by decide)
 have cc5 := fun {W : World} (_ : Ext w0 W) => c_pick5 (w := W) (c := x.2.2.1) (n := 7) p3 q3 (by decide)
 have cc6 := fun {W : World} (_ : Ext w0 W) => c_pick5 (w := W) (c := x.2.2.2) (n := 625) p4 q4 (by decide)
 have cc7 : ∀ {W : World}, Ext w0 W → Calls Tryz.prog 37 #[.int .i64 (pickZ x.1 41 - 20), .int .i64 (1 + pickZ x.2.1 9)] W (Ret fun r w' => Ext W w' ∧ r = .tuple #[ov (some (made1 x)), .int .i64 0]) := fun {W} _ => by
  have := c_fOf (w := W) (x := pickZ x.1 41 - 20) (y := 1 + pickZ x.2.1 9) (by omega) (by omega) (by omega) (by omega)
  rw [ofQ (by omega)] at this
  exact this
 have cc8 : ∀ {W : World}, Ext w0 W → Calls Tryz.prog 37 #[.int .i64 (pickZ x.1 1152921504606846976), .int .i64 (1 + pickZ x.2.1 1099511627776)] W (Ret fun r w' => Ext W w' ∧ r = .tuple #[ov (some (made2 x)), .int .i64 0]) := fun {W} _ => by
  have := c_fOf (w := W) (x := pickZ x.1 1152921504606846976) (y := 1 + pickZ x.2.1 1099511627776) (by omega) (by omega) (by omega) (by omega)
  rw [ofQ (by omega)] at this
  exact this
 suffices main : ∀ (R : Ending → World → Prop), (∀ w, Hp [] w0 w [] → R (.returned (vQ (madeQ x))) w) → s_ref05_Made Tryz.prog (vU x) w0 R from
  e_ref05_Made (main _ fun w h => Ret.mk ⟨h.ext, rfl⟩)
 intro R lf9
 unfold madeQ at lf9
 have hr : madeR x = if pickZ x.2.2.1 7 = 6 then made2 x else made1 x := rfl
 generalize madeR x = rr at *
 unfold s_ref05_Made
 have h := Hp.init [] w0
 refine bxA h fun g1 w h => ?_
 refine alS h fun g2 w h => ?_
 refine Jn2.mk fun K hK => ?_
 have lf1 : ∀ gx w, Hp [] w0 w [bx gx tR [str (eN (some (made1 x))), str (eD (some (made1 x)))], bx g2 tQy (fQ q0), bx g1 tA4 (fU4 x)] → K (pr gx 0) (.int .i64 0) w := by
  clear h
  intro gx w h
  refine hK _ _ _ ?_
  clear hK
  refine Jn1.mk fun K2 hK2 => ?_
  have lf2 : ∀ w, Hp [] w0 w [bx gx tR [str (eN (some rr)), str (eD (some rr))], bx g2 tQy (fQ q0), bx g1 tA4 (fU4 x)] → K2 (.int .i64 0) w := by
   clear h
   intro w h
   refine hK2 _ _ ?_
   clear hK2
   refine Bn_neF (by omega) (If_F (iaZ (by decide) (by decide) ?_))
   refine Eng.ld1 h 2 rfl rfl (cl1 h n_ref05_pick (cc6 h.ext) fun w h => ?_)
   refine ldA h 0 rfl rfl ?_
   refine Bn_rm (by omega) (by omega) (Bn_su (by omega) (by omega) (Bn_qu (by omega) (by omega) (by omega) (Bn_rm (by omega) (by omega) (Bn_su (by omega) (by omega) (Bn_qu (by omega) (by omega) (by omega) (Bn_rm (by omega) (by omega) (Bn_su (by omega) (by omega) (Bn_qu (by omega) (by omega) (by omega) (Bn_su (by omega) (by omega) (bdS (PC.cons (by rfl) (PC.cons (by rfl) (PC.cons (by rfl) (PC.cons (by rfl) PC.nil)))) (by rfl) ?_))))))))))
   refine bdS (PC.cons (by rfl) (PC.cons (by rfl) PC.nil)) (by rfl) ?_
   refine stA h 1 rfl rfl rfl rfl fun w h => ?_
   refine rcA h 1 rfl rfl ?_
   exact lf9 _ (h.pick [] (by decide) rfl)
  clear hK2
  by_cases h6 : pickZ x.2.2.1 7 = 6
  ·rw [if_pos h6] at hr
   rw [hr] at lf2
   refine iaZ (by decide) (by decide) ?_
   refine Eng.ld1 h 2 rfl rfl (cl1 h n_ref05_pick (cc5 h.ext) fun w h => ?_)
   refine Bn_eqT (by omega) (If_T ?_)
   replace h := h.dr
   refine diZ (by decide) (by decide) ?_
   refine dl1 h 2 rfl rfl (diZ (by decide) (by decide) ?_)
   refine dl1 h 2 rfl rfl (cl1 h n_ref05_pick (cc3 h.ext) fun w h => ?_)
   refine kl1 h 2 rfl rfl (cl1 h n_ref05_pick (cc4 h.ext) fun w h => ?_)
   refine Dv_ad (by omega) (by omega) (cl1 h n_ref04_Of (cc8 h.ext) fun w h => ?_)
   refine ExP2 (stA h 0 rfl rfl rfl rfl fun w h => ?_)
   exact lf2 _ h
  ·rw [if_neg h6] at hr
   rw [hr] at lf2
   refine iaZ (by decide) (by decide) ?_
   refine Eng.ld1 h 2 rfl rfl (cl1 h n_ref05_pick (cc5 h.ext) fun w h => ?_)
   refine Bn_eqF (by omega) (If_F ?_)
   exact lf2 _ h
 clear hK
 replace h := h.dr
 refine diZ (by decide) (by decide) ?_
 refine dl1 h 1 rfl rfl (diZ (by decide) (by decide) ?_)
 refine dl1 h 1 rfl rfl ?_
 refine ⟨?_, ?_⟩
 refine cl1 h n_ref05_pick (cc1 h.ext) fun w h => ?_
 refine kl1 h 1 rfl rfl (Dv_su (by omega) (by omega) ?_)
 refine ⟨?_, ?_⟩
 refine cl1 h n_ref05_pick (cc2 h.ext) fun w h => ?_
 refine Dv_ad (by omega) (by omega) ?_
 refine ⟨?_, ?_⟩
 refine cl1 h n_ref04_Of (cc7 h.ext) fun w h => ?_
 refine ExP2 (alS h fun g3 w h => ?_)
 refine kl1 h 2 rfl rfl (kl1 h 2 rfl rfl (stA h 0 rfl rfl rfl rfl fun w h => ?_))
 exact lf1 _ _ h
 refine alS h fun g3 w h => ?_
 refine kl1 h 2 rfl rfl (kl1 h 2 rfl rfl (cl1 h n_ref04_Of (cc7 h.ext) fun w h => ?_))
 refine ExP2 (stA h 0 rfl rfl rfl rfl fun w h => ?_)
 exact lf1 _ _ h
 refine alS h fun g3 w h => ?_
 refine kl1 h 2 rfl rfl (kl1 h 2 rfl rfl (cl1 h n_ref05_pick (cc2 h.ext) fun w h => ?_))
 refine Dv_ad (by omega) (by omega) (cl1 h n_ref04_Of (cc7 h.ext) fun w h => ?_)
 refine ExP2 (stA h 0 rfl rfl rfl rfl fun w h => ?_)
 exact lf1 _ _ h
 refine alS h fun g3 w h => ?_
 refine kl1 h 2 rfl rfl (kl1 h 2 rfl rfl (cl1 h n_ref05_pick (cc1 h.ext) fun w h => ?_))
 refine kl1 h 2 rfl rfl (Dv_su (by omega) (by omega) (cl1 h n_ref05_pick (cc2 h.ext) fun w h => ?_))
 refine Dv_ad (by omega) (by omega) (cl1 h n_ref04_Of (cc7 h.ext) fun w h => ?_)
 refine ExP2 (stA h 0 rfl rfl rfl rfl fun w h => ?_)
 exact lf1 _ _ h
theorem gdQy {op : BinOp} {c : Bool} {xs ys : Array Value} {w : World} : (eqG op tQy c (.agg xs) (.agg ys)).run Tryz.prog w = .ok () w := eqG_agg (by kernel_rfl)
section
variable {w : World} {K : Value → World → Prop} {KP : Value → Prop} {c wi : Bool} {s t s' t' : List UInt8} {a b d e a' b' d' e' : Int}
theorem qyNeS (hk : K (.bool false) w) : Bn Tryz.prog .neq tQy c (.agg #[str s, str t, .int .i64 a, .int .i64 b, .int .i64 d, .int .i64 e]) (.agg #[str s, str t, .int .i64 a, .int .i64 b, .int .i64 d, .int .i64 e]) w K := by
 ((try simp -dsimp [go_sem, gdQy]); repeat (simp -dsimp (disch := omega) only [gL, gI]; try simp -dsimp [go_sem, gdQy])); exact hk
theorem dqyEqS (hk : KP (.bool true)) : Dv Tryz.prog wi (bn .eql tQy c (.agg #[str s, str t, .int .i64 a, .int .i64 b, .int .i64 d, .int .i64 e]) (.agg #[str s, str t, .int .i64 a, .int .i64 b, .int .i64 d, .int .i64 e])) w KP := by
 cases wi <;> ((try simp -dsimp [go_sem, gdQy]); repeat (simp -dsimp (disch := omega) only [gL, gI]; try simp -dsimp [go_sem, gdQy])) <;> exact hk
theorem qyNeE (h : s = s' ∧ t = t' ∧ a = a' ∧ b = b' ∧ d = d' ∧ e = e') (hk : K (.bool false) w) : Bn Tryz.prog .neq tQy c (.agg #[str s, str t, .int .i64 a, .int .i64 b, .int .i64 d, .int .i64 e]) (.agg #[str s', str t', .int .i64 a', .int .i64 b', .int .i64 d', .int .i64 e']) w K := by
 obtain ⟨rfl, rfl, rfl, rfl, rfl, rfl⟩ := h
 exact qyNeS hk
end
theorem meet {T G Q : World → Prop} (h1 : ∀ w, (∀ w', Q w' → T w') → Q w → G w) (h2 : ∀ w, Q w → T w) : ∀ w, Q w → G w := fun w hq => h1 w h2 hq
theorem vlit {x : Rat} {p : RS} {u : U4} (ht : tx x = p) (h1 : x.num.natAbs < 10 ^ 60) (h2 : x.den < 10 ^ 60) (hu : uOk u) : valQ ⟨p, u⟩ = some x := by
 have hf : F60 x := ⟨h1, by unfold Sz; simpa using h2⟩
 rw [← ht, valQ_tx (hf.rb (by decide) (by decide)), if_pos ⟨hu, hf⟩]
theorem op_lit {al : Bool} {f : Option Rat → Option Rat → Option Rat} {g : Int → Int → Int} {a b r : QT} {x y z : Rat} (ha : valQ a = some x) (hb : valQ b = some y) (hu : al = true → a.u = b.u)
 (hf : f (some x) (some y) = some z) (hr : valQ r = some z) (hru : r.u = (g a.u.1 b.u.1, g a.u.2.1 b.u.2.1, g a.u.2.2.1 b.u.2.2.1, g a.u.2.2.2 b.u.2.2.2)) : opQ al f g a b = some r := by
 obtain ⟨h1, h2, h3, h4⟩ := valQ_some hr
 rw [opQ_v ha hb hu, hf, ← hru, apO_y h3 ⟨h1, h4⟩]
 exact congrArg some (QT_ext h2.symm rfl)
theorem it0 : Lib.itoa 0 = [48] := by simp [Lib.itoa, Lib.decDigits]
theorem it1 : Lib.itoa 1 = [49] := by simp [Lib.itoa, Lib.decDigits]
theorem it5 : Lib.itoa 5 = [53] := by simp [Lib.itoa, Lib.decDigits]
theorem it6 : Lib.itoa 6 = [54] := by simp [Lib.itoa, Lib.decDigits]
def x0 : Rat := ⟨0, 1, by decide, by decide⟩
def x1 : Rat := ⟨1, 1, by decide, by decide⟩
def x2 : Rat := ⟨2, 1, by decide, by decide⟩
def x3 : Rat := ⟨3, 1, by decide, by decide⟩
def x5 : Rat := ⟨5, 1, by decide, by decide⟩
def x6 : Rat := ⟨6, 1, by decide, by decide⟩
def x12 : Rat := ⟨1, 2, by decide, by decide⟩
def x13 : Rat := ⟨1, 3, by decide, by decide⟩
def x32 : Rat := ⟨3, 2, by decide, by decide⟩
section
variable {u : U4} (hu : uOk u)
include hu
theorem v0 : valQ ⟨([48], [49]), u⟩ = some x0 := vlit (Prod.ext it0 it1) (by decide) (by decide) hu
theorem v1 : valQ ⟨([49], [49]), u⟩ = some x1 := vlit (Prod.ext it1 it1) (by decide) (by decide) hu
theorem v2 : valQ ⟨([50], [49]), u⟩ = some x2 := vlit (Prod.ext it_2 it1) (by decide) (by decide) hu
theorem v3 : valQ ⟨([51], [49]), u⟩ = some x3 := vlit (Prod.ext it_3 it1) (by decide) (by decide) hu
theorem v5 : valQ ⟨([53], [49]), u⟩ = some x5 := vlit (Prod.ext it5 it1) (by decide) (by decide) hu
theorem v6 : valQ ⟨([54], [49]), u⟩ = some x6 := vlit (Prod.ext it6 it1) (by decide) (by decide) hu
theorem v12 : valQ ⟨([49], [50]), u⟩ = some x12 := vlit (Prod.ext it1 it_2) (by decide) (by decide) hu
theorem v13 : valQ ⟨([49], [51]), u⟩ = some x13 := vlit (Prod.ext it1 it_3) (by decide) (by decide) hu
theorem v32 : valQ ⟨([51], [50]), u⟩ = some x32 := vlit (Prod.ext it_3 it_2) (by decide) (by decide) hu
end
abbrev uus : U4 := (1, 0, 0, 0)
theorem uus_k : uOk uus := by decide
theorem sn1 : addO ⟨([49], [49]), uus⟩ ⟨([49], [50]), uus⟩ = some ⟨([51], [50]), uus⟩ :=
 op_lit (v1 uus_k) (v12 uus_k) (fun _ => rfl) ((oAdd_fit (valQ_some (v1 uus_k)).2.2.2 (valQ_some (v12 uus_k)).2.2.2).trans (congrArg some (by decide +kernel : x1 + x12 = x32))) (v32 uus_k) rfl
theorem sn2 : addO ⟨([49], [49]), uus⟩ ⟨([49], [49]), (0, 1, 0, 0)⟩ = none := opQ_u (by decide)
theorem sn3 : mulO ⟨([50], [49]), uus⟩ ⟨([51], [49]), uus⟩ = some ⟨([54], [49]), (2, 0, 0, 0)⟩ :=
 op_lit (v2 uus_k) (v3 uus_k) (fun e => by cases e) ((oMul_fit (valQ_some (v2 uus_k)).2.2.2 (valQ_some (v3 uus_k)).2.2.2).trans (congrArg some (by decide +kernel : x2 * x3 = x6))) (v6 (by decide)) rfl
theorem sn4 : mulO ⟨([54], [49]), (2, 0, 0, 0)⟩ ⟨([54], [49]), (2, 0, 0, 0)⟩ = none := by
 have h6 := v6 (u := (2, 0, 0, 0)) (by decide)
 have hB : OB (oMul (some x6) (some x6)) := oBin_B fit_mul (some x6) (some x6)
 rw [show mulO ⟨([54], [49]), (2, 0, 0, 0)⟩ ⟨([54], [49]), (2, 0, 0, 0)⟩ = apO (oMul (some x6) (some x6)) (4, 0, 0, 0) from opQ_v h6 h6 (fun e => by cases e)]
 rcases h : oMul (some x6) (some x6) with _ | z
 ·rfl
 ·rw [h] at hB
  exact apO_n hB.get (fun h => absurd h.1 (by decide))
theorem sn5 : divO ⟨([54], [49]), (0, 0, 1, 0)⟩ ⟨([51], [49]), uus⟩ = some ⟨([50], [49]), (-1, 0, 1, 0)⟩ :=
 op_lit (v6 (by decide)) (v3 uus_k) (fun e => by cases e) ((oDiv_fit (valQ_some (v6 (u := (0, 0, 1, 0)) (by decide))).2.2.2 (valQ_some (v3 uus_k)).2.2.2 (by decide +kernel)).trans (congrArg some (by decide +kernel : x6 / x3 = x2))) (v2 (by decide)) rfl
theorem sn6 : divO ⟨([49], [49]), uus⟩ ⟨([48], [49]), uus⟩ = none := by
 rw [show divO ⟨([49], [49]), uus⟩ ⟨([48], [49]), uus⟩ = apO (oDiv (some x1) (some x0)) (0, 0, 0, 0) from opQ_v (v1 uus_k) (v0 uus_k) (fun e => by cases e)]
 rw [show x0 = 0 by decide +kernel, oDiv_zero]; rfl
theorem sn7 : subO ⟨([51], [50]), uus⟩ ⟨([51], [50]), uus⟩ = some ⟨([48], [49]), uus⟩ :=
 op_lit (v32 uus_k) (v32 uus_k) (fun _ => rfl) ((oSub_fit (valQ_some (v32 uus_k)).2.2.2 (valQ_some (v32 uus_k)).2.2.2).trans (congrArg some (by decide +kernel : x32 - x32 = x0))) (v0 uus_k) rfl
theorem some_s {α : Type} {o : Option α} {x : α} (h : o = some x) : o.isSome = true := by rw [h]; rfl
theorem pr_lit {p : RS} {u : U4} {x : Rat} (h : valQ ⟨p, u⟩ = some x) : prQ ⟨p, u⟩ = (if p.2 = [49] then p.1 else p.1 ++ 47 :: p.2) ++ prU u := by
 rw [prQ_y (some_s h), printS_ok (valQ_okR (some_s h)).2]
theorem sn8 : parQ [51, 47, 50, 32, 117, 115, 32, 98, 121, 116, 101, 94, 45, 49] = some ⟨([51], [50]), (1, -1, 0, 0)⟩ := by
 refine parQ_ok ?_ (by simp)
 rw [pr_lit (v32 (u := (1, -1, 0, 0)) (by decide))]
 unfold prU
 simp only [pT, wd, it_m1]
 rfl
theorem sn9 : parQ [53, 32, 117, 115, 94, 49] = none := by
 have h5 := v5 (u := uus) uus_k
 have hp : prQ ⟨([53], [49]), uus⟩ = [53, 32, 117, 115] := by
  rw [pr_lit h5]
  unfold prU
  simp only [pT, wd]
  rfl
 have h5' := parse_print (valQ_okR (some_s h5)).2
 have e : printS [53] [49] = [53] := by rw [printS_ok (valQ_okR (some_s h5)).2]; rfl
 rw [e] at h5'
 exact parQ_x (q := ⟨([53], [49]), uus⟩) (e := 0) h5' rfl (by rw [hp]; decide)
theorem sn10 : cmpO ⟨([49], [50]), uus⟩ ⟨([49], [51]), uus⟩ = some 1 := by
 rw [cmpO_v (v12 uus_k) (v13 uus_k) rfl]
 decide +kernel
theorem sn11 : encQ ⟨([49], [50]), uus⟩ = [2, 49, 2, 50, 2, 0, 0, 0] := by
 unfold encQ putS
 simp only [List.length_cons, List.length_nil]
 rw [putI_small (n := ((0 + 1 : Nat) : Int)) (by decide), putI_small (n := 1) (by decide), putI_small (n := 0) (by decide)]
 rfl
theorem sn13 : prQ ⟨([50], [49]), (-1, 0, 1, 0)⟩ = [50, 32, 117, 115, 94, 45, 49, 32, 99, 101, 110, 116] := by
 rw [pr_lit (v2 (u := (-1, 0, 1, 0)) (by decide))]
 unfold prU
 simp only [pT, wd, it_m1]
 rfl
theorem c_us {w : World} {n d : List UInt8} : Calls Tryz.prog 36 #[str n, str d] w (Ret fun r w' => Ext w w' ∧ r = .agg #[str n, str d, .int .i64 1, .int .i64 0, .int .i64 0, .int .i64 0]) := by
 apply e_law05_us
 unfold s_law05_us
 have h := Hp.init [] w
 refine alS h fun g1 w h => ?_
 refine bdS (PC.cons (by rfl) (PC.cons (by rfl) PC.nil)) (by rfl) ?_
 refine bdS (PC.cons (by rfl) PC.nil) (by rfl) ?_
 refine bdS (PC.cons (by rfl) (PC.cons (by rfl) PC.nil)) (by rfl) ?_
 refine stA h 0 rfl rfl rfl rfl fun w h => ?_
 refine rcA h 0 rfl rfl ?_
 dsimp only [List.set] at h
 exact Ret.mk ⟨h.ext, rfl⟩
structure En (w : World) : Prop where
 hT : Tab w
 hM : MaxV w
 hW : WV w
 hE : ErrV w
theorem En.ext {w w' : World} (h : En w) (x : Ext w w') : En w' := ⟨h.hT.ext x, h.hM.ext x, h.hW.ext x, h.hE.ext x⟩
theorem law_sane {w0 : World} (he : En w0) : Calls Tryz.prog 10 #[] w0 (Ret fun r w' => Ext w0 w' ∧ r = .bool true) := by
 have cc1 := fun {W : World} (_ : Ext w0 W) => c_us (w := W) (n := [49]) (d := [49])
 have cc2 := fun {W : World} (_ : Ext w0 W) => c_us (w := W) (n := [49]) (d := [50])
 have cc3 := fun {W : World} (_ : Ext w0 W) => c_us (w := W) (n := [50]) (d := [49])
 have cc4 := fun {W : World} (_ : Ext w0 W) => c_us (w := W) (n := [51]) (d := [49])
 have cc5 := fun {W : World} (_ : Ext w0 W) => c_us (w := W) (n := [48]) (d := [49])
 have cc6 := fun {W : World} (_ : Ext w0 W) => c_us (w := W) (n := [51]) (d := [50])
 have cc7 := fun {W : World} (_ : Ext w0 W) => c_us (w := W) (n := [49]) (d := [51])
 have cc8 : ∀ {W : World}, Ext w0 W → Calls Tryz.prog 17 #[.agg #[str [49], str [49], .int .i64 1, .int .i64 0, .int .i64 0, .int .i64 0], .agg #[str [49], str [50], .int .i64 1, .int .i64 0, .int .i64 0, .int .i64 0]] W (Ret fun r w' => Ext W w' ∧ r = .tuple #[.agg #[str [51], str [50], .int .i64 1, .int .i64 0, .int .i64 0, .int .i64 0], .int .i64 0]) := fun {W} x => by
  have := c_uAdd (w0 := W) (⟨by decide, by decide⟩ : QTk ⟨([49], [49]), (1, 0, 0, 0)⟩) (⟨by decide, by decide⟩ : QTk ⟨([49], [50]), (1, 0, 0, 0)⟩) (he.ext x).hT
  rw [sn1] at this
  exact this
 have cc9 : ∀ {W : World}, Ext w0 W → Calls Tryz.prog 17 #[.agg #[str [49], str [49], .int .i64 1, .int .i64 0, .int .i64 0, .int .i64 0], .agg #[str [49], str [49], .int .i64 0, .int .i64 1, .int .i64 0, .int .i64 0]] W (Ret fun r w' => Ext W w' ∧ r = .tuple #[.agg #[str [], str [], .int .i64 0, .int .i64 0, .int .i64 0, .int .i64 0], .int .i64 50]) := fun {W} x => by
  have := c_uAdd (w0 := W) (⟨by decide, by decide⟩ : QTk ⟨([49], [49]), (1, 0, 0, 0)⟩) (⟨by decide, by decide⟩ : QTk ⟨([49], [49]), (0, 1, 0, 0)⟩) (he.ext x).hT
  rw [sn2] at this
  exact this
 have cc10 : ∀ {W : World}, Ext w0 W → Calls Tryz.prog 21 #[.agg #[str [50], str [49], .int .i64 1, .int .i64 0, .int .i64 0, .int .i64 0], .agg #[str [51], str [49], .int .i64 1, .int .i64 0, .int .i64 0, .int .i64 0]] W (Ret fun r w' => Ext W w' ∧ r = .tuple #[.agg #[str [54], str [49], .int .i64 2, .int .i64 0, .int .i64 0, .int .i64 0], .int .i64 0]) := fun {W} x => by
  have := c_uMul (w0 := W) (⟨by decide, by decide⟩ : QTk ⟨([50], [49]), (1, 0, 0, 0)⟩) (⟨by decide, by decide⟩ : QTk ⟨([51], [49]), (1, 0, 0, 0)⟩) (he.ext x).hT
  rw [sn3] at this
  exact this
 have cc11 : ∀ {W : World}, Ext w0 W → Calls Tryz.prog 21 #[.agg #[str [54], str [49], .int .i64 2, .int .i64 0, .int .i64 0, .int .i64 0], .agg #[str [54], str [49], .int .i64 2, .int .i64 0, .int .i64 0, .int .i64 0]] W (Ret fun r w' => Ext W w' ∧ r = .tuple #[.agg #[str [], str [], .int .i64 0, .int .i64 0, .int .i64 0, .int .i64 0], .int .i64 50]) := fun {W} x => by
  have := c_uMul (w0 := W) (⟨by decide, by decide⟩ : QTk ⟨([54], [49]), (2, 0, 0, 0)⟩) (⟨by decide, by decide⟩ : QTk ⟨([54], [49]), (2, 0, 0, 0)⟩) (he.ext x).hT
  rw [sn4] at this
  exact this
 have cc12 : ∀ {W : World}, Ext w0 W → Calls Tryz.prog 23 #[.agg #[str [54], str [49], .int .i64 0, .int .i64 0, .int .i64 1, .int .i64 0], .agg #[str [51], str [49], .int .i64 1, .int .i64 0, .int .i64 0, .int .i64 0]] W (Ret fun r w' => Ext W w' ∧ r = .tuple #[.agg #[str [50], str [49], .int .i64 (-1), .int .i64 0, .int .i64 1, .int .i64 0], .int .i64 0]) := fun {W} x => by
  have := c_uDiv (w0 := W) (⟨by decide, by decide⟩ : QTk ⟨([54], [49]), (0, 0, 1, 0)⟩) (⟨by decide, by decide⟩ : QTk ⟨([51], [49]), (1, 0, 0, 0)⟩) (he.ext x).hT
  rw [sn5] at this
  exact this
 have cc13 : ∀ {W : World}, Ext w0 W → Calls Tryz.prog 23 #[.agg #[str [49], str [49], .int .i64 1, .int .i64 0, .int .i64 0, .int .i64 0], .agg #[str [48], str [49], .int .i64 1, .int .i64 0, .int .i64 0, .int .i64 0]] W (Ret fun r w' => Ext W w' ∧ r = .tuple #[.agg #[str [], str [], .int .i64 0, .int .i64 0, .int .i64 0, .int .i64 0], .int .i64 50]) := fun {W} x => by
  have := c_uDiv (w0 := W) (⟨by decide, by decide⟩ : QTk ⟨([49], [49]), (1, 0, 0, 0)⟩) (⟨by decide, by decide⟩ : QTk ⟨([48], [49]), (1, 0, 0, 0)⟩) (he.ext x).hT
  rw [sn6] at this
  exact this
 have cc14 : ∀ {W : World}, Ext w0 W → Calls Tryz.prog 19 #[.agg #[str [51], str [50], .int .i64 1, .int .i64 0, .int .i64 0, .int .i64 0], .agg #[str [51], str [50], .int .i64 1, .int .i64 0, .int .i64 0, .int .i64 0]] W (Ret fun r w' => Ext W w' ∧ r = .tuple #[.agg #[str [48], str [49], .int .i64 1, .int .i64 0, .int .i64 0, .int .i64 0], .int .i64 0]) := fun {W} x => by
  have := c_uSub (w0 := W) (⟨by decide, by decide⟩ : QTk ⟨([51], [50]), (1, 0, 0, 0)⟩) (⟨by decide, by decide⟩ : QTk ⟨([51], [50]), (1, 0, 0, 0)⟩) (he.ext x).hT
  rw [sn7] at this
  exact this
 have cc15 : ∀ {W : World}, Ext w0 W → Calls Tryz.prog 31 #[str [51, 47, 50, 32, 117, 115, 32, 98, 121, 116, 101, 94, 45, 49]] W (Ret fun r w' => Ext W w' ∧ r = .tuple #[.agg #[str [51], str [50], .int .i64 1, .int .i64 (-1), .int .i64 0, .int .i64 0], .int .i64 0]) := fun {W} x => by
  have := c_uParse (w0 := W) (s := [51, 47, 50, 32, 117, 115, 32, 98, 121, 116, 101, 94, 45, 49]) (by decide) (he.ext x).hT (he.ext x).hM (he.ext x).hW (he.ext x).hE
  rw [sn8] at this
  exact this
 have cc16 : ∀ {W : World}, Ext w0 W → Calls Tryz.prog 31 #[str [53, 32, 117, 115, 94, 49]] W (Ret fun r w' => Ext W w' ∧ r = .tuple #[.agg #[str [], str [], .int .i64 0, .int .i64 0, .int .i64 0, .int .i64 0], .int .i64 50]) := fun {W} x => by
  have := c_uParse (w0 := W) (s := [53, 32, 117, 115, 94, 49]) (by decide) (he.ext x).hT (he.ext x).hM (he.ext x).hW (he.ext x).hE
  rw [sn9] at this
  exact this
 have cc17 : ∀ {W : World}, Ext w0 W → Calls Tryz.prog 25 #[.agg #[str [49], str [50], .int .i64 1, .int .i64 0, .int .i64 0, .int .i64 0], .agg #[str [49], str [51], .int .i64 1, .int .i64 0, .int .i64 0, .int .i64 0]] W (Ret fun r w' => Ext W w' ∧ r = .tuple #[.int .i64 1, .int .i64 0]) := fun {W} x => by
  have := c_uCmp (w0 := W) (⟨by decide, by decide⟩ : QTk ⟨([49], [50]), (1, 0, 0, 0)⟩) (⟨by decide, by decide⟩ : QTk ⟨([49], [51]), (1, 0, 0, 0)⟩) (he.ext x).hT
  rw [sn10] at this
  exact this
 have cc18 : ∀ {W : World}, Ext w0 W → Calls Tryz.prog 27 #[.agg #[str [49], str [50], .int .i64 1, .int .i64 0, .int .i64 0, .int .i64 0]] W (Ret fun r w' => Ext W w' ∧ r = .tuple #[str [2, 49, 2, 50, 2, 0, 0, 0], .int .i64 0]) := fun {W} x => by
  have := c_uEncode (w0 := W) (⟨by decide, by decide⟩ : QTk ⟨([49], [50]), (1, 0, 0, 0)⟩) (he.ext x).hT
  unfold enc2 at this
  rw [some_s (v12 (u := uus) uus_k), if_pos rfl, sn11] at this
  exact this
 have hdec : decV [2, 49, 2, 50, 2, 0, 0, 0] 0 = .tuple #[.agg #[str [49], str [50], .int .i64 1, .int .i64 0, .int .i64 0, .int .i64 0], .int .i64 8, .int .i64 0] := by
  have h := decQ_put (some_s (v12 (u := uus) uus_k)) []
  rw [List.append_nil, sn11] at h
  unfold decV
  rw [if_pos (by decide)]
  show dQV 0 (decQ [2, 49, 2, 50, 2, 0, 0, 0]) = _
  rw [h]
  rfl
 have cc19 : ∀ {W : World}, Ext w0 W → Calls Tryz.prog 33 #[str [2, 49, 2, 50, 2, 0, 0, 0], .int .i64 0] W (Ret fun r w' => Ext W w' ∧ r = .tuple #[.agg #[str [49], str [50], .int .i64 1, .int .i64 0, .int .i64 0, .int .i64 0], .int .i64 8, .int .i64 0]) := fun {W} x => by
  have := c_uDecode (w0 := W) (s := [2, 49, 2, 50, 2, 0, 0, 0]) (by decide) (a := 0) (he.ext x).hT
  rw [hdec] at this
  exact this
 have cc20 : ∀ {W : World}, Ext w0 W → Calls Tryz.prog 29 #[.agg #[str [50], str [49], .int .i64 (-1), .int .i64 0, .int .i64 1, .int .i64 0]] W (Ret fun r w' => Ext W w' ∧ r = str [50, 32, 117, 115, 94, 45, 49, 32, 99, 101, 110, 116]) := fun {W} x => by
  have := c_uPrint (w0 := W) (⟨by decide, by decide⟩ : QTk ⟨([50], [49]), (-1, 0, 1, 0)⟩) (he.ext x).hT (he.ext x).hW
  rw [sn13] at this
  exact this
 have cc21 : ∀ {W : World}, Ext w0 W → Calls Tryz.prog 13 #[.agg #[str [51], str [50], .int .i64 1, .int .i64 0, .int .i64 0, .int .i64 0]] W (Ret fun r w' => Ext W w' ∧ r = .bool true) := fun {W} x => by
  have := c_ValidQ (w0 := W) (⟨by decide, by decide⟩ : QTk ⟨([51], [50]), (1, 0, 0, 0)⟩) (b := true) (some_s (v32 (u := uus) uus_k)) (he.ext x).hT
  exact this
 have cc22 : ∀ {W : World}, Ext w0 W → Calls Tryz.prog 13 #[.agg #[str [], str [], .int .i64 0, .int .i64 0, .int .i64 0, .int .i64 0]] W (Ret fun r w' => Ext W w' ∧ r = .bool false) := fun {W} x => by
  have := c_ValidQ (w0 := W) (⟨by decide, by decide⟩ : QTk q0) (b := false) (valQ_o (ok_nil [])) (he.ext x).hT
  exact this
 have cc23 : ∀ {W : World}, Ext w0 W → Calls Tryz.prog 15 #[.agg #[.int .i64 0, .int .i64 0, .int .i64 0, .int .i64 (-3)]] W (Ret fun r w' => Ext W w' ∧ r = .bool true) := fun {W} x => by
  have := c_ValidUnit (w0 := W) (u := (0, 0, 0, -3)) (b := true) (by decide)
  exact this
 have cc24 : ∀ {W : World}, Ext w0 W → Calls Tryz.prog 15 #[.agg #[.int .i64 0, .int .i64 0, .int .i64 0, .int .i64 4]] W (Ret fun r w' => Ext W w' ∧ r = .bool false) := fun {W} x => by
  have := c_ValidUnit (w0 := W) (u := (0, 0, 0, 4)) (b := false) (by decide)
  exact this
 suffices main : ∀ (R : Ending → World → Prop), (∀ w, Hp [] w0 w [] → R (.returned (.bool true)) w) → s_law05_sane Tryz.prog w0 R from
  e_law05_sane (main _ fun w h => Ret.mk ⟨h.ext, rfl⟩)
 intro R lf9
 unfold s_law05_sane
 have h := Hp.init [] w0
 refine cl1 h n_law05_us (cc1 h.ext) fun w h => ?_
 refine cl1 h n_law05_us (cc2 h.ext) fun w h => ?_
 refine cl1 h n_unit_Add (cc8 h.ext) fun w h => ?_
 refine Ex2 (alS h fun g1 w h => ?_)
 refine stA h 0 rfl rfl rfl rfl fun w h => ?_
 refine cl1 h n_law05_us (cc1 h.ext) fun w h => ?_
 refine bdS (PC.cons (by rfl) (PC.cons (by rfl) PC.nil)) (by rfl) ?_
 refine bdS (PC.cons (by rfl) PC.nil) (by rfl) ?_
 refine bdS (PC.cons (by rfl) (PC.cons (by rfl) PC.nil)) (by rfl) ?_
 refine cl1 h n_unit_Add (cc9 h.ext) fun w h => ?_
 refine Ex2 (alS h fun g2 w h => ?_)
 refine stA h 0 rfl rfl rfl rfl fun w h => ?_
 refine cl1 h n_law05_us (cc3 h.ext) fun w h => ?_
 refine cl1 h n_law05_us (cc4 h.ext) fun w h => ?_
 refine cl1 h n_unit_Mul (cc10 h.ext) fun w h => ?_
 refine Ex2 (alS h fun g3 w h => ?_)
 refine stA h 0 rfl rfl rfl rfl fun w h => ?_
 refine ldA h 0 rfl rfl ?_
 refine ldA h 0 rfl rfl ?_
 refine cl1 h n_unit_Mul (cc11 h.ext) fun w h => ?_
 refine Ex2 (alS h fun g4 w h => ?_)
 refine stA h 0 rfl rfl rfl rfl fun w h => ?_
 dsimp only [List.set] at h
 refine bdS (PC.cons (by rfl) (PC.cons (by rfl) PC.nil)) (by rfl) ?_
 refine bdS (PC.cons (by rfl) PC.nil) (by rfl) ?_
 refine bdS (PC.cons (by rfl) (PC.cons (by rfl) PC.nil)) (by rfl) ?_
 refine cl1 h n_law05_us (cc4 h.ext) fun w h => ?_
 refine cl1 h n_unit_Div (cc12 h.ext) fun w h => ?_
 refine Ex2 (alS h fun g5 w h => ?_)
 refine stA h 0 rfl rfl rfl rfl fun w h => ?_
 refine cl1 h n_law05_us (cc1 h.ext) fun w h => ?_
 refine cl1 h n_law05_us (cc5 h.ext) fun w h => ?_
 refine cl1 h n_unit_Div (cc13 h.ext) fun w h => ?_
 refine Ex2 (alS h fun g6 w h => ?_)
 refine stA h 0 rfl rfl rfl rfl fun w h => ?_
 dsimp only [List.set] at h
 refine Jn2.mk fun K hK => ?_
 have lf1 : ∀ gx w, Hp [] w0 w [bx gx tQy [str [48], str [49], .int .i64 1, .int .i64 0, .int .i64 0, .int .i64 0], bx g5 tQy [str [50], str [49], .int .i64 (-1), .int .i64 0, .int .i64 1, .int .i64 0], bx g3 tQy [str [54], str [49], .int .i64 2, .int .i64 0, .int .i64 0, .int .i64 0], bx g1 tQy [str [51], str [50], .int .i64 1, .int .i64 0, .int .i64 0, .int .i64 0]] → K (pr gx 0) (.int .i64 0) w := by
  clear h
  intro gx w h
  refine hK _ _ _ ?_
  clear hK
  refine cl1 h n_unit_Parse (cc15 h.ext) fun w h => ?_
  refine Ex2 (alS h fun g7 w h => ?_)
  refine stA h 0 rfl rfl rfl rfl fun w h => ?_
  refine cl1 h n_unit_Parse (cc16 h.ext) fun w h => ?_
  refine Ex2 (alS h fun g8 w h => ?_)
  refine stA h 0 rfl rfl rfl rfl fun w h => ?_
  refine cl1 h n_law05_us (cc2 h.ext) fun w h => ?_
  refine cl1 h n_law05_us (cc7 h.ext) fun w h => ?_
  refine cl1 h n_unit_Compare (cc17 h.ext) fun w h => ?_
  refine Ex2 (cl1 h n_law05_us (cc2 h.ext) fun w h => ?_)
  refine cl1 h n_unit_Encode (cc18 h.ext) fun w h => ?_
  refine Ex2 (cl1 h n_unit_Decode (cc19 h.ext) fun w h => ?_)
  refine Ex3 (alS h fun g9 w h => ?_)
  refine stA h 0 rfl rfl rfl rfl fun w h => ?_
  refine Bn_eqT (by omega) (Gd_T (Gd_T (Bn_eqT (by omega) (Pick_T (Gd_T (Gd_T (Bn_eqT (by omega) (Pick_T (Gd_T (Gd_T (Bn_eqT (by omega) (Pick_T (Gd_T (Gd_T (Bn_eqT (by omega) (Pick_T (Gd_T (Gd_T (Bn_eqT (by omega) (Pick_T (Gd_T (Gd_T (Bn_eqT (by omega) (Pick_T (Gd_T (Gd_T (Bn_eqT (by omega) (Pick_T (Gd_T (Gd_T (Bn_eqT (by omega) (Pick_T (Gd_T (Gd_T (Bn_eqT (by omega) (Pick_T (Gd_T (Gd_T (Bn_eqT (by omega) ?_)))))))))))))))))))))))))))))))))))))))
  refine Pick_T (Gd_T (Gd_T (Bn_eqT (by omega) (Pick_T (GdP_T ?_)))))
  replace h := h.dr
  refine dlA h 6 rfl rfl ?_
  refine Gd_T (cl1 h n_law05_us (cc6 h.ext) fun w h => ?_)
  refine Kg_T ?_
  refine klA h 6 rfl rfl ?_
  refine GdP_T (dqyEqS ?_)
  refine PickP_T (GdP_T (dlA h 5 rfl rfl ?_))
  refine GdP_T (dbS (PC.cons (by rfl) (PC.cons (by rfl) PC.nil)) (by rfl) ?_)
  refine GdP_T (dbS (PC.cons (by rfl) PC.nil) (by rfl) ?_)
  refine GdP_T (dbS (PC.cons (by rfl) (PC.cons (by rfl) PC.nil)) (by rfl) ?_)
  refine GdP_T (dqyEqS ?_)
  refine PickP_T (GdP_T (dlA h 4 rfl rfl ?_))
  refine Gd_T (cl1 h n_unit_Print (cc20 h.ext) fun w h => ?_)
  refine GdP_T (Dv_eqST (PickP_T (GdP_T (dlA h 3 rfl rfl ?_))))
  refine Gd_T (cl1 h n_law05_us (cc5 h.ext) fun w h => ?_)
  refine Kg_T ?_
  refine klA h 3 rfl rfl ?_
  refine GdP_T (dqyEqS ?_)
  refine PickP_T (GdP_T (dlA h 2 rfl rfl ?_))
  refine GdP_T (dbS (PC.cons (by rfl) (PC.cons (by rfl) PC.nil)) (by rfl) ?_)
  refine GdP_T (dbS (PC.cons (by rfl) (PC.cons (by rfl) PC.nil)) (by rfl) ?_)
  refine GdP_T (dbS (PC.cons (by rfl) (PC.cons (by rfl) PC.nil)) (by rfl) ?_)
  refine GdP_T (dqyEqS ?_)
  refine PickP_T (GdP_T (GdP_T (Dv_eqT (by omega) (PickP_T (GdP_T (GdP_T (Dv_eqST (PickP_T (GdP_T (GdP_T (Dv_eqT (by omega) (PickP_T (GdP_T (dlA h 6 rfl rfl ?_))))))))))))))
  refine Gd_T (cl1 h n_unit_Valid (cc21 h.ext) fun w h => ?_)
  refine PickP_T (GdP_T (dbS PC.nil (by rfl) ?_))
  refine Gd_T (cl1 h n_unit_Valid (cc22 h.ext) fun w h => ?_)
  refine GdP_T (Dv_nF (PickP_T (GdP_T (dbS (PC.cons (by rfl) PC.nil) (by rfl) ?_))))
  refine Gd_T (cl1 h n_unit_ValidUnit (cc23 h.ext) fun w h => ?_)
  refine PickP_T (GdP_T (dbS (PC.cons (by rfl) PC.nil) (by rfl) ?_))
  refine Gd_T (cl1 h n_unit_ValidUnit (cc24 h.ext) fun w h => ?_)
  refine GdP_T (Dv_nF (PickP_T ?_))
  exact lf9 _ (h.pick [] (by decide) rfl)
 clear hK
 replace h := h.dr
 refine dlA h 5 rfl rfl ?_
 refine ⟨?_, ?_⟩
 refine cl1 h n_law05_us (cc6 h.ext) fun w h => ?_
 refine klA h 5 rfl rfl ?_
 refine ⟨?_, ?_⟩
 refine cl1 h n_unit_Sub (cc14 h.ext) fun w h => ?_
 refine ExP2 (alS h fun g7 w h => ?_)
 refine klA h 6 rfl rfl ?_
 refine stA h 0 rfl rfl rfl rfl fun w h => ?_
 exact lf1 _ _ (h.pick [0, 2, 4, 6] (by decide) rfl)
 refine alS h fun g7 w h => ?_
 refine klA h 6 rfl rfl ?_
 refine cl1 h n_unit_Sub (cc14 h.ext) fun w h => ?_
 refine ExP2 (stA h 0 rfl rfl rfl rfl fun w h => ?_)
 exact lf1 _ _ (h.pick [0, 2, 4, 6] (by decide) rfl)
 refine alS h fun g7 w h => ?_
 refine klA h 6 rfl rfl ?_
 refine cl1 h n_law05_us (cc6 h.ext) fun w h => ?_
 refine klA h 6 rfl rfl ?_
 refine cl1 h n_unit_Sub (cc14 h.ext) fun w h => ?_
 refine ExP2 (stA h 0 rfl rfl rfl rfl fun w h => ?_)
 exact lf1 _ _ (h.pick [0, 2, 4, 6] (by decide) rfl)
theorem qE_cases (o : Option QT) : (qE o = 0 ∧ ∃ q, o = some q) ∨ (qE o = 50 ∧ o = none) := by
 rcases o with _ | q
 ·exact .inr ⟨rfl, rfl⟩
 ·exact .inl ⟨rfl, q, rfl⟩
theorem qE_some {o : Option QT} (h : qE o = 0) : ∃ q, o = some q := by
 rcases qE_cases o with ⟨_, h1⟩ | ⟨h1, _⟩
 ·exact h1
 ·omega
section
variable {a b q : QT}
theorem addO_get (h : addO a b = some q) : ∃ x y, valQ a = some x ∧ valQ b = some y ∧ valQ q = some (x + y) ∧ q.u = a.u ∧ a.u = b.u := by
 obtain ⟨hu, x, y, z, hx, hy, hz, hq, e⟩ := opQ_get h
 rw [oAdd_fit (valQ_some hx).2.2.2 (valQ_some hy).2.2.2] at hz
 cases hz
 exact ⟨x, y, hx, hy, hq, e, hu rfl⟩
theorem subO_get (h : subO a b = some q) : ∃ x y, valQ a = some x ∧ valQ b = some y ∧ valQ q = some (x - y) ∧ q.u = a.u ∧ a.u = b.u := by
 obtain ⟨hu, x, y, z, hx, hy, hz, hq, e⟩ := opQ_get h
 rw [oSub_fit (valQ_some hx).2.2.2 (valQ_some hy).2.2.2] at hz
 cases hz
 exact ⟨x, y, hx, hy, hq, e, hu rfl⟩
theorem mulO_get (h : mulO a b = some q) : ∃ x y, valQ a = some x ∧ valQ b = some y ∧ valQ q = some (x * y) ∧ q.u = mpU (fun x y => x + y) a.u b.u := by
 obtain ⟨hu, x, y, z, hx, hy, hz, hq, e⟩ := opQ_get h
 rw [oMul_fit (valQ_some hx).2.2.2 (valQ_some hy).2.2.2] at hz
 cases hz
 exact ⟨x, y, hx, hy, hq, e⟩
theorem divO_get (h : divO a b = some q) : ∃ x y, valQ a = some x ∧ valQ b = some y ∧ valQ q = some (x / y) ∧ y ≠ 0 ∧ q.u = mpU (fun x y => x - y) a.u b.u := by
 obtain ⟨hu, x, y, z, hx, hy, hz, hq, e⟩ := opQ_get h
 by_cases h0 : y = 0
 ·rw [h0, oDiv_zero] at hz; cases hz
 ·rw [oDiv_fit (valQ_some hx).2.2.2 (valQ_some hy).2.2.2 h0] at hz
  cases hz
  exact ⟨x, y, hx, hy, hq, h0, e⟩
end
abbrev Qe (p q : QT) : Prop := p.p.1 = q.p.1 ∧ p.p.2 = q.p.2 ∧ p.u.1 = q.u.1 ∧ p.u.2.1 = q.u.2.1 ∧ p.u.2.2.1 = q.u.2.2.1 ∧ p.u.2.2.2 = q.u.2.2.2
theorem Qe.of {p q : QT} (h : p = q) : Qe p q := by subst h; exact ⟨rfl, rfl, rfl, rfl, rfl, rfl⟩
section
variable {a b c : QT} (hbc : b.u = c.u)
include hbc
end
end Go.Proofs.YtdbcpkihokagkaaGreatDoor
