/-
  Contracts and plain lemmas. By an AI agent.
-/
import Derived.Test.YtnkmbjedcjcccaaGreatDoorAlF
set_option linter.unusedSimpArgs false
set_option linter.unusedVariables false
set_option linter.unusedSectionVars false
namespace Go.Proofs.YtnkmbjedcjcccaaGreatDoor
open Go Go.Eng Go.Proofs Go.Num Go.RowKit
set_option maxRecDepth 100000
section
variable {w : World} {K : Value → World → Prop} {KP : Value → Prop} {c wi : Bool}
variable {a1 a2 a3 a10 a11 a12 b1 b2 b3 b10 b11 b12 : Int} {a4 a5 a6 a7 a8 a9 a13 a14 b4 b5 b6 b7 b8 b9 b13 b14 : List UInt8} {a15 b15 : Bool}
theorem w_split {Q : Prop} (h : ¬ (a1 = b1 ∧ a2 = b2 ∧ a3 = b3 ∧ a4 = b4 ∧ a5 = b5 ∧ a6 = b6 ∧ a7 = b7 ∧ a8 = b8 ∧ a9 = b9 ∧ a10 = b10 ∧ a11 = b11 ∧ a12 = b12 ∧ a13 = b13 ∧ a14 = b14 ∧ a15 = b15)) (k1 : ¬ a1 = b1 → Q) (k2 : a1 = b1 → ¬ a2 = b2 → Q) (k3 : a1 = b1 → a2 = b2 → ¬ a3 = b3 → Q) (k4 : a1 = b1 → a2 = b2 → a3 = b3 → (a4 == b4) = false → Q) (k5 : a1 = b1 → a2 = b2 → a3 = b3 → a4 = b4 → (a5 == b5) = false → Q) (k6 : a1 = b1 → a2 = b2 → a3 = b3 → a4 = b4 → a5 = b5 → (a6 == b6) = false → Q) (k7 : a1 = b1 → a2 = b2 → a3 = b3 → a4 = b4 → a5 = b5 → a6 = b6 → (a7 == b7) = false → Q) (k8 : a1 = b1 → a2 = b2 → a3 = b3 → a4 = b4 → a5 = b5 → a6 = b6 → a7 = b7 → (a8 == b8) = false → Q) (k9 : a1 = b1 → a2 = b2 → a3 = b3 → a4 = b4 → a5 = b5 → a6 = b6 → a7 = b7 → a8 = b8 → (a9 == b9) = false → Q) (k10 : a1 = b1 → a2 = b2 → a3 = b3 → a4 = b4 → a5 = b5 → a6 = b6 → a7 = b7 → a8 = b8 → a9 = b9 → ¬ a10 = b10 → Q) (k11 : a1 = b1 → a2 = b2 → a3 = b3 → a4 = b4 → a5 = b5 → a6 = b6 → a7 = b7 → a8 = b8 → a9 = b9 → a10 = b10 → ¬ a11 = b11 → Q) (k12 : a1 = b1 → a2 = b2 → a3 = b3 → a4 = b4 → a5 = b5 → a6 = b6 → a7 = b7 → a8 = b8 → a9 = b9 → a10 = b10 → a11 = b11 → ¬ a12 = b12 → Q) (k13 : a1 = b1 → a2 = b2 → a3 = b3 → a4 = b4 → a5 = b5 → a6 = b6 → a7 = b7 → a8 = b8 → a9 = b9 → a10 = b10 → a11 = b11 → a12 = b12 → (a13 == b13) = false → Q) (k14 : a1 = b1 → a2 = b2 → a3 = b3 → a4 = b4 → a5 = b5 → a6 = b6 → a7 = b7 → a8 = b8 → a9 = b9 → a10 = b10 → a11 = b11 → a12 = b12 → a13 = b13 → (a14 == b14) = false → Q) (k15 : a1 = b1 → a2 = b2 → a3 = b3 → a4 = b4 → a5 = b5 → a6 = b6 → a7 = b7 → a8 = b8 → a9 = b9 → a10 = b10 → a11 = b11 → a12 = b12 → a13 = b13 → a14 = b14 → ¬ a15 = b15 → Q) : Q := by
 by_cases h1 : a1 = b1
 rotate_left
 ·exact k1 (by simpa using h1)
 by_cases h2 : a2 = b2
 rotate_left
 ·exact k2 h1 (by simpa using h2)
 by_cases h3 : a3 = b3
 rotate_left
 ·exact k3 h1 h2 (by simpa using h3)
 by_cases h4 : a4 = b4
 rotate_left
 ·exact k4 h1 h2 h3 (by simpa using h4)
 by_cases h5 : a5 = b5
 rotate_left
 ·exact k5 h1 h2 h3 h4 (by simpa using h5)
 by_cases h6 : a6 = b6
 rotate_left
 ·exact k6 h1 h2 h3 h4 h5 (by simpa using h6)
 by_cases h7 : a7 = b7
 rotate_left
 ·exact k7 h1 h2 h3 h4 h5 h6 (by simpa using h7)
 by_cases h8 : a8 = b8
 rotate_left
 ·exact k8 h1 h2 h3 h4 h5 h6 h7 (by simpa using h8)
 by_cases h9 : a9 = b9
 rotate_left
 ·exact k9 h1 h2 h3 h4 h5 h6 h7 h8 (by simpa using h9)
 by_cases h10 : a10 = b10
 rotate_left
 ·exact k10 h1 h2 h3 h4 h5 h6 h7 h8 h9 (by simpa using h10)
 by_cases h11 : a11 = b11
 rotate_left
 ·exact k11 h1 h2 h3 h4 h5 h6 h7 h8 h9 h10 (by simpa using h11)
 by_cases h12 : a12 = b12
 rotate_left
 ·exact k12 h1 h2 h3 h4 h5 h6 h7 h8 h9 h10 h11 (by simpa using h12)
 by_cases h13 : a13 = b13
 rotate_left
 ·exact k13 h1 h2 h3 h4 h5 h6 h7 h8 h9 h10 h11 h12 (by simpa using h13)
 by_cases h14 : a14 = b14
 rotate_left
 ·exact k14 h1 h2 h3 h4 h5 h6 h7 h8 h9 h10 h11 h12 h13 (by simpa using h14)
 by_cases h15 : a15 = b15
 rotate_left
 ·exact k15 h1 h2 h3 h4 h5 h6 h7 h8 h9 h10 h11 h12 h13 h14 (by simpa using h15)
 exact absurd ⟨h1, h2, h3, h4, h5, h6, h7, h8, h9, h10, h11, h12, h13, h14, h15⟩ h
theorem gdW {op : BinOp} {c : Bool} {xs ys : Array Value} {w : World} : (eqG op tWc c (.agg xs) (.agg ys)).run Tryz.prog w = .ok () w := eqG_agg (by kernel_rfl)
set_option maxHeartbeats 4000000 in
theorem dwNeT (h : ¬ (a1 = b1 ∧ a2 = b2 ∧ a3 = b3 ∧ a4 = b4 ∧ a5 = b5 ∧ a6 = b6 ∧ a7 = b7 ∧ a8 = b8 ∧ a9 = b9 ∧ a10 = b10 ∧ a11 = b11 ∧ a12 = b12 ∧ a13 = b13 ∧ a14 = b14 ∧ a15 = b15)) (hk : KP (.bool true)) : Dv Tryz.prog wi (bn .neq tWc c (.agg #[.int .i64 a1, .int .i64 a2, .int .i64 a3, str a4, str a5, str a6, str a7, str a8, str a9, .int .i64 a10, .int .i64 a11, .int .i64 a12, str a13, str a14, .bool a15]) (.agg #[.int .i64 b1, .int .i64 b2, .int .i64 b3, str b4, str b5, str b6, str b7, str b8, str b9, .int .i64 b10, .int .i64 b11, .int .i64 b12, str b13, str b14, .bool b15])) w KP := by
 refine w_split h (fun q => ?_) (fun e1 q => ?_) (fun e1 e2 q => ?_) (fun e1 e2 e3 q => ?_) (fun e1 e2 e3 e4 q => ?_) (fun e1 e2 e3 e4 e5 q => ?_) (fun e1 e2 e3 e4 e5 e6 q => ?_) (fun e1 e2 e3 e4 e5 e6 e7 q => ?_) (fun e1 e2 e3 e4 e5 e6 e7 e8 q => ?_) (fun e1 e2 e3 e4 e5 e6 e7 e8 e9 q => ?_) (fun e1 e2 e3 e4 e5 e6 e7 e8 e9 e10 q => ?_) (fun e1 e2 e3 e4 e5 e6 e7 e8 e9 e10 e11 q => ?_) (fun e1 e2 e3 e4 e5 e6 e7 e8 e9 e10 e11 e12 q => ?_) (fun e1 e2 e3 e4 e5 e6 e7 e8 e9 e10 e11 e12 e13 q => ?_) (fun e1 e2 e3 e4 e5 e6 e7 e8 e9 e10 e11 e12 e13 e14 q => ?_)
 ·cases wi <;> ((try simp -dsimp [go_sem, gdW, q]); repeat (simp -dsimp (disch := omega) only [gL, gI]; try simp -dsimp [go_sem, gdW, q])) <;> exact hk
 ·subst_vars; cases wi <;> ((try simp -dsimp [go_sem, gdW, q]); repeat (simp -dsimp (disch := omega) only [gL, gI]; try simp -dsimp [go_sem, gdW, q])) <;> exact hk
 ·subst_vars; cases wi <;> ((try simp -dsimp [go_sem, gdW, q]); repeat (simp -dsimp (disch := omega) only [gL, gI]; try simp -dsimp [go_sem, gdW, q])) <;> exact hk
 ·subst_vars; cases wi <;> ((try simp -dsimp [go_sem, gdW, q]); repeat (simp -dsimp (disch := omega) only [gL, gI]; try simp -dsimp [go_sem, gdW, q])) <;> exact hk
 ·subst_vars; cases wi <;> ((try simp -dsimp [go_sem, gdW, q]); repeat (simp -dsimp (disch := omega) only [gL, gI]; try simp -dsimp [go_sem, gdW, q])) <;> exact hk
 ·subst_vars; cases wi <;> ((try simp -dsimp [go_sem, gdW, q]); repeat (simp -dsimp (disch := omega) only [gL, gI]; try simp -dsimp [go_sem, gdW, q])) <;> exact hk
 ·subst_vars; cases wi <;> ((try simp -dsimp [go_sem, gdW, q]); repeat (simp -dsimp (disch := omega) only [gL, gI]; try simp -dsimp [go_sem, gdW, q])) <;> exact hk
 ·subst_vars; cases wi <;> ((try simp -dsimp [go_sem, gdW, q]); repeat (simp -dsimp (disch := omega) only [gL, gI]; try simp -dsimp [go_sem, gdW, q])) <;> exact hk
 ·subst_vars; cases wi <;> ((try simp -dsimp [go_sem, gdW, q]); repeat (simp -dsimp (disch := omega) only [gL, gI]; try simp -dsimp [go_sem, gdW, q])) <;> exact hk
 ·subst_vars; cases wi <;> ((try simp -dsimp [go_sem, gdW, q]); repeat (simp -dsimp (disch := omega) only [gL, gI]; try simp -dsimp [go_sem, gdW, q])) <;> exact hk
 ·subst_vars; cases wi <;> ((try simp -dsimp [go_sem, gdW, q]); repeat (simp -dsimp (disch := omega) only [gL, gI]; try simp -dsimp [go_sem, gdW, q])) <;> exact hk
 ·subst_vars; cases wi <;> ((try simp -dsimp [go_sem, gdW, q]); repeat (simp -dsimp (disch := omega) only [gL, gI]; try simp -dsimp [go_sem, gdW, q])) <;> exact hk
 ·subst_vars; cases wi <;> ((try simp -dsimp [go_sem, gdW, q]); repeat (simp -dsimp (disch := omega) only [gL, gI]; try simp -dsimp [go_sem, gdW, q])) <;> exact hk
 ·subst_vars; cases wi <;> ((try simp -dsimp [go_sem, gdW, q]); repeat (simp -dsimp (disch := omega) only [gL, gI]; try simp -dsimp [go_sem, gdW, q])) <;> exact hk
 ·subst_vars; cases a15 <;> cases b15 <;> first | exact absurd rfl q | (cases wi <;> ((try simp -dsimp [go_sem, gdW]); repeat (simp -dsimp (disch := omega) only [gL, gI]; try simp -dsimp [go_sem, gdW])) <;> exact hk)
set_option maxHeartbeats 4000000 in
theorem dwNeF (hk : KP (.bool false)) : Dv Tryz.prog wi (bn .neq tWc c (.agg #[.int .i64 a1, .int .i64 a2, .int .i64 a3, str a4, str a5, str a6, str a7, str a8, str a9, .int .i64 a10, .int .i64 a11, .int .i64 a12, str a13, str a14, .bool a15]) (.agg #[.int .i64 a1, .int .i64 a2, .int .i64 a3, str a4, str a5, str a6, str a7, str a8, str a9, .int .i64 a10, .int .i64 a11, .int .i64 a12, str a13, str a14, .bool a15])) w KP := by
 cases a15 <;> cases wi <;> ((try simp -dsimp [go_sem, gdW]); repeat (simp -dsimp (disch := omega) only [gL, gI]; try simp -dsimp [go_sem, gdW])) <;> exact hk
end
open Go.Alm (Ft Wt Sm VW VA)
theorem wr_ne {r s : WR} (h : r ≠ s) : ¬ (r.op = s.op ∧ r.ve = s.ve ∧ r.lim = s.lim ∧ r.m.1 = s.m.1 ∧ r.m.2 = s.m.2 ∧ r.a.1 = s.a.1 ∧ r.a.2 = s.a.2 ∧ r.b.1 = s.b.1 ∧ r.b.2 = s.b.2 ∧ r.st = s.st ∧ r.th = s.th ∧ r.sn = s.sn ∧ r.we.1 = s.we.1 ∧ r.we.2 = s.we.2 ∧ r.ru = s.ru) := by
 rintro ⟨h1, h2, h3, h4, h5, h6, h7, h8, h9, h10, h11, h12, h13, h14, h15⟩
 apply h
 obtain ⟨op, ve, lim, ⟨m1, m2⟩, ⟨a1, a2⟩, ⟨b1, b2⟩, st, th, sn, ⟨e1, e2⟩, ru⟩ := r
 obtain ⟨op', ve', lim', ⟨m1', m2'⟩, ⟨a1', a2'⟩, ⟨b1', b2'⟩, st', th', sn', ⟨e1', e2'⟩, ru'⟩ := s
 simp only at *
 subst_vars
 rfl
section
variable {w : World} {KP : Value → Prop} {c wi : Bool} {r s : WR}
theorem dWT (h : r ≠ s) (hk : KP (.bool true)) : Dv Tryz.prog wi (bn .neq tWc c (vW r) (vW s)) w KP := dwNeT (wr_ne h) hk
theorem dWF (hk : KP (.bool false)) : Dv Tryz.prog wi (bn .neq tWc c (vW r) (vW r)) w KP := dwNeF hk
end
open Classical in
noncomputable def smA (p q : RS) (l k : List WR) : Bool := decide (p = q ∧ l = k)
theorem smA_t {p : RS} {l : List WR} : smA p p l l = true := by unfold smA; simp
theorem smA_f {p q : RS} {l k : List WR} (h : ¬ (p = q ∧ l = k)) : smA p q l k = false := by unfold smA; simp only [decide_eq_false_iff_not]; exact h
theorem rs_t {p q : RS} (h : p = q) : (p.1 == q.1 && p.2 == q.2) = true := by subst h; simp
theorem rs_f {p q : RS} (h : ¬ p = q) : (p.1 == q.1 && p.2 == q.2) = false := by
 refine Bool.eq_false_iff.2 fun hc => h ?_
 rw [Bool.and_eq_true, beq_iff_eq, beq_iff_eq] at hc
 exact Prod.ext hc.1 hc.2
theorem take_ext {α : Type} {l k : List α} {j : Nat} {a b : α} (h : l.take j = k.take j) (ha : l[j]? = some a) (hb : k[j]? = some b) (hab : a = b) : l.take (j + 1) = k.take (j + 1) := by
 rw [take_snoc ha, take_snoc hb, h, hab]
section
variable {w0 : World} {p q : RS} {v u : Value} {l k : List WR} (hA : Ak w0 p v l) (hB : Ak w0 q u k)
include hA hB
open Classical in
set_option maxHeartbeats 4000000 in
theorem c_sEq : Calls Tryz.prog 50 #[v, u] w0 (Ret fun r w' => Ext w0 w' ∧ r = .bool (decide (l = k))) := by
 obtain ⟨hp, hv, hk, hl⟩ := hA
 obtain ⟨hq, hu, hku, hlu⟩ := hB
 by_cases hlen : l.length = k.length
 rotate_left
 ·have hno : ¬ l = k := fun h => hlen (by rw [h])
  rw [decide_eq_false hno]
  apply e_slices_Equal_api_Watch_api_Watch
  unfold s_slices_Equal_api_Watch_api_Watch
  have h := Hp.init [] w0
  refine leS (hv.hp h) ?_
  refine leS (hu.hp h) ?_
  refine Bn_neT (by omega) (If_T ?_)
  exact Ret.mk ⟨h.ext, rfl⟩
 obtain ⟨b, hb⟩ : ∃ b, decide (l = k) = b := ⟨_, rfl⟩
 rw [hb]
 apply e_slices_Equal_api_Watch_api_Watch
 unfold s_slices_Equal_api_Watch_api_Watch
 have h := Hp.init [] w0
 refine leS (hv.hp h) ?_
 refine leS (hu.hp h) ?_
 refine Bn_neF (by omega) (If_F (leS (hv.hp h) ?_))
 refine Lp1.mk (fun i W => ∃ j : Nat, j ≤ l.length ∧ i = .int .i64 j ∧ l.take j = k.take j ∧ Hp [] w0 W [])
  (fun i _ => match i with | .int _ i' => l.length - i'.toNat | _ => 0) ⟨0, by omega, rfl, by simp, h⟩ ?_
 clear h
 rintro _ W ⟨j, hj, rfl, hall, h⟩
 by_cases hjl : j < l.length
 ·refine Exists.elim (p := fun x => l[j]? = some x) ⟨_, List.getElem?_eq_getElem hjl⟩ fun x hx => ?_
  refine Exists.elim (p := fun x => k[j]? = some x) ⟨_, List.getElem?_eq_getElem (by omega)⟩ fun y hy => ?_
  have sx : Seg (l.flatMap fW) (j * 15) (fW x) := flat_seg (f := fW) (fun _ => rfl) hx
  have sy : Seg (k.flatMap fW) (j * 15) (fW y) := flat_seg (f := fW) (fun _ => rfl) hy
  by_cases hxy : x = y
  ·have ht := take_ext hall hx hy hxy
   subst hxy
   refine Bn_ltT (by omega) (If_T ?_)
   replace h := h.dr
   refine diH h ‹_› (by omega) fun zb zo zk zv zc => ?_
   refine dhA h ‹_› ‹_› (by rfl) ?_
   refine diH h ‹_› (by omega) fun zb zo zk zv zc => ?_
   refine dhA h ‹_› ‹_› (by rfl) ?_
   refine dWF ?_
   refine If_F (Bn_ad (by omega) (by omega) ?_)
   exact ⟨⟨j + 1, by omega, rfl, ht, h⟩, by show l.length - ((j : Int) + 1).toNat < l.length - (j : Int).toNat; omega⟩
  ·have hb : b = false := by
    rw [← hb]
    exact decide_eq_false fun e => hxy (by subst e; rw [hx] at hy; exact Option.some.inj hy)
   subst hb
   refine Bn_ltT (by omega) (If_T ?_)
   replace h := h.dr
   refine diH h ‹_› (by omega) fun zb zo zk zv zc => ?_
   refine dhA h ‹_› ‹_› (by rfl) ?_
   refine diH h ‹_› (by omega) fun zb zo zk zv zc => ?_
   refine dhA h ‹_› ‹_› (by rfl) ?_
   refine dWT hxy ?_
   refine If_T ?_
   exact Ret.mk ⟨h.ext, rfl⟩
 rw [List.take_of_length_le (by omega), List.take_of_length_le (by omega)] at hall
 have hb : b = true := by
  rw [← hb]
  exact decide_eq_true hall
 subst hb
 refine Bn_ltF (by omega) (If_F ?_)
 exact Ret.mk ⟨h.ext, rfl⟩
open Classical in
set_option maxHeartbeats 4000000 in
theorem c_aSame : Calls Tryz.prog 15 #[vA p v, vA q u] w0 (Ret fun r w' => Ext w0 w' ∧ r = .bool (smA p q l k)) := by
 have hse := fun {W : World} (e : Ext w0 W) => c_sEq (w0 := W) (hA.ext e) (hB.ext e)
 by_cases hpq : p = q
 ·have hr := rs_t hpq
  by_cases hlk : l = k
  ·have cc1 : ∀ {W : World}, Ext w0 W → Calls Tryz.prog 50 #[v, u] W (Ret fun r w' => Ext W w' ∧ r = .bool true) := fun e => by
    have := hse e
    rw [decide_eq_true hlk] at this; exact this
   have e : smA p q l k = true := by rw [hpq, hlk]; exact smA_t
   rw [e]
   apply e_alarm_Same
   unfold s_alarm_Same
   have h := Hp.init [] w0
   refine bxA h fun g1 w h => ?_
   refine bxA h fun g2 w h => ?_
   refine faS (ldA h 1 rfl rfl ?_)
   refine faS (ldA h 0 rfl rfl ?_)
   refine qEqT ‹_› ?_
   refine Gd_T (faS (Gd_T (Eng.ld1 h 1 rfl rfl (Gd_T (faS (Gd_T (Eng.ld1 h 0 rfl rfl (Gd_T (cl1 h n_slices_Equal_api_Watch_api_Watch (cc1 h.ext) fun w h => ?_)))))))))
   refine Pick_T ?_
   exact Ret.mk ⟨h.ext, rfl⟩
  ·have cc1 : ∀ {W : World}, Ext w0 W → Calls Tryz.prog 50 #[v, u] W (Ret fun r w' => Ext W w' ∧ r = .bool false) := fun e => by
    have := hse e
    rw [decide_eq_false hlk] at this; exact this
   have e : smA p q l k = false := smA_f fun h => hlk h.2
   rw [e]
   apply e_alarm_Same
   unfold s_alarm_Same
   have h := Hp.init [] w0
   refine bxA h fun g1 w h => ?_
   refine bxA h fun g2 w h => ?_
   refine faS (ldA h 1 rfl rfl ?_)
   refine faS (ldA h 0 rfl rfl ?_)
   refine qEqT ‹_› ?_
   refine Gd_T (faS (Gd_T (Eng.ld1 h 1 rfl rfl (Gd_T (faS (Gd_T (Eng.ld1 h 0 rfl rfl (Gd_T (cl1 h n_slices_Equal_api_Watch_api_Watch (cc1 h.ext) fun w h => ?_)))))))))
   refine Pick_T ?_
   exact Ret.mk ⟨h.ext, rfl⟩
 ·have hr := rs_f hpq
  have e : smA p q l k = false := smA_f fun h => hpq h.1
  rw [e]
  apply e_alarm_Same
  unfold s_alarm_Same
  have h := Hp.init [] w0
  refine bxA h fun g1 w h => ?_
  refine bxA h fun g2 w h => ?_
  refine faS (ldA h 1 rfl rfl ?_)
  refine faS (ldA h 0 rfl rfl ?_)
  refine qEqF ‹_› ?_
  refine Gd_FT (Gd_FT (Gd_FT (Gd_FT (Gd_FT (Pick_F ?_)))))
  exact Ret.mk ⟨h.ext, rfl⟩
end
section
variable {P : Program} {t : TypeId} {K : Value → World → Prop} {KP : Value → Prop} {w : World} {v : Value} {g o : Nat}
theorem ldBx [One P t] (h : w.cell? ⟨g, o, none⟩ = some v) (hk : K v w) : Ld P t (pr g o) w K := V_of (run_ld1c h) hk
end
abbrev tYr : TypeId := 93
theorem one_fW : ∀ l : List WR, ((l.flatMap fW).all fun x => x.oneCell') = true
 | [] => rfl
 | r :: l => by
  rw [List.flatMap_cons, List.all_append, one_fW l]
  rfl
abbrev aOut (p : RS) (v : Value) (b : Bool) : Value := if b then .tuple #[vA p v, .int .i64 0] else .tuple #[vA ([], []) (.slice none 0 0), .int .i64 280]
theorem c_done {w0 : World} {g : Nat} {p : RS} {v : Value} {l : List WR} (hE : En w0) (hA : Ak w0 p v l) (hg : Blk w0 g tYr [str p.1, str p.2, v]) : Calls Tryz.prog 51 #[pr g 0] w0 (Ret fun r w' => Ext w0 w' ∧ r = aOut p v (okA p l)) := by
 have hV := fun {W : World} (e : Ext w0 W) => c_aValid (w0 := W) (hE.ext e) (hA.ext e)
 obtain ⟨a, n, m, rfl, _, _⟩ := hA.hv.key
 cases hb : okA p l with
 | false =>
  rw [hb] at hV
  have cc1 := @hV
  apply e_alarm_year_done
  unfold s_alarm_year_done
  have h := Hp.init [] w0
  refine alS h fun g1 w h => ?_
  refine Nc_ok ?_
  refine faS (lgA h ‹_› (by rfl) ?_)
  refine cl1 h n_alarm_Valid (cc1 h.ext) fun w h => ?_
  refine Un_F (If_T (bdS PC.nil (by rfl) ?_))
  refine stA h 0 rfl rfl rfl rfl fun w h => ?_
  refine rcA h 0 rfl rfl ?_
  dsimp only [List.set] at h
  exact Ret.mk ⟨h.ext, rfl⟩
 | true =>
  rw [hb] at hV
  have cc1 := @hV
  apply e_alarm_year_done
  unfold s_alarm_year_done
  have h := Hp.init [] w0
  refine alS h fun g1 w h => ?_
  refine Nc_ok ?_
  refine faS (lgA h ‹_› (by rfl) ?_)
  refine cl1 h n_alarm_Valid (cc1 h.ext) fun w h => ?_
  refine Un_T (If_F (Nc_ok ?_))
  refine faS (lgA h ‹_› (by rfl) ?_)
  refine stA h 0 rfl rfl rfl rfl fun w h => ?_
  refine rcA h 0 rfl rfl ?_
  dsimp only [List.set] at h
  exact Ret.mk ⟨h.ext, rfl⟩
theorem ak_nil {w : World} {p : RS} (hp : RSk p) : Ak w p (.slice none 0 0) [] := ⟨hp, ⟨rfl, .inl ⟨rfl, rfl⟩⟩, by simp, by simp⟩
theorem c_Open {w0 : World} {p : RS} (hE : En w0) (hp : RSk p) : Calls Tryz.prog 17 #[vR p] w0 (Ret fun r w' => Ext w0 w' ∧ r = aOut p (.slice none 0 0) (okA p [])) := by
 have hE2 := hE
 apply e_alarm_Open
 unfold s_alarm_Open
 have h := Hp.init [] w0
 refine bxA h fun g1 w h => ?_
 refine alS h fun g2 w h => ?_
 refine ldA h 1 rfl rfl ?_
 refine bdS (PC.cons (by rfl) PC.nil) (by rfl) ?_
 refine bdS (PC.cons (by rfl) PC.nil) (by rfl) ?_
 refine bxA h fun g3 w h => ?_
 have cc1 := fun {W : World} (e : Ext w W) => c_done (w0 := W) (g := g3) (p := p) (v := .slice none 0 0) (hE.ext (h.ext.tr e)) (ak_nil hp) ((h.get (i := 0) rfl : Blk _ _ _ _).ext e)
 cases hb : okA p [] with
 | false =>
  rw [hb] at cc1
  refine cl1 h n_alarm_year_done (cc1 (.refl _)) fun w h => ?_
  refine Ex2 (stA h 1 rfl rfl rfl rfl fun w h => ?_)
  refine rcA h 1 rfl rfl ?_
  dsimp only [List.set] at h
  exact Ret.mk ⟨h.ext, rfl⟩
 | true =>
  rw [hb] at cc1
  refine cl1 h n_alarm_year_done (cc1 (.refl _)) fun w h => ?_
  refine Ex2 (stA h 1 rfl rfl rfl rfl fun w h => ?_)
  refine rcA h 1 rfl rfl ?_
  dsimp only [List.set] at h
  exact Ret.mk ⟨h.ext, rfl⟩
section
variable {w0 : World} {p : RS} {v : Value} {l : List WR} (hA : Ak w0 p v l)
include hA
end
section
variable {w0 : World} {B : Rat} {v : Value} {ws : List Wt} (hA : Ak w0 (tx B) v (ws.map wr)) (hV : VA B ws)
include hA hV
theorem c_LeftT (hE : En w0) : Calls Tryz.prog 19 #[vA (tx B) v] w0 (Ret fun r w' => Ext w0 w' ∧ r = .tuple #[vR (tx (B - Alm.sumW Alm.al ws)), .int .i64 0]) := by
 have hok : OkA (tx B) (ws.map wr) := ⟨B, ws, rfl, rfl, hV⟩
 have cc1 := fun {W : World} (e : Ext w0 W) => c_aValid (w0 := W) (hE.ext e) (hA.ext e)
 rw [okA_t hok] at cc1
 have hv : SlC w0 15 v ws.length ((ws.map wr).flatMap fW) := by have := hA.hv; rw [List.length_map] at this; exact this
 have hal : ∀ w ∈ ws, Sm 1 w.al := fun w hw => (hV.ok w hw).al
 have hl := hV.len
 have hs := sum_SR hal
 have sb := Sm.sr1 hV.b
 have cc2 := fun {W : World} (e : Ext w0 W) => c_spent (w0 := W) (p := tx B) (hv.ext e) hal hV.len (hE.ext e)
 have cc3 := fun {W : World} (e : Ext w0 W) => k_sub (w := W) (k := 99) sb hs (by omega) (by omega) (by omega) (by omega) (hE.hT.ext e)
 have cc4 := fun {W : World} (_ : Ext w0 W) => c_must (w := W) (p := tx (B - Alm.sumW Alm.al ws))
 apply e_alarm_Left
 unfold s_alarm_Left
 have h := Hp.init [] w0
 refine bxA h fun g1 w h => ?_
 refine alS h fun g2 w h => ?_
 refine ldA h 1 rfl rfl ?_
 refine cl1 h n_alarm_Valid (cc1 h.ext) fun w h => ?_
 refine Un_T (If_F ?_)
 replace h := h.dr
 refine dfS (dlA h 1 rfl rfl ?_)
 refine dlA h 1 rfl rfl ?_
 refine cl1 h n_alarm_spent (cc2 h.ext) fun w h => ?_
 refine klA h 1 rfl rfl ?_
 refine cl1 h n_rational_Sub (cc3 h.ext) fun w h => ?_
 refine ExP2 (cl1 h n_alarm_must (cc4 h.ext) fun w h => ?_)
 refine stA h 0 rfl rfl rfl rfl fun w h => ?_
 refine rcA h 0 rfl rfl ?_
 dsimp only [List.set] at h
 exact Ret.mk ⟨h.ext, rfl⟩
end
theorem eqNl_t {c : Bool} {w : World} {K : Value → World → Prop} (hk : K (.bool true) w) : Bn Tryz.prog .eql 26 c (.slice none 0 0) (.slice none 0 0) w K := by ((try simp -dsimp [go_sem, Tryz.underlying26]); repeat (simp -dsimp (disch := omega) only [gL, gI]; try simp -dsimp [go_sem, Tryz.underlying26])); exact hk
theorem eqNl_f {c : Bool} {a : Addr} {n m : Nat} {w : World} {K : Value → World → Prop} (hk : K (.bool false) w) : Bn Tryz.prog .eql 26 c (.slice (some a) n m) (.slice none 0 0) w K := by ((try simp -dsimp [go_sem, Tryz.underlying26]); repeat (simp -dsimp (disch := omega) only [gL, gI]; try simp -dsimp [go_sem, Tryz.underlying26])); exact hk
theorem c_Clone {w0 : World} {v : Value} {l : List WR} (hv : SlC w0 15 v l.length (l.flatMap fW)) (hl : l.length ≤ 1000000) : Calls Tryz.prog 90 #[v] w0 (Ret fun r w' => ∃ u, r = u ∧ Hp [] w0 w' [ro tWc 15 u l.length (l.flatMap fW)]) := by
 have h1 := one_fW l
 rcases hv.2 with ⟨rfl, h0⟩ | ⟨b, o, cap, rfl, hc⟩
 ·have e : l = [] := List.eq_nil_of_length_eq_zero h0
  subst e
  apply e_slices_Clone_api_Watch_api_Watch
  unfold s_slices_Clone_api_Watch_api_Watch
  refine eqNl_t ?_
  have h := (Hp.init [] w0).nil tWc 15
  refine If_T ?_
  exact Ret.mk ⟨_, rfl, h⟩
 ·apply e_slices_Clone_api_Watch_api_Watch
  unfold s_slices_Clone_api_Watch_api_Watch
  refine eqNl_f ?_
  have h := Hp.init [] w0
  refine If_F (bs0 h fun v w h => ?_)
  refine apR (by rfl) (by decide) h 0 rfl (hv.hp h) (by first | rfl | assumption) (by omega) fun v1 w h => ?_
  dsimp only [List.set] at h
  have h : Hp [] w0 w [ro tWc 15 v1 (0 + l.length) ([] ++ l.flatMap fW)] := h
  rw [Nat.zero_add, List.nil_append] at h
  exact Ret.mk ⟨_, rfl, h⟩
theorem c_year {w0 : World} {p : RS} {v : Value} {l : List WR} (hv : SlC w0 15 v l.length (l.flatMap fW)) (hl : l.length ≤ 1000000) : Calls Tryz.prog 56 #[vA p v] w0 (Ret fun r w' => ∃ g u, r = pr g 0 ∧ Hp [] w0 w' [bx g tYr [str p.1, str p.2, u], ro tWc 15 u l.length (l.flatMap fW)]) := by
 have cr1 := fun {W : World} (e : Ext w0 W) => c_Clone (w0 := W) (hv.ext e) hl
 apply e_alarm_of
 unfold s_alarm_of
 have h := Hp.init [] w0
 refine bxA h fun g1 w h => ?_
 replace h := h.dr
 refine dfS (dlA h 0 rfl rfl ?_)
 refine dfS (dl1 h 0 rfl rfl (clR h n_slices_Clone_api_Watch_api_Watch (cr1 h.ext) fun v1 w h => ?_))
 refine klA h 1 rfl rfl ?_
 refine dbS (PC.cons (by rfl) (PC.cons (by first | assumption | exact qY 0 h rfl) PC.nil)) (by rfl) ?_
 refine dbS (PC.cons (by rfl) PC.nil) (by rfl) ?_
 refine bxA h fun g2 w h => ?_
 exact Ret.mk ⟨_, _, rfl, h.pick [0, 1] (by decide) rfl⟩
abbrev tYp : TypeId := 91
theorem c_all {w0 : World} {g : Nat} : Calls Tryz.prog 57 #[pr g 0] w0 (Ret fun r w' => ∃ b, r = .func (.func 91) #[] #[pr b 0] ∧ Hp [] w0 w' [bx b tYp [pr g 0]]) := by
 apply e_alarm_year_all
 unfold s_alarm_year_all
 have h := Hp.init [] w0
 refine bxA h fun g1 w h => ?_
 exact Ret.mk ⟨_, rfl, h⟩
def Hd (u : Value) (n gr : Nat) : Prop := (u = .slice none 0 0 ∧ n = 0) ∨ ∃ cap, u = .slice (some ⟨gr, 0, none⟩) n cap ∧ n ≤ cap
theorem hd_of {w : World} {e : TypeId} {c n : Nat} {u : Value} {xs : List Value} (h : w.ownsRow 0 e c u n xs) : ∃ gr, Hd u n gr := by
 obtain ⟨h1, h | ⟨g, cap, cur, h2, _, _, h3, _⟩⟩ := h
 ·exact ⟨0, .inl h⟩
 ·exact ⟨g, .inr ⟨cap, h2, h3⟩⟩
theorem Hd.some {u : Value} {n gr : Nat} (h : Hd u n gr) (hn : 0 < n) : ∃ cap, u = .slice (some ⟨gr, 0, none⟩) n cap := by
 rcases h with ⟨_, h⟩ | ⟨cap, h, _⟩
 ·omega
 ·exact ⟨cap, h⟩
abbrev ylds (n gr : Nat) : List (Value × Value) := (List.range n).map fun (i : Nat) => ((.int .i64 (i : Int) : Value), pr gr (0 + i * 15))
theorem ylds_get {n gr i : Nat} (h : i < n) : (ylds n gr)[i]? = some (.int .i64 (i : Int), pr gr (0 + i * 15)) := by
 simp [ylds, h]
set_option maxHeartbeats 4000000 in
theorem it_all {w : World} {b g gr n : Nat} {u : Value} {J : Nat → World → Prop} (hu : Hd u n gr) (hn : n ≤ 1000000) (hJ : ∀ k W, J k W → W.cell? ⟨b, 0, none⟩ = some (pr g 0) ∧ W.cell? ⟨g, 2, none⟩ = some u) :
 Iter Tryz.prog 91 #[pr b 0] ((ylds n gr).map fun p => [p.1, p.2]) w J := by
 intro lx JJ XX W1 hW1 hJJ hst hXst hround h0
 have f0 := hJ 0 W1 (hJJ _ _ h0)
 apply e_alarm_year_all_1
 unfold s_alarm_year_all_1
 have h := Hp.init [] W1
 refine ldBx f0.1 ?_
 refine Nc_ok ?_
 refine faS (faS (ldBx (o := 2) f0.2 ?_))
 have hlen : Bt Tryz.prog .len #[26] 3 #[u] W1 = Bt Tryz.prog .len #[26] 3 #[u] W1 := rfl
 have go : ∀ {K : Value → World → Prop}, K (.int .i64 (n : Int)) W1 → Bt Tryz.prog .len #[26] 3 #[u] W1 K := fun {K} hk => by
  rcases hu with ⟨rfl, rfl⟩ | ⟨cap, rfl, hc⟩
  ·exact Bt_lenL ⟨_, Tryz.underlying26⟩ hk
  ·exact Bt_lenL ⟨_, Tryz.underlying26⟩ hk
 refine go ?_
 clear go hlen
 refine Lp1.mk (fun a W => ∃ s : Nat, s ≤ n ∧ a = .int .i64 s ∧ JJ s W) (fun a _ => match a with | .int _ x => n - x.toNat | _ => 0) ⟨0, by omega, rfl, h0⟩ ?_
 clear h f0
 rintro _ W ⟨s, hs, rfl, hj⟩
 have f := hJ _ W (hJJ _ _ hj)
 have h := Hp.init [] W
 by_cases hsl : s < n
 ·have hr := hround s [.int .i64 (s : Int), pr gr (0 + s * 15)] W (by rw [List.getElem?_map, ylds_get hsl]; rfl) hj
  obtain ⟨cap, rfl⟩ := hu.some (by omega)
  refine Bn_ltT (by omega) (If_T (ldBx f.1 ?_))
  refine Nc_ok ?_
  refine faS (faS (ldBx (o := 2) f.2 ?_))
  refine V_of (run_ia (by omega) _) ?_
  refine Cw_y hr ?_
  rintro bb W' (⟨rfl, hj'⟩ | ⟨rfl, hx⟩)
  ·have h := Hp.init [] W'
   refine Un_T (If_F (Bn_ad (by omega) (by omega) ?_))
   refine ⟨⟨s + 1, by omega, rfl, hj'⟩, by show n - ((s : Int) + 1).toNat < n - (s : Int).toNat; omega⟩
  ·have h := Hp.init [] W'
   refine Un_F (If_T ?_)
   exact ⟨⟨_, rfl⟩, .inr hx⟩
 ·have e : s = n := by omega
  subst e
  have e2 : ((ylds s gr).map fun p => [p.1, p.2]).length = s := by simp
  refine Bn_ltF (by omega) (If_F ?_)
  refine ⟨⟨_, rfl⟩, .inl ?_⟩
  rw [e2]
  exact hj
def stF (st : Int) (l : List WR) : Int := l.foldl (fun s v => max s v.th) st
theorem stF_snoc {st : Int} {l : List WR} {i : Nat} {x : WR} (h : l[i]? = some x) : stF st (l.take (i + 1)) = max (stF st (l.take i)) x.th := by
 rw [take_snoc h]; unfold stF; rw [List.foldl_append]; rfl
theorem stF_I64 {st : Int} {l : List WR} (h0 : I64 st) (h : ∀ r ∈ l, I64 r.th) : I64 (stF st l) := by
 unfold stF
 induction l generalizing st with
 | nil => exact h0
 | cons r l ih =>
  rw [List.foldl_cons]
  have := h r List.mem_cons_self
  exact ih (by omega) fun x hx => h x (List.mem_cons_of_mem _ hx)
def nw (l : List WR) (r : WR) : WR := ⟨r.op, r.ve, r.lim, r.m, r.a, r.b, stF r.st l, stF r.st l, 0, ([49], [49]), (r.a.1 == [49] && r.a.2 == [49])⟩
set_option maxHeartbeats 8000000 in
theorem c_Register {w0 : World} {p : RS} {v : Value} {l : List WR} {r : WR} (hE : En w0) (hA : Ak w0 p v l) (hr : WRk r) : Calls Tryz.prog 22 #[vA p v, vW r] w0
 (Ret fun o w' => (¬ OkA p l ∧ Ext w0 w' ∧ o = .tuple #[vA ([], []) (.slice none 0 0), .int .i64 280]) ∨ (OkA p l ∧ ∃ u, o = aOut p u (okA p (l ++ [nw l r])) ∧ Hp [] w0 w' [ro tWc 15 u (l.length + 1) ((l ++ [nw l r]).flatMap fW)])) := by
 have hV := fun {W : World} (e : Ext w0 W) => c_aValid (w0 := W) (hE.ext e) (hA.ext e)
 by_cases hok : OkA p l
 rotate_left
 ·rw [okA_f hok] at hV
  have cc1 := @hV
  apply e_alarm_Register
  unfold s_alarm_Register
  have h := Hp.init [] w0
  refine bxA h fun g1 w h => ?_
  refine bxA h fun g2 w h => ?_
  refine alS h fun g3 w h => ?_
  refine ldA h 2 rfl rfl ?_
  refine cl1 h n_alarm_Valid (cc1 h.ext) fun w h => ?_
  refine Un_F (If_T (bdS PC.nil (by rfl) ?_))
  refine stA h 0 rfl rfl rfl rfl fun w h => ?_
  refine rcA h 0 rfl rfl ?_
  dsimp only [List.set] at h
  exact Ret.mk (.inl ⟨hok, h.ext, rfl⟩)
 rw [okA_t hok] at hV
 have cc1 := @hV
 have z1 := hE.z1
 have hl12 : l.length ≤ 12 := by
  obtain ⟨B, ws, _, rfl, h⟩ := hok
  rw [List.length_map]; exact h.len
 obtain ⟨hp, hv, hk, hl⟩ := hA
 apply e_alarm_Register
 unfold s_alarm_Register
 have h := Hp.init [] w0
 refine bxA h fun g1 w h => ?_
 refine bxA h fun g2 w h => ?_
 refine alS h fun g3 w h => ?_
 refine ldA h 2 rfl rfl ?_
 refine cl1 h n_alarm_Valid (cc1 h.ext) fun w h => ?_
 refine Un_T (If_F (ldA h 2 rfl rfl ?_))
 refine Cl_i n_alarm_of (c_year (w0 := w) (p := p) (hv.ext h.ext) hl) ?_
 rintro _ w1 ⟨gy, u, rfl, h1⟩
 have h := h.cat2 h1 bx_sm ro_sm
 refine Cl_i n_alarm_year_all (c_all (g := gy)) ?_
 rintro _ w2 ⟨b, rfl, h2⟩
 have h := h.cat1 h2 bx_sm
 clear h1 h2 cc1
 have hsz := h.size
 have hks := h.ksz
 refine Exists.elim (hd_of (h.get (i := 2) rfl : World.ownsRow _ _ _ _ _ _ _)) fun gr hu => ?_
 refine Rf2.mk 91 #[pr b 0] (ylds l.length gr) (fun i W => Hp [] w0 W [bx b tYp [pr gy 0], bx gy tYr [str p.1, str p.2, u], ro tWc 15 u l.length (l.flatMap fW), bx g3 tAl [str [], str [], .slice none 0 0], bx g2 tWc (fW ⟨r.op, r.ve, r.lim, r.m, r.a, r.b, stF r.st (l.take i), r.th, r.sn, r.we, r.ru⟩), bx g1 tAl [str p.1, str p.2, v]]) (fun _ _ => False) rfl n_alarm_year_all_1
  (it_all hu (by omega) (g := gy) fun i W h => ⟨(h.get (i := 0) rfl : Blk _ _ _ _).cell rfl, (h.get (i := 1) rfl : Blk _ _ _ _).cell rfl⟩) (fun i W W' h b => h.bk hks hsz b) (fun _ _ _ h _ => h) h ?_ ?_ (fun _ _ _ _ h => h.elim) (by simp)
 ·rintro a0 a1 i W hi h hs
  have hin : i < l.length := by
   have := (List.getElem?_eq_some_iff.1 hi).1
   simpa using this
  rw [ylds_get hin] at hi
  obtain ⟨rfl, rfl⟩ := Prod.mk.inj (Option.some.inj hi)
  obtain ⟨cap, hcap⟩ := hu.some (by omega)
  refine Exists.elim (p := fun x => l[i]? = some x) ⟨_, List.getElem?_eq_getElem hin⟩ fun x hx => ?_
  have sx : Seg (l.flatMap fW) (i * 15) (fW x) := flat_seg (f := fW) (fun _ => rfl) hx
  have hst := stF_snoc (st := r.st) hx
  replace h := h.fr w2.heap.size (by omega) (fun k hk => .inl (hks k hk))
  replace h := h.dr
  refine dfS (dl1 h 5 rfl rfl (NcP_ok ?_))
  refine dfS (dr1 h 3 rfl ‹_› sx (by rfl) ?_)
  refine Dv_max (dfS (st1 h 5 rfl rfl rfl rfl fun w h => ?_))
  refine ⟨?_, ?_⟩
  dsimp only [List.set] at h
  ·rw [hst]
   exact h.pick [1, 2, 3, 4, 5, 6] (by decide) rfl
  ·exact h.get (i := 0) rfl
 ·rintro D W hD hd h
  replace h := h.df hd (by omega) (fun hc => by have := hks _ hc; omega)
  rw [show (ylds l.length gr).length = l.length by simp, List.take_length] at h
  clear hd
  have hsI := stF_I64 hr.st (fun x hx => (hk x hx).th)
  have h1 := one_fW [nw l r]
  obtain ⟨bA, hb⟩ : ∃ bA, (r.a.1 == [49] && r.a.2 == [49]) = bA := ⟨_, rfl⟩
  have e1 : [nw l r].flatMap fW = fW ⟨r.op, r.ve, r.lim, r.m, r.a, r.b, stF r.st l, stF r.st l, 0, ([49], [49]), bA⟩ := by unfold nw; rw [hb]; rfl
  have e2 : (l ++ [nw l r]).flatMap fW = l.flatMap fW ++ fW ⟨r.op, r.ve, r.lim, r.m, r.a, r.b, stF r.st l, stF r.st l, 0, ([49], [49]), bA⟩ := by rw [List.flatMap_append, e1]
  have fin : ∀ {w : World} {u2 : Value}, Hp [] w0 w [ro tWc 15 u2 (l.length + 1) ((l ++ [nw l r]).flatMap fW)] → Ak w p u2 (l ++ [nw l r]) := fun {w} {u2} h => by
   refine ⟨hp, ?_, fun x hx => ?_, by rw [List.length_append]; simp; omega⟩
   ·rw [List.length_append]; exact h.sl (i := 0) rfl
   ·rcases List.mem_append.1 hx with hx | hx
    ·exact hk x hx
    ·rw [List.mem_singleton] at hx
     subst hx
     exact ⟨hr.op, hr.ve, hr.lim, hr.m, hr.a, hr.b, hsI, hsI, by show I64 0; omega, ⟨by simp [nw], by simp [nw]⟩⟩
  obtain ⟨bo, hbo⟩ : ∃ bo, okA p (l ++ [nw l r]) = bo := ⟨_, rfl⟩
  rw [e2] at fin
  rw [e2, hbo]
  cases bA with
  | false =>
   replace h := h.dr
   refine dfS (dl1 h 5 rfl rfl (dgA h ‹_› (by rfl) ?_))
   refine dfS (dlA h 5 rfl rfl ?_)
   refine dgA h ‹_› (by rfl) ?_
   refine dqEqF ‹_› ?_
   refine dfS (st1 h 5 rfl rfl rfl rfl fun w h => ?_)
   refine kgA h ‹_› (by rfl) ?_
   refine kgA h ‹_› (by rfl) ?_
   refine Ke_dv (dqEqF ‹_› rfl) ?_
   refine dfS (st1 h 5 rfl rfl rfl rfl fun w h => ?_)
   refine kgA h ‹_› (by rfl) ?_
   refine kgA h ‹_› (by rfl) ?_
   refine Ke_dv (dqEqF ‹_› rfl) ?_
   refine dfS (stA h 5 rfl rfl rfl rfl fun w h => ?_)
   refine kgA h ‹_› (by rfl) ?_
   refine Ke_dv (dqEqF ‹_› rfl) ?_
   refine dfS (st1 h 5 rfl rfl rfl rfl fun w h => ?_)
   dsimp only [List.set] at h
   refine NcP_ok ?_
   replace h := h.dr
   refine dfS (dfS (dl1 h 2 rfl rfl (dlA h 5 rfl rfl ?_)))
   refine bs1A h (by rfl) (by decide) (by rfl) (by decide) fun v1 w h => ?_
   refine kl1 h 3 rfl rfl (apR (by rfl) (by decide) h 4 rfl (qZ 0 h rfl) (by first | rfl | assumption) (by omega) fun v2 w h => ?_)
   refine NcP_ok ?_
   refine dfS (dfS (st1w h 3 rfl (qZ 4 h rfl) rfl fun w h => ?_))
   dsimp only [List.set] at h
   have A := fin (h.pick [4] (by decide) rfl)
   refine Cl_i n_alarm_year_done (c_done (hE.ext h.ext) A (h.get (i := 3) rfl)) ?_
   rintro _ w' ⟨x, rfl⟩
   have h := h.x x
   rw [hbo]
   cases bo with
   | false =>
    refine Ex2 (stA h 5 rfl rfl rfl rfl fun w h => ?_)
    refine tkE h 1 rfl fun w h => ?_
    refine rcA h 5 rfl rfl ?_
    dsimp only [List.set] at h
    exact Ret.mk (.inr ⟨hok, _, rfl, h.pick [4] (by decide) rfl⟩)
   | true =>
    refine Exists.elim (qZ 4 h rfl).key fun qa hq => Exists.elim hq fun ql hq => Exists.elim hq fun qm hq => ?_
    have hq := hq.1
    subst hq
    refine Ex2 (stA h 5 rfl rfl rfl rfl fun w h => ?_)
    refine tkE h 1 rfl fun w h => ?_
    refine rcA h 5 rfl rfl ?_
    dsimp only [List.set] at h
    exact Ret.mk (.inr ⟨hok, _, rfl, h.pick [4] (by decide) rfl⟩)
  | true =>
   replace h := h.dr
   refine dfS (dl1 h 5 rfl rfl (dgA h ‹_› (by rfl) ?_))
   refine dfS (dlA h 5 rfl rfl ?_)
   refine dgA h ‹_› (by rfl) ?_
   refine dqEqT ‹_› ?_
   refine dfS (st1 h 5 rfl rfl rfl rfl fun w h => ?_)
   refine kgA h ‹_› (by rfl) ?_
   refine kgA h ‹_› (by rfl) ?_
   refine Ke_dv (dqEqT ‹_› rfl) ?_
   refine dfS (st1 h 5 rfl rfl rfl rfl fun w h => ?_)
   refine kgA h ‹_› (by rfl) ?_
   refine kgA h ‹_› (by rfl) ?_
   refine Ke_dv (dqEqT ‹_› rfl) ?_
   refine dfS (stA h 5 rfl rfl rfl rfl fun w h => ?_)
   refine kgA h ‹_› (by rfl) ?_
   refine Ke_dv (dqEqT ‹_› rfl) ?_
   refine dfS (st1 h 5 rfl rfl rfl rfl fun w h => ?_)
   dsimp only [List.set] at h
   refine NcP_ok ?_
   replace h := h.dr
   refine dfS (dfS (dl1 h 2 rfl rfl (dlA h 5 rfl rfl ?_)))
   refine bs1A h (by rfl) (by decide) (by rfl) (by decide) fun v1 w h => ?_
   refine kl1 h 3 rfl rfl (apR (by rfl) (by decide) h 4 rfl (qZ 0 h rfl) (by first | rfl | assumption) (by omega) fun v2 w h => ?_)
   refine NcP_ok ?_
   refine dfS (dfS (st1w h 3 rfl (qZ 4 h rfl) rfl fun w h => ?_))
   dsimp only [List.set] at h
   have A := fin (h.pick [4] (by decide) rfl)
   refine Cl_i n_alarm_year_done (c_done (hE.ext h.ext) A (h.get (i := 3) rfl)) ?_
   rintro _ w' ⟨x, rfl⟩
   have h := h.x x
   rw [hbo]
   cases bo with
   | false =>
    refine Ex2 (stA h 5 rfl rfl rfl rfl fun w h => ?_)
    refine tkE h 1 rfl fun w h => ?_
    refine rcA h 5 rfl rfl ?_
    dsimp only [List.set] at h
    exact Ret.mk (.inr ⟨hok, _, rfl, h.pick [4] (by decide) rfl⟩)
   | true =>
    refine Exists.elim (qZ 4 h rfl).key fun qa hq => Exists.elim hq fun ql hq => Exists.elim hq fun qm hq => ?_
    have hq := hq.1
    subst hq
    refine Ex2 (stA h 5 rfl rfl rfl rfl fun w h => ?_)
    refine tkE h 1 rfl fun w h => ?_
    refine rcA h 5 rfl rfl ?_
    dsimp only [List.set] at h
    exact Ret.mk (.inr ⟨hok, _, rfl, h.pick [4] (by decide) rfl⟩)
end Go.Proofs.YtnkmbjedcjcccaaGreatDoor
