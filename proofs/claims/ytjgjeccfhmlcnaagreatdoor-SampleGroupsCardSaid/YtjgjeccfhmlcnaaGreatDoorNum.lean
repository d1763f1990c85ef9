/-
  Contracts and plain lemmas. By an AI agent.
-/
import Derived.Test.YtjgjeccfhmlcnaaGreatDoorSpec
import Derived.Test.YtjgjeccfhmlcnaaGreatDoorEng
import Derived.Test.YtjgjeccfhmlcnaaGreatDoorPlain
set_option linter.unusedSimpArgs false
set_option linter.unusedVariables false
set_option linter.unusedSectionVars false
namespace Go.Proofs.YtjgjeccfhmlcnaaGreatDoor
open Go Go.Eng Go.Proofs Go.Num Go.RowKit
set_option maxRecDepth 100000
abbrev iv (x : Int) : Value := .int .i64 x
abbrev NumL (w : World) (v : Value) (xs : List Int) : Prop := SlAt w v (xs.map iv)
theorem sliN : Sli Tryz.prog 117 3 (.int .i64 0) 8 := ⟨Tryz.underlying117, ⟨Tryz.t3, by kernel_rfl, by kernel_rfl, by kernel_rfl, by kernel_rfl⟩, rfl⟩
def Fresh (B : Nat) (v : Value) : Prop := ∀ a n c, v = .slice (some a) n c → B ≤ a.block
theorem Fresh.mono {B C : Nat} {v : Value} (h : Fresh B v) (hc : C ≤ B) : Fresh C v := fun a n c hv => Nat.le_trans hc (h a n c hv)
theorem Fresh.own {w : World} {base : Nat} {e : TypeId} {v : Value} {xs : List Value} (h : Owns w base e v xs) : Fresh base v := by
 rintro a n c rfl
 exact (h.lt a.block rfl).1
theorem c_at {w : World} {v : Value} {xs : List Int} (h : NumL w v xs) (hl : xs.length ≤ 1000000) {i : Nat} (hi : i ≤ 1000000) :
 Calls Tryz.prog 113 #[v, .int .i64 i] w (Ret fun u w' => u = .int .i64 (dig xs i) ∧ w' = w) := by
 apply e_integer_number_at
 unfold s_integer_number_at
 rcases h with ⟨rfl, hx⟩ | ⟨b, o, cap, rfl, hc, hcells⟩
 ·have : xs = [] := by simpa using hx
  subst this
  have h0 : ¬ (i : Int) < 0 := by omega
  simp -dsimp [go_sem, h0]
  exact Ret.mk ⟨by simp [dig], rfl⟩
 ·simp only [List.length_map] at hc ⊢
  by_cases h : i < xs.length
  ·have hh : xs[i]? = some xs[i] := List.getElem?_eq_getElem _
   have := hcells i (iv xs[i]) (by simp [hh])
   simp -dsimp [go_sem, h, this]
   refine Ret.mk ⟨?_, rfl⟩; simp [dig, hh]
  ·have : xs[i]? = none := by simp; omega
   simp -dsimp [go_sem, h]
   exact Ret.mk ⟨by simp [dig, this], rfl⟩
theorem c_trimmed {w : World} {v : Value} {xs : List Int} (h : NumL w v xs) (hl : xs.length ≤ 1000000) :
 Calls Tryz.prog 107 #[v] w (Ret fun u w' => NumL w' u (trimL xs) ∧ w' = w ∧ ∀ B, Fresh B v → Fresh B u) := by
 apply e_integer_number_trimmed
 unfold s_integer_number_trimmed
 refine Lp1.mk (fun a W => W = w ∧ (∀ B, Fresh B v → Fresh B a) ∧ ∃ ys : List Int, NumL w a ys ∧ trimL ys = trimL xs ∧ ys.length ≤ 1000000) (fun a _ => match a with | .slice _ n _ => n | _ => 0) ⟨rfl, fun _ h => h, xs, h, rfl, hl⟩ ?_
 rintro a W ⟨rfl, hf, ys, hy, ht, hly⟩
 rcases hy with ⟨rfl, hx⟩ | ⟨b, o, cap, rfl, hc, hcells⟩
 ·have : ys = [] := by simpa using hx
  subst this
  ((try simp -dsimp [go_sem]); repeat (simp -dsimp (disch := omega) only [gL, gI]; try simp -dsimp [go_sem]))
  exact Ret.mk ⟨.inl ⟨rfl, by rw [← ht]; rfl⟩, rfl, hf⟩
 ·simp only [List.length_map] at hc ⊢
  rcases List.eq_nil_or_concat ys with rfl | ⟨zs, d, rfl⟩
  ·((try simp -dsimp [go_sem]); repeat (simp -dsimp (disch := omega) only [gL, gI]; try simp -dsimp [go_sem]))
   exact Ret.mk ⟨.inr ⟨b, o, cap, by rw [← ht]; rfl, by rw [← ht]; simp [trimL], by rw [← ht]; intro i x hx; simp [trimL] at hx⟩, rfl, hf⟩
  ·simp only [List.concat_eq_append] at *
   have hcell := hcells zs.length (iv d) (by simp)
   simp only [List.length_append, List.length_cons, List.length_nil] at hc hly ⊢
   by_cases hd : d = 0
   ·subst hd
    ((try simp -dsimp [go_sem, hcell]); repeat (simp -dsimp (disch := omega) only [gL, gI]; try simp -dsimp [go_sem, hcell]))
    refine ⟨fun B hB a n c hv => hf B hB a (zs.length + 1) c (by simp at hv ⊢; exact ⟨hv.1, hv.2.2⟩), zs, .inr ⟨b, o, cap, by simp, by simp; omega, fun i x hx => hcells i x ?_⟩, by rw [← ht, trimL_snoc_zero], by omega⟩
    rw [List.map_append, List.getElem?_append_left (List.getElem?_eq_some_iff.1 hx).1]; exact hx
   ·((try simp -dsimp [go_sem, hcell, hd]); repeat (simp -dsimp (disch := omega) only [gL, gI]; try simp -dsimp [go_sem, hcell, hd]))
    rw [trimL_snoc hd] at ht
    exact Ret.mk ⟨.inr ⟨b, o, cap, by rw [← ht]; simp, by rw [← ht]; simp; omega, by rw [← ht]; exact hcells⟩, rfl, by simpa using hf⟩
theorem c_fold {w : World} {n : Nat} {g : Value} {D : Nat → Int} (hn : n ≤ 100000) (hD : ∀ i, -9999 ≤ D i ∧ D i ≤ 100000000) (h0 : ∀ i, n ≤ i → D i = 0) (hpos : 0 ≤ tot D n)
 (hg : ∀ W, Ext w W → ∀ i : Nat, i ≤ 200000 → ∀ pan K, (∀ W', Ext W W' → K (.int .i64 (D i)) W') → Cw Tryz.prog g #[.int .i64 i] W pan K) :
 Calls Tryz.prog 111 #[.int .i64 n, .int .i64 0, g] w (Ret fun u W => Ext w W ∧ ∃ xs : List Int, NumL W u xs ∧ Dg xs ∧ num xs = tot D n ∧ xs.length ≤ 200000 ∧ Fresh w.heap.size u) := by
 apply e_integer_fold_integer_number
 unfold s_integer_fold_integer_number
 ((try simp -dsimp [go_sem]); repeat (simp -dsimp (disch := omega) only [gL, gI]; try simp -dsimp [go_sem]))
 refine Ms_own sliN (by decide) (n := n + 1) (by push_cast; rfl) (by omega) (Nat.le_refl w.heap.size) ?_
 intro v0 W0 hv0 hW0
 have hW0 := World.grownBy.ext hW0
 obtain ⟨I, hI⟩ : ∃ I : Value → Value → Value → World → Prop, I = (fun c o i W => ∃ (i' : Nat) (c' : Int) (xs : List Int), i = .int .i64 i' ∧ c = .int .i64 c' ∧ Owns W w.heap.size 3 o (xs.map iv) ∧ Ext w W ∧ Dg xs ∧ xs.length = i' ∧
  num xs + c' * 10000 ^ i' = tot D i' ∧ -1 ≤ c' ∧ c' ≤ 20000 ∧ (i' ≤ n ∨ i' + c' ≤ n + 20000) ∧ i' ≤ n + 20000) := ⟨_, rfl⟩
 obtain ⟨μ, hμ⟩ : ∃ μ : Value → Value → Value → World → Nat, μ = (fun c o i _ => match c, i with | .int _ c', .int _ i' => if i' < n then (n - i').toNat + 30000 else c'.toNat | _, _ => 0) := ⟨_, rfl⟩
 refine Lp3.mk I μ (by rw [hI]; exact ⟨0, 0, [], rfl, rfl, hv0, hW0, by simp [Dg], rfl, by simp [num, tot], by decide, by decide, .inl (by omega), by omega⟩) ?_
 intro c o i W hh
 rw [hI] at hh
 obtain ⟨i', c', xs, rfl, rfl, ho, hW, hd, hl, hnum, hc1, hc2, hi, hi2⟩ := hh
 have hwsz := hW.size
 have hcpos : n ≤ i' → 0 ≤ c' := by
  intro hni
  rw [tot_stay h0 hni] at hnum
  have := num_lt hd
  rw [hl] at this
  refine Classical.byContradiction fun hc => ?_
  have : c' = -1 := by omega
  subst this; omega
 have hgo : ¬ (i' < n ∨ c' ≠ 0) → Ret (fun u W => Ext w W ∧ ∃ xs : List Int, NumL W u xs ∧ Dg xs ∧ num xs = tot D n ∧ xs.length ≤ 200000 ∧ Fresh w.heap.size u) (.returned o) W := by
  intro h
  have h1 : n ≤ i' := by omega
  have h2 : c' = 0 := by omega
  refine Ret.mk ⟨hW, xs, ho.slAt, hd, ?_, by omega, Fresh.own ho⟩
  rw [← tot_stay h0 h1, ← hnum, h2]; omega
 have key : (i' < n ∨ c' ≠ 0) → ∀ d c2 : Int, 0 ≤ d → d < 10000 → d + c2 * 10000 = D i' + c' → -1 ≤ c2 → c2 ≤ 20000 → ∀ W2 (_ : Ext W W2) v3 W3, Owns W3 w.heap.size 3 v3 (xs.map iv ++ [iv d]) → Below w.heap.size W2 W3 →
  (I (.int .i64 c2) v3 (.int .i64 ((i' : Int) + 1)) W3 ∧ μ (.int .i64 c2) v3 (.int .i64 ((i' : Int) + 1)) W3 < μ (.int .i64 c') o (.int .i64 i') W) := by
  intro hgo d c2 hd0 hd1 hs hc21 hc22 W2 hW2 v3 W3 ho3 hb3
  have hle : n ≤ i' → c2 < c' ∧ 0 < c' := by
   intro h
   have := hcpos h
   have hDi := h0 i' h
   omega
  rw [hI, hμ]
  show _ ∧ (if (i' : Int) + 1 < n then (n - ((i' : Int) + 1)).toNat + 30000 else c2.toNat) < (if (i' : Int) < n then (n - (i' : Int)).toNat + 30000 else c'.toNat)
  refine ⟨⟨i' + 1, c2, xs ++ [d], by push_cast; rfl, rfl, by simpa using ho3, (hW.tr hW2).trans hb3, ?_, by simp [hl], ?_, hc21, hc22, ?_, ?_⟩, ?_⟩
  ·intro x hx
   rcases List.mem_append.1 hx with h | h
   ·exact hd x h
   ·simp at h; omega
  ·rw [num_append, hl]
   simp only [num, tot, ← hnum, Int.pow_succ]
   have : D i' = d + c2 * 10000 - c' := by omega
   rw [this]; grind
  ·by_cases h : i' < n
   ·exact .inl (by omega)
   ·have := hle (by omega); right; omega
  ·by_cases h : i' < n
   ·omega
   ·have := hle (by omega); omega
  ·by_cases h : i' < n
   ·by_cases h2 : i' + 1 < n
    ·rw [if_pos (by omega), if_pos (by omega)]; omega
    ·rw [if_neg (by omega), if_pos (by omega)]; omega
   ·have := hle (by omega)
    rw [if_neg (by omega), if_neg (by omega)]; omega
 have hDi := hD i'
 have hbase := hW.size
 by_cases hor : i' < n ∨ c' ≠ 0
 ·have hpick : (decide (i' < n) || decide (c' ≠ 0)) = true := by simpa using hor
  have fin : ∀ K, (∀ W', Ext W W' → K (.int .i64 (D i')) W') → Cw Tryz.prog g #[.int .i64 i'] W (Pk (Ret fun u W => Ext w W ∧ ∃ xs : List Int, NumL W u xs ∧ Dg xs ∧ num xs = tot D n ∧ xs.length ≤ 200000 ∧ Fresh w.heap.size u)) K := fun K h => hg W hW i' (by omega) _ K h
  obtain ⟨s, hs⟩ : ∃ s, s = D i' + c' := ⟨_, rfl⟩
  have how : ∀ W2, Ext W W2 → Owns W2 w.heap.size 3 o (xs.map iv) := fun W2 h => ho.ext h
  by_cases h1 : i' < n
  all_goals
   ((try simp -dsimp [go_sem, hor]); repeat (simp -dsimp (disch := omega) only [gL, gI]; try simp -dsimp [go_sem, hor]))
   refine fin _ fun W2 hW2 => ?_
   have hsz2 := hW2.size
   ((try simp -dsimp [go_sem, ← hs]); repeat (simp -dsimp (disch := omega) only [gL, gI]; try simp -dsimp [go_sem, ← hs]))
   rcases Int.lt_trichotomy s 0 with h | h | h
   ·((try simp -dsimp [go_sem]); repeat (simp -dsimp (disch := omega) only [gL, gI]; try simp -dsimp [go_sem]))
    refine ap_one sliN (by decide) (how W2 hW2) rfl rfl (by simp; omega) (by omega) fun v' W' ho' hb' _ => ?_
    ((try simp -dsimp [go_sem]); repeat (simp -dsimp (disch := omega) only [gL, gI]; try simp -dsimp [go_sem]))
    exact key hor (s + 10000) (-1) (by omega) (by omega) (by omega) (by omega) (by omega) W2 hW2 v' W' ho' hb'
   ·((try simp -dsimp [go_sem]); repeat (simp -dsimp (disch := omega) only [gL, gI]; try simp -dsimp [go_sem]))
    refine ap_one sliN (by decide) (how W2 hW2) rfl rfl (by simp; omega) (by omega) fun v' W' ho' hb' _ => ?_
    ((try simp -dsimp [go_sem]); repeat (simp -dsimp (disch := omega) only [gL, gI]; try simp -dsimp [go_sem]))
    exact key hor s 0 (by omega) (by omega) (by omega) (by omega) (by omega) W2 hW2 v' W' ho' hb'
   ·by_cases h3 : s < 10000
    ·((try simp -dsimp [go_sem]); repeat (simp -dsimp (disch := omega) only [gL, gI]; try simp -dsimp [go_sem]))
     refine ap_one sliN (by decide) (how W2 hW2) rfl rfl (by simp; omega) (by omega) fun v' W' ho' hb' _ => ?_
     ((try simp -dsimp [go_sem]); repeat (simp -dsimp (disch := omega) only [gL, gI]; try simp -dsimp [go_sem]))
     exact key hor s 0 (by omega) (by omega) (by omega) (by omega) (by omega) W2 hW2 v' W' ho' hb'
    ·have hq := Int.tdiv_eq_ediv_of_nonneg (b := 10000) (show 0 ≤ s by omega)
     have hr := Int.tmod_eq_emod_of_nonneg (b := 10000) (show 0 ≤ s by omega)
     ((try simp -dsimp [go_sem, hq, hr]); repeat (simp -dsimp (disch := omega) only [gL, gI]; try simp -dsimp [go_sem, hq, hr]))
     refine ap_one sliN (by decide) (how W2 hW2) rfl rfl (by simp; omega) (by omega) fun v' W' ho' hb' _ => ?_
     ((try simp -dsimp [go_sem]); repeat (simp -dsimp (disch := omega) only [gL, gI]; try simp -dsimp [go_sem]))
     exact key hor (s % 10000) (s / 10000) (by omega) (by omega) (by omega) (by omega) (by omega) W2 hW2 v' W' ho' hb'
 ·have h1 : ¬ i' < n := by omega
  have h2 : c' = 0 := by omega
  ((try simp -dsimp [go_sem, h1, h2]); repeat (simp -dsimp (disch := omega) only [gL, gI]; try simp -dsimp [go_sem, h1, h2]))
  exact hgo hor
def NumAt (w : World) (v : Value) (x : Int) : Prop := ∃ xs : List Int, NumL w v xs ∧ Nrm xs ∧ num xs = x
theorem NumAt.ext {w w' : World} {v : Value} {x : Int} (h : NumAt w v x) (he : Ext w w') : NumAt w' v x := by
 obtain ⟨xs, h1, h2, h3⟩ := h
 exact ⟨xs, h1.ext he, h2, h3⟩
theorem SlAt.slice {w : World} {v : Value} {xs : List Value} (h : SlAt w v xs) : ∃ a cap, v = .slice a xs.length cap := by
 rcases h with ⟨rfl, rfl⟩ | ⟨b, o, cap, rfl, _⟩
 ·exact ⟨_, _, rfl⟩
 ·exact ⟨_, _, rfl⟩
theorem NumL.slice {w : World} {v : Value} {xs : List Int} (h : NumL w v xs) : ∃ a cap, v = .slice a xs.length cap := by
 have := SlAt.slice h; simpa using this
theorem c_plus_1 {w : World} {b c : Nat} {v u : Value} {xs ys : List Int} (hb : w.cell? ⟨b, 0, none⟩ = some v) (hc : w.cell? ⟨c, 0, none⟩ = some u) (hx : NumL w v xs) (hy : NumL w u ys)
 (hlx : xs.length ≤ 1000000) (hly : ys.length ≤ 1000000) (hdx : Dg xs) (hdy : Dg ys) {i : Nat} (hi : i ≤ 1000000) :
 Calls Tryz.prog 112 #[.int .i64 i, .pointer (some ⟨b, 0, none⟩), .pointer (some ⟨c, 0, none⟩)] w (Ret fun r w' => r = .int .i64 (dig xs i + dig ys i) ∧ Ext w w') := by
 have h1 := dig_bound hdx i
 have h2 := dig_bound hdy i
 obtain ⟨a1, cap1, rfl⟩ := hx.slice
 obtain ⟨a2, cap2, rfl⟩ := hy.slice
 apply e_integer_number_plus_1
 unfold s_integer_number_plus_1
 ((try simp -dsimp [go_sem, hb, hc]); repeat (simp -dsimp (disch := omega) only [gL, gI]; try simp -dsimp [go_sem, hb, hc]))
 refine Cl_i n_integer_number_at (c_at (hx.ext (Ext.dr (.refl w))) hlx hi) ?_
 rintro _ _ ⟨rfl, rfl⟩
 ((try simp -dsimp [go_sem, hb, hc]); repeat (simp -dsimp (disch := omega) only [gL, gI]; try simp -dsimp [go_sem, hb, hc]))
 refine Cl_i n_integer_number_at (c_at (hy.ext (Ext.dr (.refl w))) hly hi) ?_
 rintro _ _ ⟨rfl, rfl⟩
 ((try simp -dsimp [go_sem]); repeat (simp -dsimp (disch := omega) only [gL, gI]; try simp -dsimp [go_sem]))
 exact Ret.mk ⟨rfl, Ext.dr (.refl w)⟩
theorem c_minus_1 {w : World} {b c : Nat} {v u : Value} {xs ys : List Int} (hb : w.cell? ⟨b, 0, none⟩ = some v) (hc : w.cell? ⟨c, 0, none⟩ = some u) (hx : NumL w v xs) (hy : NumL w u ys)
 (hlx : xs.length ≤ 1000000) (hly : ys.length ≤ 1000000) (hdx : Dg xs) (hdy : Dg ys) {i : Nat} (hi : i ≤ 1000000) :
 Calls Tryz.prog 114 #[.int .i64 i, .pointer (some ⟨b, 0, none⟩), .pointer (some ⟨c, 0, none⟩)] w (Ret fun r w' => r = .int .i64 (dig xs i - dig ys i) ∧ Ext w w') := by
 have h1 := dig_bound hdx i
 have h2 := dig_bound hdy i
 obtain ⟨a1, cap1, rfl⟩ := hx.slice
 obtain ⟨a2, cap2, rfl⟩ := hy.slice
 apply e_integer_number_minus_1
 unfold s_integer_number_minus_1
 ((try simp -dsimp [go_sem, hb, hc]); repeat (simp -dsimp (disch := omega) only [gL, gI]; try simp -dsimp [go_sem, hb, hc]))
 refine Cl_i n_integer_number_at (c_at (hx.ext (Ext.dr (.refl w))) hlx hi) ?_
 rintro _ _ ⟨rfl, rfl⟩
 ((try simp -dsimp [go_sem, hb, hc]); repeat (simp -dsimp (disch := omega) only [gL, gI]; try simp -dsimp [go_sem, hb, hc]))
 refine Cl_i n_integer_number_at (c_at (hy.ext (Ext.dr (.refl w))) hly hi) ?_
 rintro _ _ ⟨rfl, rfl⟩
 ((try simp -dsimp [go_sem]); repeat (simp -dsimp (disch := omega) only [gL, gI]; try simp -dsimp [go_sem]))
 exact Ret.mk ⟨rfl, Ext.dr (.refl w)⟩
theorem c_by_1 {w : World} {b c : Nat} {v : Value} {k : Int} {xs : List Int} (hb : w.cell? ⟨b, 0, none⟩ = some v) (hc : w.cell? ⟨c, 0, none⟩ = some (.int .i64 k)) (hx : NumL w v xs)
 (hlx : xs.length ≤ 1000000) (hdx : Dg xs) (hk0 : 0 ≤ k) (hk : k ≤ 10000) {i : Nat} (hi : i ≤ 1000000) :
 Calls Tryz.prog 142 #[.int .i64 i, .pointer (some ⟨b, 0, none⟩), .pointer (some ⟨c, 0, none⟩)] w (Ret fun r w' => r = .int .i64 (dig xs i * k) ∧ Ext w w') := by
 have h1 := dig_bound hdx i
 obtain ⟨a1, cap1, rfl⟩ := hx.slice
 apply e_integer_number_by_1
 unfold s_integer_number_by_1
 ((try simp -dsimp [go_sem, hb, hc]); repeat (simp -dsimp (disch := omega) only [gL, gI]; try simp -dsimp [go_sem, hb, hc]))
 refine Cl_i n_integer_number_at (c_at (hx.ext (Ext.dr (.refl w))) hlx hi) ?_
 rintro _ _ ⟨rfl, rfl⟩
 have h3 : 0 ≤ dig xs i * k := Int.mul_nonneg h1.1 hk0
 have h4 : dig xs i * k ≤ 10000 * 10000 := Int.mul_le_mul (by omega) hk hk0 (by decide)
 ((try simp -dsimp [go_sem, hb, hc]); repeat (simp -dsimp (disch := omega) only [gL, gI]; try simp -dsimp [go_sem, hb, hc]))
 exact Ret.mk ⟨rfl, Ext.dr (.refl w)⟩
@[irreducible] def Mx : Int := 10000 ^ 1000
theorem NumAt.nonneg {w : World} {v : Value} {x : Int} (h : NumAt w v x) : 0 ≤ x := by
 obtain ⟨xs, _, h2, rfl⟩ := h; exact num_nonneg h2.1
theorem NumAt.get {w : World} {v : Value} {x : Int} (h : NumAt w v x) (hx : x < Mx) : ∃ xs : List Int, NumL w v xs ∧ Nrm xs ∧ num xs = x ∧ xs.length ≤ 1000 := by
 obtain ⟨xs, h1, h2, h3⟩ := h
 refine ⟨xs, h1, h2, h3, h2.len ?_⟩
 unfold Mx at hx; omega
theorem c_plus {w : World} {u v : Value} {x y : Int} (hu : NumAt w u x) (hv : NumAt w v y) (hx : x < Mx) (hy : y < Mx) :
 Calls Tryz.prog 80 #[u, v] w (Ret fun r w' => NumAt w' r (x + y) ∧ Ext w w' ∧ Fresh w.heap.size r) := by
 obtain ⟨xs, h1, h2, rfl, h3⟩ := hu.get hx
 obtain ⟨ys, k1, k2, rfl, k3⟩ := hv.get hy
 obtain ⟨a1, cap1, rfl⟩ := h1.slice
 obtain ⟨a2, cap2, rfl⟩ := k1.slice
 apply e_integer_number_plus
 unfold s_integer_number_plus
 ((try simp -dsimp [go_sem]); repeat (simp -dsimp (disch := omega) only [gL, gI]; try simp -dsimp [go_sem]))
 have ht : tot (fun i => dig xs i + dig ys i) (max xs.length ys.length) = num xs + num ys := by
  rw [tot_add, tot_dig (Nat.le_max_left ..), tot_dig (Nat.le_max_right ..)]
 obtain ⟨w1, hw1⟩ : ∃ w1, (w.alloc (Obj.cells #[.slice a1 xs.length cap1] 117)).alloc (Obj.cells #[.slice a2 ys.length cap2] 117) = w1 := ⟨_, rfl⟩
 have he : Ext w w1 := by rw [← hw1]; exact ((Ext.refl w).al _).al _
 have hb : w1.cell? ⟨w.heap.size, 0, none⟩ = some (.slice a1 xs.length cap1) := by rw [← hw1]; ((try simp -dsimp [go_sem]); repeat (simp -dsimp (disch := omega) only [gL, gI]; try simp -dsimp [go_sem]))
 have hc : w1.cell? ⟨w.heap.size + 1, 0, none⟩ = some (.slice a2 ys.length cap2) := by rw [← hw1]; ((try simp -dsimp [go_sem]); repeat (simp -dsimp (disch := omega) only [gL, gI]; try simp -dsimp [go_sem]))
 rw [hw1, show (if xs.length < ys.length then (ys.length : Int) else xs.length) = ((max xs.length ys.length : Nat) : Int) from by split <;> omega]
 refine Cl_i n_integer_fold_integer_number (c_fold (D := fun i => dig xs i + dig ys i) (by omega) (fun i => ?_) (fun i hi => ?_) (by rw [ht]; have := num_nonneg h2.1; have := num_nonneg k2.1; omega) ?_) ?_
 ·have := dig_bound h2.1 i; have := dig_bound k2.1 i; omega
 ·rw [dig_out (by omega), dig_out (by omega)]; rfl
 ·intro W hW i hi pan K hK
  refine Cw_i n_integer_number_plus_1 (by simpa using c_plus_1 (hW.cell' hb) (hW.cell' hc) ((h1.ext he).ext hW) ((k1.ext he).ext hW) (by omega) (by omega) h2.1 k2.1 (by omega)) ?_
  rintro r w' ⟨rfl, hw'⟩
  exact hK _ hw'
 ·rintro r W ⟨hW, zs, z1, z2, z3, z4, zf⟩
  refine Cl_i n_integer_number_trimmed (c_trimmed z1 (by omega)) ?_
  rintro r2 W2 ⟨z5, rfl, z6⟩
  exact Ret.mk ⟨⟨trimL zs, z5, Nrm.trimL z2, by rw [num_trimL, z3, ht]⟩, he.tr hW, (z6 _ zf).mono he.size⟩
theorem c_minus {w : World} {u v : Value} {x y : Int} (hu : NumAt w u x) (hv : NumAt w v y) (hx : x < Mx) (hle : y ≤ x) :
 Calls Tryz.prog 82 #[u, v] w (Ret fun r w' => NumAt w' r (x - y) ∧ Ext w w' ∧ Fresh w.heap.size r) := by
 obtain ⟨xs, h1, h2, rfl, h3⟩ := hu.get hx
 obtain ⟨ys, k1, k2, rfl, k3⟩ := hv.get (by omega)
 obtain ⟨a1, cap1, rfl⟩ := h1.slice
 obtain ⟨a2, cap2, rfl⟩ := k1.slice
 have hyx : ys.length ≤ xs.length := by
  refine Nat.not_lt.1 fun hc => ?_
  have := h2.lt_of_len k2 hc
  omega
 apply e_integer_number_minus
 unfold s_integer_number_minus
 ((try simp -dsimp [go_sem]); repeat (simp -dsimp (disch := omega) only [gL, gI]; try simp -dsimp [go_sem]))
 have ht : tot (fun i => dig xs i - dig ys i) xs.length = num xs - num ys := by
  rw [tot_sub, tot_dig (Nat.le_refl _), tot_dig hyx]
 obtain ⟨w1, hw1⟩ : ∃ w1, (w.alloc (Obj.cells #[.slice a1 xs.length cap1] 117)).alloc (Obj.cells #[.slice a2 ys.length cap2] 117) = w1 := ⟨_, rfl⟩
 have he : Ext w w1 := by rw [← hw1]; exact ((Ext.refl w).al _).al _
 have hb : w1.cell? ⟨w.heap.size, 0, none⟩ = some (.slice a1 xs.length cap1) := by rw [← hw1]; ((try simp -dsimp [go_sem]); repeat (simp -dsimp (disch := omega) only [gL, gI]; try simp -dsimp [go_sem]))
 have hc : w1.cell? ⟨w.heap.size + 1, 0, none⟩ = some (.slice a2 ys.length cap2) := by rw [← hw1]; ((try simp -dsimp [go_sem]); repeat (simp -dsimp (disch := omega) only [gL, gI]; try simp -dsimp [go_sem]))
 rw [hw1]
 refine Cl_i n_integer_fold_integer_number (c_fold (D := fun i => dig xs i - dig ys i) (by omega) (fun i => ?_) (fun i hi => ?_) (by rw [ht]; omega) ?_) ?_
 ·have := dig_bound h2.1 i; have := dig_bound k2.1 i; omega
 ·rw [dig_out (by omega), dig_out (by omega)]; rfl
 ·intro W hW i hi pan K hK
  refine Cw_i n_integer_number_minus_1 (by simpa using c_minus_1 (hW.cell' hb) (hW.cell' hc) ((h1.ext he).ext hW) ((k1.ext he).ext hW) (by omega) (by omega) h2.1 k2.1 (by omega)) ?_
  rintro r w' ⟨rfl, hw'⟩
  exact hK _ hw'
 ·rintro r W ⟨hW, zs, z1, z2, z3, z4, zf⟩
  refine Cl_i n_integer_number_trimmed (c_trimmed z1 (by omega)) ?_
  rintro r2 W2 ⟨z5, rfl, z6⟩
  exact Ret.mk ⟨⟨trimL zs, z5, Nrm.trimL z2, by rw [num_trimL, z3, ht]⟩, he.tr hW, (z6 _ zf).mono he.size⟩
theorem c_by {w : World} {u : Value} {x k : Int} (hu : NumAt w u x) (hx : x < Mx) (hk0 : 0 ≤ k) (hk : k ≤ 10000) :
 Calls Tryz.prog 108 #[u, .int .i64 k] w (Ret fun r w' => NumAt w' r (x * k) ∧ Ext w w' ∧ Fresh w.heap.size r) := by
 obtain ⟨xs, h1, h2, rfl, h3⟩ := hu.get hx
 obtain ⟨a1, cap1, rfl⟩ := h1.slice
 apply e_integer_number_by
 unfold s_integer_number_by
 ((try simp -dsimp [go_sem]); repeat (simp -dsimp (disch := omega) only [gL, gI]; try simp -dsimp [go_sem]))
 have ht : tot (fun i => dig xs i * k) xs.length = num xs * k := by
  rw [tot_mul, tot_dig (Nat.le_refl _)]
 obtain ⟨w1, hw1⟩ : ∃ w1, (w.alloc (Obj.cells #[.slice a1 xs.length cap1] 117)).alloc (Obj.cells #[.int .i64 k] 3) = w1 := ⟨_, rfl⟩
 have he : Ext w w1 := by rw [← hw1]; exact ((Ext.refl w).al _).al _
 have hb : w1.cell? ⟨w.heap.size, 0, none⟩ = some (.slice a1 xs.length cap1) := by rw [← hw1]; ((try simp -dsimp [go_sem]); repeat (simp -dsimp (disch := omega) only [gL, gI]; try simp -dsimp [go_sem]))
 have hc : w1.cell? ⟨w.heap.size + 1, 0, none⟩ = some (.int .i64 k) := by rw [← hw1]; ((try simp -dsimp [go_sem]); repeat (simp -dsimp (disch := omega) only [gL, gI]; try simp -dsimp [go_sem]))
 rw [hw1]
 refine Cl_i n_integer_fold_integer_number (c_fold (D := fun i => dig xs i * k) (by omega) (fun i => ?_) (fun i hi => ?_) (by rw [ht]; exact Int.mul_nonneg (num_nonneg h2.1) hk0) ?_) ?_
 ·have h1 := dig_bound h2.1 i
  have h3 : 0 ≤ dig xs i * k := Int.mul_nonneg h1.1 hk0
  have h4 : dig xs i * k ≤ 10000 * 10000 := Int.mul_le_mul (by omega) hk hk0 (by decide)
  omega
 ·rw [dig_out (by omega)]; simp
 ·intro W hW i hi pan K hK
  refine Cw_i n_integer_number_by_1 (by simpa using c_by_1 (hW.cell' hb) (hW.cell' hc) ((h1.ext he).ext hW) (by omega) h2.1 hk0 hk (by omega)) ?_
  rintro r w' ⟨rfl, hw'⟩
  exact hK _ hw'
 ·rintro r W ⟨hW, zs, z1, z2, z3, z4, zf⟩
  refine Cl_i n_integer_number_trimmed (c_trimmed z1 (by omega)) ?_
  rintro r2 W2 ⟨z5, rfl, z6⟩
  exact Ret.mk ⟨⟨trimL zs, z5, Nrm.trimL z2, by rw [num_trimL, z3, ht]⟩, he.tr hW, (z6 _ zf).mono he.size⟩
def backL (xs : List Int) : List (Value × Value) := (xs.zipIdx.map fun p => (Value.int .i64 p.2, iv p.1)).reverse
theorem length_backL (xs : List Int) : (backL xs).length = xs.length := by simp [backL]
theorem get_backL {xs : List Int} {i : Nat} {a b : Value} (h : (backL xs)[i]? = some (a, b)) : ∃ (j : Nat) (x : Int), i + 1 + j = xs.length ∧ xs[j]? = some x ∧ a = .int .i64 j ∧ b = iv x := by
 have hlt := (List.getElem?_eq_some_iff.1 h).1
 rw [length_backL] at hlt
 unfold backL at h
 rw [List.getElem?_reverse (by simpa using hlt)] at h
 simp only [List.length_map, List.length_zipIdx, List.getElem?_map, List.getElem?_zipIdx] at h
 have hx : xs[xs.length - 1 - i]? = some xs[xs.length - 1 - i] := List.getElem?_eq_getElem _
 rw [hx] at h
 simp at h
 exact ⟨xs.length - 1 - i, _, by omega, hx, h.1.symm, h.2.symm⟩
theorem backL_get {xs : List Int} {i j : Nat} (hij : i + 1 + j = xs.length) : (backL xs)[i]? = some (.int .i64 j, iv (xs[j]'(by omega))) := by
 have hlt : i < (backL xs).length := by rw [length_backL]; omega
 obtain ⟨⟨a, b⟩, hab⟩ : ∃ p, (backL xs)[i]? = some p := ⟨_, List.getElem?_eq_getElem hlt⟩
 obtain ⟨j', x, h1, h2, rfl, rfl⟩ := get_backL hab
 have : j' = j := by omega
 subst this
 rw [hab]
 rw [List.getElem?_eq_getElem (by omega)] at h2
 simp at h2
 rw [h2]
theorem it_back {w : World} {b : Nat} {v : Value} {xs : List Int} {J : Nat → World → Prop} (hl : xs.length ≤ 1000000)
 (hJ : ∀ i W, J i W → W.cell? ⟨b, 0, none⟩ = some v ∧ NumL W v xs) :
 Iter Tryz.prog 136 #[.pointer (some ⟨b, 0, none⟩)] ((backL xs).map fun p => [p.1, p.2]) w J := by
 intro l JJ XX W1 hW1 hJJ hst hXst hround h0
 have hv := (hJ 0 W1 (hJJ _ _ h0)).2
 obtain ⟨a0, cap, rfl⟩ := hv.slice
 apply e_slices_Backward_integer_number_int_1
 unfold s_slices_Backward_integer_number_int_1
 ((try simp -dsimp [go_sem, (hJ 0 W1 (hJJ _ _ h0)).1]); repeat (simp -dsimp (disch := omega) only [gL, gI]; try simp -dsimp [go_sem, (hJ 0 W1 (hJJ _ _ h0)).1]))
 obtain ⟨I, hI⟩ : ∃ I : Value → World → Prop, I = fun a W => ∃ j : Nat, j ≤ xs.length ∧ a = .int .i64 ((xs.length : Int) - 1 - j) ∧ JJ j W := ⟨_, rfl⟩
 obtain ⟨μ, hμ⟩ : ∃ μ : Value → World → Nat, μ = fun a _ => match a with | .int _ x => (x + 1).toNat | _ => 0 := ⟨_, rfl⟩
 refine Lp1.mk I μ (by rw [hI]; exact ⟨0, by omega, by simp, h0⟩) ?_
 intro a W hh
 have hh' := hh
 rw [hI] at hh
 obtain ⟨j, hj, rfl, hw⟩ := hh
 obtain ⟨hc, hs⟩ := hJ _ _ (hJJ _ _ hw)
 by_cases hjn : j = xs.length
 ·subst hjn
  ((try simp -dsimp [go_sem]); repeat (simp -dsimp (disch := omega) only [gL, gI]; try simp -dsimp [go_sem]))
  exact .inl (by simpa [length_backL] using hw)
 ·obtain ⟨j2, hj2⟩ : ∃ j2 : Nat, j + 1 + j2 = xs.length := ⟨xs.length - 1 - j, by omega⟩
  have hidx := backL_get hj2
  have hij : (j2 : Int) = (xs.length : Int) - 1 - j := by omega
  rw [← hij] at hh' ⊢
  have hr := hround j _ W (by rw [List.getElem?_map, hidx]; rfl) hw
  rcases hs with ⟨hs, hx⟩ | ⟨g, o, cap', hs, hcp, hcells⟩
  ·simp at hx; subst hx; simp at hj hjn; omega
  ·have hcell := hcells j2 (iv (xs[j2]'(by omega))) (by simp)
   simp only [Value.slice.injEq] at hs
   obtain ⟨rfl, _, rfl⟩ := hs
   ((try simp -dsimp [go_sem, hc, hcell]); repeat (simp -dsimp (disch := omega) only [gL, gI]; try simp -dsimp [go_sem, hc, hcell]))
   refine Cw_y hr ?_
   rintro bb W' (⟨rfl, h⟩ | ⟨rfl, h⟩)
   ·((try simp -dsimp [go_sem]); repeat (simp -dsimp (disch := omega) only [gL, gI]; try simp -dsimp [go_sem]))
    rw [hI, hμ]
    refine ⟨⟨j + 1, by omega, by congr 1; omega, h⟩, ?_⟩
    show ((j2 : Int) - 1 + 1).toNat < ((j2 : Int) + 1).toNat
    omega
   ·((try simp -dsimp [go_sem]); repeat (simp -dsimp (disch := omega) only [gL, gI]; try simp -dsimp [go_sem]))
    exact .inr h
def cmpI (x y : Int) : Int := if x < y then -1 else if y < x then 1 else 0
theorem c_isNaN {x : Int} {w : World} : Calls Tryz.prog 120 #[.int .i64 x] w (Ret fun r w' => r = .bool false ∧ w' = w) := by
 apply e_cmp_isNaN_int
 unfold s_cmp_isNaN_int
 ((try simp -dsimp [go_sem]); repeat (simp -dsimp (disch := omega) only [gL, gI]; try simp -dsimp [go_sem]))
 exact Ret.mk ⟨rfl, rfl⟩
theorem c_cmp {x y : Int} {w : World} : Calls Tryz.prog 90 #[.int .i64 x, .int .i64 y] w (Ret fun r w' => r = .int .i64 (cmpI x y) ∧ w' = w) := by
 apply e_cmp_Compare_int
 unfold s_cmp_Compare_int
 refine Cl_i n_cmp_isNaN_int c_isNaN ?_
 rintro _ _ ⟨rfl, rfl⟩
 refine Cl_i n_cmp_isNaN_int c_isNaN ?_
 rintro _ _ ⟨rfl, rfl⟩
 by_cases h1 : x < y
 ·((try simp -dsimp [go_sem]); repeat (simp -dsimp (disch := omega) only [gL, gI]; try simp -dsimp [go_sem]))
  exact Ret.mk ⟨by simp [cmpI, h1], rfl⟩
 ·by_cases h2 : y < x
  ·((try simp -dsimp [go_sem]); repeat (simp -dsimp (disch := omega) only [gL, gI]; try simp -dsimp [go_sem]))
   exact Ret.mk ⟨by simp [cmpI, h1, h2], rfl⟩
  ·((try simp -dsimp [go_sem]); repeat (simp -dsimp (disch := omega) only [gL, gI]; try simp -dsimp [go_sem]))
   exact Ret.mk ⟨by simp [cmpI, h1, h2], rfl⟩
theorem c_Backward {w : World} {v : Value} : Calls Tryz.prog 103 #[v] w (Ret fun r w' => r = .func (.func 136) #[] #[.pointer (some ⟨w.heap.size, 0, none⟩)] ∧ Ext w w' ∧ w'.heap.size = w.heap.size + 1 ∧ (v.cells = #[v] → Blk w' w.heap.size 117 [v])) := by
 apply e_slices_Backward_integer_number_int
 unfold s_slices_Backward_integer_number_int
 ((try simp -dsimp [go_sem]); repeat (simp -dsimp (disch := omega) only [gL, gI]; try simp -dsimp [go_sem]))
 refine Ret.mk ⟨rfl, (Ext.refl w).al _, by simp, fun h => ?_⟩
 rw [h]; exact Blk.al w [v] _
theorem c_compare {w : World} {u v : Value} {x y : Int} (hu : NumAt w u x) (hv : NumAt w v y) (hx : x < Mx) (hy : y < Mx) :
 Calls Tryz.prog 83 #[u, v] w (Ret fun r w' => r = .int .i64 (cmpI x y) ∧ Ext w w') := by
 obtain ⟨xs, h1, h2, rfl, h3⟩ := hu.get hx
 obtain ⟨ys, k1, k2, rfl, k3⟩ := hv.get hy
 obtain ⟨a1, cap1, rfl⟩ := h1.slice
 obtain ⟨a2, cap2, rfl⟩ := k1.slice
 apply e_integer_number_compare
 unfold s_integer_number_compare
 by_cases hl : xs.length = ys.length
 ·((try simp -dsimp [go_sem]); repeat (simp -dsimp (disch := omega) only [gL, gI]; try simp -dsimp [go_sem]))
  obtain ⟨w1, hw1⟩ : ∃ w1, (w.alloc (Obj.cells #[.slice a2 ys.length cap2] 117)).alloc (Obj.cells #[.int .i64 0] 3) = w1 := ⟨_, rfl⟩
  have he : Ext w w1 := by rw [← hw1]; exact ((Ext.refl w).al _).al _
  have hb : Blk w1 w.heap.size 117 [.slice a2 ys.length cap2] := by rw [← hw1]; exact (Blk.al w [_] _).ext ((Ext.refl _).al _)
  have hc : Blk w1 (w.heap.size + 1) 3 [.int .i64 0] := by rw [← hw1]; have := Blk.al (w.alloc (Obj.cells #[.slice a2 ys.length cap2] 117)) [.int .i64 0] 3; simpa using this
  rw [hw1]
  refine Cl_i n_slices_Backward_integer_number_int c_Backward ?_
  rintro _ w2 ⟨rfl, he2, hs2, hd⟩
  have hd := hd (by simp [go_sem])
  have hsz : w.heap.size + 2 = w1.heap.size := by rw [← hw1]; simp
  refine Rf2.mk 136 _ (backL xs)
   (fun i W => Below w.heap.size w W ∧ Blk W w.heap.size 117 [.slice a2 ys.length cap2] ∧ Blk W (w.heap.size + 1) 3 [.int .i64 0] ∧ Blk W w1.heap.size 117 [.slice a1 xs.length cap1] ∧ xs.drop (xs.length - i) = ys.drop (xs.length - i))
   (fun e W => Below w.heap.size w W ∧ Blk W (w.heap.size + 1) 3 [.int .i64 (cmpI (num xs) (num ys))])
   rfl n_slices_Backward_integer_number_int_1 (it_back (by omega) fun i W h => ⟨h.2.2.2.1.cell rfl, h1.ext h.1⟩) ?_ ?_ ?_ ?_ ?_ ?_ (by simp)
  ·rintro i W W' ⟨j1, j2, j3, j4, j5⟩ hk
   exact ⟨hk.low j1 (by omega) (Nat.le_refl _), j2.bk hk, j3.bk hk, j4.bk hk, j5⟩
  ·rintro e W W' ⟨j1, j2⟩ hk
   exact ⟨hk.low j1 (by omega) (Nat.le_refl _), j2.bk hk⟩
  ·exact ⟨he.tr he2, hb.ext he2, hc.ext he2, hd, by simp [hl]⟩
  ·rintro a0 a1' i W hi ⟨j1, j2, j3, j4, j5⟩ hsW
   obtain ⟨j, x, e1, e2, rfl, rfl⟩ := get_backL hi
   have k1W := k1.ext j1
   rcases k1W with ⟨hs, hx'⟩ | ⟨g, o, cap', hs, hcp, hcells⟩
   ·have h0 : ys.length = 0 := by simpa using congrArg List.length hx'
    omega
   ·have hy : ys[j]? = some (ys[j]'(by omega)) := List.getElem?_eq_getElem _
    obtain ⟨y, hy'⟩ : ∃ y, y = ys[j]'(by omega) := ⟨_, rfl⟩
    rw [← hy'] at hy
    have hcell := hcells j (iv y) (by simp [hy])
    simp only [Value.slice.injEq] at hs
    obtain ⟨rfl, _, rfl⟩ := hs
    have hx2 : x = xs[j]'(by omega) := by rw [List.getElem?_eq_getElem (by omega)] at e2; simpa using e2.symm
    have hji : xs.length - i = j + 1 := by omega
    rw [hji] at j5
    by_cases hxy : x = y
    ·((try simp -dsimp [go_sem, j2.cell (i := 0) rfl, hcell, hxy]); repeat (simp -dsimp (disch := omega) only [gL, gI]; try simp -dsimp [go_sem, j2.cell (i := 0) rfl, hcell, hxy]))
     refine ⟨⟨j1, j2, j3, j4, ?_⟩, Kf.refl _ _⟩
     rw [show xs.length - (i + 1) = j from by omega, List.drop_eq_getElem_cons (by omega : j < xs.length), List.drop_eq_getElem_cons (by omega : j < ys.length), j5, ← hx2, ← hy', hxy]
    ·((try simp -dsimp [go_sem, j2.cell (i := 0) rfl, hcell, hxy]); repeat (simp -dsimp (disch := omega) only [gL, gI]; try simp -dsimp [go_sem, j2.cell (i := 0) rfl, hcell, hxy]))
     refine Cl_i n_cmp_Compare_int c_cmp ?_
     rintro _ _ ⟨rfl, rfl⟩
     ((try simp -dsimp [go_sem, j3.cell (i := 0) rfl, j3.frz 0]); repeat (simp -dsimp (disch := omega) only [gL, gI]; try simp -dsimp [go_sem, j3.cell (i := 0) rfl, j3.frz 0]))
     have hcmp : cmpI x y = cmpI (num xs) (num ys) := by
      rcases Int.lt_or_gt_of_ne hxy with h | h
      ·have := num_lt_of h2.1 k2.1 (i := j) (by omega) (by omega) j5 (by rw [← hx2, ← hy']; exact h)
       simp [cmpI, h, this]
      ·have := num_lt_of k2.1 h2.1 (i := j) (by omega) (by omega) j5.symm (by rw [← hx2, ← hy']; exact h)
       have a1 : ¬ x < y := by omega
       have a2 : ¬ num xs < num ys := by omega
       simp [cmpI, h, this, a1, a2]
     rw [← hcmp]
     exact ⟨⟨Ext.stB j1 (show w.heap.size ≤ w.heap.size + 1 by omega) _, j3.set1 _⟩, Kf.setLow _ (show w.heap.size + 1 < _ by omega) _⟩
  ·rintro D W hD hWD ⟨j1, j2, j3, j4, j5⟩
   ((try simp -dsimp [go_sem, j3.cell (i := 0) rfl, j3.frz 0]); repeat (simp -dsimp (disch := omega) only [gL, gI]; try simp -dsimp [go_sem, j3.cell (i := 0) rfl, j3.frz 0]))
   have j6 := j3.set1 (.int .i64 0)
   have hWD' : (W.setCell ⟨w.heap.size + 1, 0, none⟩ (.int .i64 0)).heap[D]? = some (.deferred (some [])) := (heap_setCell_other W _ D _ (show D ≠ w.heap.size + 1 by omega)).trans hWD
   refine Tk.mk hWD' fun w' hb' hk' => ?_
   have j7 := j6.tk hWD' hk'
   ((try simp -dsimp [go_sem, j7.cell (i := 0) rfl]); repeat (simp -dsimp (disch := omega) only [gL, gI]; try simp -dsimp [go_sem, j7.cell (i := 0) rfl]))
   rw [length_backL, Nat.sub_self] at j5
   have : xs = ys := by simpa using j5
   refine Ret.mk ⟨by rw [this]; simp [cmpI], (Ext.stB j1 (show w.heap.size ≤ w.heap.size + 1 by omega) _).trans (hb'.mono (by omega))⟩
  ·rintro D W hD hWD ⟨j1, j2⟩
   refine Tk.mk hWD fun w' hb' hk' => ?_
   ((try simp -dsimp [go_sem, (j2.tk hWD hk').cell (i := 0) rfl]); repeat (simp -dsimp (disch := omega) only [gL, gI]; try simp -dsimp [go_sem, (j2.tk hWD hk').cell (i := 0) rfl]))
   exact Ret.mk ⟨rfl, j1.trans (hb'.mono (by omega))⟩
 ·((try simp -dsimp [go_sem]); repeat (simp -dsimp (disch := omega) only [gL, gI]; try simp -dsimp [go_sem]))
  refine Cl_i n_cmp_Compare_int c_cmp ?_
  rintro _ _ ⟨rfl, rfl⟩
  ((try simp -dsimp [go_sem]); repeat (simp -dsimp (disch := omega) only [gL, gI]; try simp -dsimp [go_sem]))
  refine Ret.mk ⟨?_, ((Ext.refl w).al _).al _⟩
  rcases Nat.lt_or_gt_of_ne hl with h | h
  ·have := h2.lt_of_len k2 h
   simp [cmpI, this, h]
  ·have := k2.lt_of_len h2 h
   have a1 : ¬ num xs < num ys := by omega
   have a2 : ¬ xs.length < ys.length := by omega
   simp [cmpI, this, h, a1, a2]
theorem NumAt.bk {B : Nat} {w w' : World} {v : Value} {x : Int} (h : NumAt w v x) (he : Bk B w w') : NumAt w' v x := by
 obtain ⟨xs, h1, h2, h3⟩ := h
 exact ⟨xs, SlAt.bk h1 he, h2, h3⟩
theorem NumL.setBlk {W : World} {v : Value} {xs : List Int} (h : NumL W v xs) {b : Nat} {ty : TypeId} {cs : List Value} (hb : Blk W b ty cs) (hne : ∀ c ∈ cs, ∀ x, c ≠ iv x) (i : Nat) (u : Value) : NumL (W.setCell ⟨b, i, none⟩ u) v xs :=
 SlAt.setBlk h hb (fun x hx c hc he => by obtain ⟨y, _, rfl⟩ := List.mem_map.1 hx; exact hne c hc y he.symm) i u
theorem NumAt.setBlk {W : World} {v : Value} {x : Int} (h : NumAt W v x) {b : Nat} {ty : TypeId} {cs : List Value} (hb : Blk W b ty cs) (hne : ∀ c ∈ cs, ∀ x, c ≠ iv x) (i : Nat) (u : Value) : NumAt (W.setCell ⟨b, i, none⟩ u) v x := by
 obtain ⟨xs, h1, h2, h3⟩ := h
 exact ⟨xs, h1.setBlk hb hne i u, h2, h3⟩
theorem NumL.noInt {W : World} {v : Value} {xs : List Int} (h : NumL W v xs) : ∀ c ∈ [v], ∀ x, c ≠ iv x := by
 obtain ⟨a, c, rfl⟩ := h.slice
 intro c hc x
 simp at hc; subst hc; simp
theorem NumAt.noInt {W : World} {v : Value} {x : Int} (h : NumAt W v x) : ∀ c ∈ [v], ∀ x, c ≠ iv x := by
 obtain ⟨xs, h1, _⟩ := h; exact h1.noInt
theorem NumAt.nil (W : World) : NumAt W (.slice none 0 0) 0 := ⟨[], .inl ⟨rfl, rfl⟩, ⟨by simp [Dg], rfl⟩, rfl⟩
theorem NumL.one {W : World} {v : Value} {xs : List Int} (h : NumL W v xs) : v.cells = #[v] := by
 obtain ⟨a, c, rfl⟩ := h.slice; simp [go_sem]
theorem NumAt.slice {W : World} {v : Value} {x : Int} (h : NumAt W v x) : ∃ a n cap, v = .slice a n cap := by
 obtain ⟨xs, h1, _⟩ := h; obtain ⟨a, c, rfl⟩ := h1.slice; exact ⟨_, _, _, rfl⟩
theorem c_Search {w : World} {n : Nat} {g : Value} (p : Nat → Bool) (hn : n ≤ 1000000000)
 (hg : ∀ W, Ext w W → ∀ i : Nat, i < n → ∀ pan K, (∀ W', Ext W W' → K (.bool (p i)) W') → Cw Tryz.prog g #[.int .i64 i] W pan K) :
 Calls Tryz.prog 110 #[.int .i64 n, g] w (Ret fun r w' => Ext w w' ∧ ∃ k : Nat, k ≤ n ∧ r = .int .i64 k ∧ (0 < k → p (k - 1) = false) ∧ (k < n → p k = true)) := by
 apply e_sort_Search
 unfold s_sort_Search
 obtain ⟨I, hI⟩ : ∃ I : Value → Value → World → Prop, I = (fun i j W => ∃ a b : Nat, i = .int .i64 a ∧ j = .int .i64 b ∧ a ≤ b ∧ b ≤ n ∧ Ext w W ∧ (0 < a → p (a - 1) = false) ∧ (b < n → p b = true)) := ⟨_, rfl⟩
 obtain ⟨μ, hμ⟩ : ∃ μ : Value → Value → World → Nat, μ = (fun i j _ => match i, j with | .int _ a, .int _ b => (b - a).toNat | _, _ => 0) := ⟨_, rfl⟩
 refine Lp2.mk I μ (by rw [hI]; exact ⟨0, n, rfl, rfl, by omega, by omega, .refl w, by simp, by simp⟩) ?_
 intro i j W hh
 rw [hI] at hh
 obtain ⟨a, b, rfl, rfl, hab, hb, hW, h1, h2⟩ := hh
 by_cases h : a < b
 ·obtain ⟨m, hm⟩ : ∃ m : Nat, m = (a + b) / 2 := ⟨_, rfl⟩
  have hm2 : ((a : Int) + b) / 2 = m := by omega
  ((try simp -dsimp [go_sem, hm2]); repeat (simp -dsimp (disch := omega) only [gL, gI]; try simp -dsimp [go_sem, hm2]))
  refine hg W hW m (by omega) _ _ fun W' hW' => ?_
  cases hp : p m with
  | false =>
   ((try simp -dsimp [go_sem, hm2]); repeat (simp -dsimp (disch := omega) only [gL, gI]; try simp -dsimp [go_sem, hm2]))
   rw [hI, hμ]
   refine ⟨⟨m + 1, b, by simp, rfl, by omega, hb, hW.tr hW', fun _ => by simpa using hp, h2⟩, ?_⟩
   show ((b : Int) - (m + 1)).toNat < ((b : Int) - a).toNat
   omega
  | true =>
   ((try simp -dsimp [go_sem, hm2]); repeat (simp -dsimp (disch := omega) only [gL, gI]; try simp -dsimp [go_sem, hm2]))
   rw [hI, hμ]
   refine ⟨⟨a, m, rfl, rfl, by omega, by omega, hW.tr hW', h1, fun _ => hp⟩, ?_⟩
   show ((m : Int) - a).toNat < ((b : Int) - a).toNat
   omega
 ·((try simp -dsimp [go_sem]); repeat (simp -dsimp (disch := omega) only [gL, gI]; try simp -dsimp [go_sem]))
  exact Ret.mk ⟨hW, a, by omega, rfl, h1, fun h3 => by rw [show a = b from by omega]; exact h2 (by omega)⟩
theorem cw_by {w : World} {u : Value} {x k : Int} (hu : NumAt w u x) (hx : x < Mx) (hk0 : 0 ≤ k) (hk : k ≤ 10000) {pan : List PanicEntry → World → Prop} {K : Value → World → Prop}
 (h : ∀ r w', NumAt w' r (x * k) → Ext w w' → Fresh w.heap.size r → K r w') : Cw Tryz.prog (.func (.func 108) #[u] #[]) #[.int .i64 k] w pan K := by
 refine Cw_i n_integer_number_by (by simpa using c_by hu hx hk0 hk) ?_
 rintro r w' ⟨h1, h2, h3⟩
 exact h r w' h1 h2 h3
theorem c_over_1 {w : World} {b c : Nat} {m r : Value} {y z : Int} {ty1 ty2 : TypeId} (hb : Blk w b ty1 [.func (.func 108) #[m] #[]]) (hc : Blk w c ty2 [r]) (hm : NumAt w m y) (hr : NumAt w r z) (hy : y < Mx) (hy2 : y * 10000 < Mx) (hz : z < Mx) {d : Nat} (hd : d < 9999) :
 Calls Tryz.prog 109 #[.int .i64 d, .pointer (some ⟨b, 0, none⟩), .pointer (some ⟨c, 0, none⟩)] w (Ret fun v w' => v = .bool (decide (z < y * (d + 1))) ∧ Ext w w') := by
 have hy0 := hm.nonneg
 obtain ⟨a1, n1, cap1, rfl⟩ := hr.slice
 obtain ⟨a2, n2, cap2, rfl⟩ := hm.slice
 have hle : y * (d + 1) ≤ y * 10000 := Int.mul_le_mul_of_nonneg_left (by omega) hy0
 apply e_integer_number_over_1
 unfold s_integer_number_over_1
 ((try simp -dsimp [go_sem, hb.cell (i := 0) rfl, hc.cell (i := 0) rfl]); repeat (simp -dsimp (disch := omega) only [gL, gI]; try simp -dsimp [go_sem, hb.cell (i := 0) rfl, hc.cell (i := 0) rfl]))
 refine cw_by (hm.ext (Ext.dr (.refl w))) hy (by omega) (by omega) ?_
 intro v w1 h1 h2 h3
 have h2' : Ext w w1 := (Ext.dr (.refl w)).tr h2
 ((try simp -dsimp [go_sem, (hc.ext h2').cell (i := 0) rfl]); repeat (simp -dsimp (disch := omega) only [gL, gI]; try simp -dsimp [go_sem, (hc.ext h2').cell (i := 0) rfl]))
 refine Cl_i n_integer_number_compare (c_compare h1 (hr.ext h2') (by omega) hz) ?_
 rintro _ w2 ⟨rfl, h4⟩
 by_cases hlt : z < y * (d + 1)
 ·have : cmpI (y * (d + 1)) z = 1 := by simp [cmpI, hlt]; omega
  ((try simp -dsimp [go_sem, this, hlt]); repeat (simp -dsimp (disch := omega) only [gL, gI]; try simp -dsimp [go_sem, this, hlt]))
  exact Ret.mk ⟨rfl, h2'.tr h4⟩
 ·have : cmpI (y * (d + 1)) z ≤ 0 := by unfold cmpI; split <;> omega
  ((try simp -dsimp [go_sem, hlt]); repeat (simp -dsimp (disch := omega) only [gL, gI]; try simp -dsimp [go_sem, hlt]))
  exact Ret.mk ⟨rfl, h2'.tr h4⟩
theorem quot_digit {y z : Int} (hy : 0 < y) (hz : 0 ≤ z) (hlt : z < y * 10000) {k : Nat} (hk : k ≤ 9999) (h1 : 0 < k → decide (z < y * (((k - 1 : Nat) : Int) + 1)) = false) (h2 : k < 9999 → decide (z < y * ((k : Int) + 1)) = true) : (k : Int) = z / y ∧ y * k ≤ z := by
 have a1 : y * k ≤ z := by
  by_cases h : k = 0
  ·subst h; simpa using hz
  ·have := h1 (by omega)
   rw [show (((k - 1 : Nat) : Int) + 1) = k from by omega] at this
   simpa using this
 have a2 : z < y * ((k : Int) + 1) := by
  by_cases h : k = 9999
  ·subst h; simpa using hlt
  ·simpa using h2 (by omega)
 refine ⟨?_, a1⟩
 have b1 : (k : Int) ≤ z / y := (Int.le_ediv_iff_mul_le hy).2 (by rw [Int.mul_comm]; exact a1)
 have b2 : z / y < k + 1 := (Int.ediv_lt_iff_lt_mul hy).2 (by rw [Int.mul_comm]; exact a2)
 omega
theorem c_over {w : World} {u v : Value} {x y : Int} (hu : NumAt w u x) (hv : NumAt w v y) (hx : x < Mx) (hy0 : 0 < y) (hy : y * 10000 < Mx) :
 Calls Tryz.prog 79 #[u, v] w (Ret fun r w' => Ext w w' ∧ ∃ q m, r = .tuple #[q, m] ∧ NumAt w' q (x / y) ∧ NumAt w' m (x % y)) := by
 have hyM : y < Mx := by omega
 obtain ⟨xs, k1, k2, rfl, k3⟩ := hu.get hx
 obtain ⟨a2, cap2, rfl⟩ := k1.slice
 obtain ⟨a1, n1, cap1, rfl⟩ := hv.slice
 obtain ⟨v, hv'⟩ : ∃ v, v = Value.slice a1 n1 cap1 := ⟨_, rfl⟩
 apply e_integer_number_over
 unfold s_integer_number_over
 ((try simp -dsimp [go_sem]); repeat (simp -dsimp (disch := omega) only [gL, gI]; try simp -dsimp [go_sem]))
 rw [← hv'] at hv ⊢
 obtain ⟨w1, hw1⟩ : ∃ w1, ((w.alloc (Obj.cells #[v] 117)).alloc (Obj.cells #[.slice none 0 0] 117)).alloc (Obj.cells #[.slice none 0 0] 117) = w1 := ⟨_, rfl⟩
 have he : Ext w w1 := by rw [← hw1]; exact (((Ext.refl w).al _).al _).al _
 have hb : Blk w1 w.heap.size 117 [v] := by rw [← hw1]; exact ((Blk.al w [_] _).ext ((Ext.refl _).al _)).ext ((Ext.refl _).al _)
 have hc : Blk w1 (w.heap.size + 1) 117 [.slice none 0 0] := by
  rw [← hw1]; have := (Blk.al (w.alloc (Obj.cells #[v] 117)) [.slice none 0 0] 117).ext ((Ext.refl _).al (Obj.cells #[.slice none 0 0] 117)); simpa using this
 have hd : Blk w1 (w.heap.size + 2) 117 [.slice none 0 0] := by
  rw [← hw1]; have := Blk.al ((w.alloc (Obj.cells #[v] 117)).alloc (Obj.cells #[.slice none 0 0] 117)) [.slice none 0 0] 117; simpa using this
 have hsz : w.heap.size + 3 = w1.heap.size := by rw [← hw1]; simp
 rw [hw1]
 refine Ms_full sliN (by decide) (n := xs.length) rfl (by omega) (Nat.le_refl w1.heap.size) ?_
 intro w2 hq g2
 have e2 := World.grownBy.ext g2
 have hqb : Blk w2 w1.heap.size 3 ((List.replicate xs.length 0).map iv) := by simpa using hq.blk (by simp)
 have hc2 := hc.ext e2
 ((try simp -dsimp [go_sem, hc2.cell (i := 0) rfl, hc2.frz 0]); repeat (simp -dsimp (disch := omega) only [gL, gI]; try simp -dsimp [go_sem, hc2.cell (i := 0) rfl, hc2.frz 0]))
 obtain ⟨q, hqv⟩ : ∃ q, q = Value.slice (some ⟨w1.heap.size, 0, none⟩) xs.length xs.length := ⟨_, rfl⟩
 obtain ⟨qb, hqbe⟩ : ∃ qb, qb = w1.heap.size := ⟨_, rfl⟩
 rw [← hqbe] at hqb hqv hsz
 rw [← hqbe, ← hqv]
 obtain ⟨w3, hw3⟩ : ∃ w3, w2.setCell ⟨w.heap.size + 1, 0, none⟩ q = w3 := ⟨_, rfl⟩
 have e3 : Below w.heap.size w w3 := by rw [← hw3]; exact Ext.stB (he.tr e2) (show w.heap.size ≤ w.heap.size + 1 by omega) _
 have hs3 : w3.heap.size = w2.heap.size := by rw [← hw3]; simp
 have hlt := hqb.lt
 have m1 : Blk w3 w.heap.size 117 [v] := by rw [← hw3]; exact (hb.ext e2).setOther (show w.heap.size ≠ w.heap.size + 1 by omega) _
 have m2 : Blk w3 (w.heap.size + 1) 117 [q] := by rw [← hw3]; exact hc2.set1 _
 have m3 : Blk w3 (w.heap.size + 1 + 1) 117 [.slice none 0 0] := by rw [← hw3]; exact (hd.ext e2).setOther (show w.heap.size + 1 + 1 ≠ w.heap.size + 1 by omega) _
 have m4 : Blk w3 qb 3 ((List.replicate xs.length 0).map iv) := by rw [← hw3]; exact hqb.setOther (show qb ≠ w.heap.size + 1 by omega) _
 rw [hw3]
 refine Cl_i n_slices_Backward_integer_number_int c_Backward ?_
 rintro _ w4 ⟨rfl, e4, hs4, m5⟩
 have m5 := m5 (by simp [go_sem])
 obtain ⟨J, hJ⟩ : ∃ J : Nat → World → Prop, J = fun i W => Below w.heap.size w W ∧ Blk W w.heap.size 117 [v] ∧ Blk W w3.heap.size 117 [.slice a2 xs.length cap2] ∧ Blk W (w.heap.size + 1) 117 [q] ∧
  (∃ qs : List Int, qs.length = xs.length ∧ Blk W qb 3 (qs.map iv) ∧ Dg qs ∧ num (qs.drop (xs.length - i)) = num (xs.drop (xs.length - i)) / y) ∧
  ∃ r, Blk W (w.heap.size + 1 + 1) 117 [r] ∧ NumAt W r (num (xs.drop (xs.length - i)) % y) ∧ Fresh (qb + 1) r := ⟨_, rfl⟩
 refine Rf2.mk 136 _ (backL xs) J (fun e W => False)
  rfl n_slices_Backward_integer_number_int_1 (it_back (v := .slice a2 xs.length cap2) (by omega) fun i W h => ?_) ?_ ?_ ?_ ?_ ?_ ?_ (by simp)
 ·rw [hJ] at h
  exact ⟨h.2.2.1.cell rfl, k1.ext h.1⟩
 ·rw [hJ]
  rintro i W W' ⟨j1, j2, j3, j4, ⟨qs, j5, j6, j7, j8⟩, r, j9, j10, j11⟩ hk
  exact ⟨hk.low j1 (by omega) (Nat.le_refl _), j2.bk hk, j3.bk hk, j4.bk hk, ⟨qs, j5, j6.bk hk, j7, j8⟩, r, j9.bk hk, j10.bk hk, j11⟩
 ·exact fun _ _ _ h => h.elim
 ·rw [hJ]
  refine ⟨e3.trans (e4.mono e3.size), m1.ext e4, m5, m2.ext e4, ⟨List.replicate xs.length 0, by simp, m4.ext e4, ?_, ?_⟩, _, m3.ext e4, ?_, ?_⟩
  ·intro d hd; simp at hd; omega
  ·simp [num]
  ·simpa [num] using NumAt.nil w4
  ·intro a n c h; simp at h
 ·rintro a0 a1' i W hi hjw hsW
  rw [hJ] at hjw
  obtain ⟨j1, j2, j3, j4, ⟨qs, j5, j6, j7, j8⟩, r, j9, j10, j11⟩ := hjw
  obtain ⟨j, d, e1', e2', rfl, rfl⟩ := get_backL hi
  have hji : xs.length - i = j + 1 := by omega
  rw [hji] at j8 j10
  have hdy : d = xs[j]'(by omega) := by rw [List.getElem?_eq_getElem (by omega)] at e2'; simpa using e2'.symm
  have hd2 := k2.1 d (by rw [hdy]; exact List.getElem_mem _)
  have hstep : num (xs.drop j) = d + 10000 * num (xs.drop (j + 1)) := by
   rw [List.drop_eq_getElem_cons (by omega : j < xs.length), ← hdy]; rfl
  obtain ⟨A, hA⟩ : ∃ A, A = num (xs.drop (j + 1)) := ⟨_, rfl⟩
  rw [← hA] at j8 j10 hstep
  obtain ⟨rv, hrv⟩ : ∃ rv, rv = A % y := ⟨_, rfl⟩
  rw [← hrv] at j10
  have hr0 : 0 ≤ rv := by rw [hrv]; exact Int.emod_nonneg _ (by omega)
  have hr1 : rv < y := by rw [hrv]; exact Int.emod_lt_of_pos _ hy0
  have hAr : A = y * (A / y) + rv := by rw [hrv]; exact (Int.mul_ediv_add_emod A y).symm
  obtain ⟨zs, z1, z2, z3, z4⟩ := j10.get (by omega)
  obtain ⟨a3, cap3, rfl⟩ := z1.slice
  refine Bs_own sliN rfl (Nat.le_refl W.heap.size) ?_
  intro v5 W5 o5 g5 _
  have x5 := World.grownBy.ext g5
  have j9' := j9.ext x5
  ((try simp -dsimp [go_sem, j9'.cell (i := 0) rfl]); repeat (simp -dsimp (disch := omega) only [gL, gI]; try simp -dsimp [go_sem, j9'.cell (i := 0) rfl]))
  refine ap_own sliN (by decide) o5 (z1.ext x5) (fun y hy => by obtain ⟨y, _, rfl⟩ := List.mem_map.1 hy; rfl) (by simp; omega) x5.size ?_
  intro v6 W6 o6 g6
  have x6 : Ext W W6 := x5.trans (World.grownBy.below g6 x5.size fun k hk => (o5.lt k hk).1)
  have hl6 : NumL W6 v6 (d :: zs) := o6.slAt
  refine Cl_i n_integer_number_trimmed (c_trimmed hl6 (by simp; omega)) ?_
  rintro v7 W7 ⟨t7, hW7, f7⟩
  rw [hW7] at t7 ⊢
  clear hW7
  have f7 := f7 _ (Fresh.own o6)
  obtain ⟨z, hz⟩ : ∃ z, z = d + 10000 * rv := ⟨_, rfl⟩
  have hz0 : 0 ≤ z := by omega
  have hz1 : z < y * 10000 := by omega
  have hdz : Dg (d :: zs) := by
   intro x hx
   rcases List.mem_cons.1 hx with rfl | hx
   ·exact hd2
   ·exact z2.1 x hx
  have n7 : NumAt _ v7 z := ⟨_, t7, Nrm.trimL hdz, by rw [num_trimL]; simp only [num, z3, hz]⟩
  obtain ⟨a7, nn7, cap7, rfl⟩ := n7.slice
  have j9'' := j9.ext x6
  have j2' : Blk W6 w.heap.size 117 [Value.slice a1 n1 cap1] := by rw [← hv']; exact j2.ext x6
  have j4' : Blk W6 (w.heap.size + 1) 117 [Value.slice (some ⟨qb, 0, none⟩) xs.length xs.length] := by rw [← hqv]; exact j4.ext x6
  ((try simp -dsimp [go_sem, j9''.cell (i := 0) rfl, j9''.frz 0, j2'.cell (i := 0) rfl, j4'.cell (i := 0) rfl]); repeat (simp -dsimp (disch := omega) only [gL, gI]; try simp -dsimp [go_sem, j9''.cell (i := 0) rfl, j9''.frz 0, j2'.cell (i := 0) rfl, j4'.cell (i := 0) rfl]))
  obtain ⟨W7, hW7⟩ : ∃ W7, W6.setCell ⟨w.heap.size + 1 + 1, 0, none⟩ (.slice a7 nn7 cap7) = W7 := ⟨_, rfl⟩
  have hs7 : W6.heap.size = W7.heap.size := by rw [← hW7]; simp
  have y1 : Below w.heap.size w W7 := by rw [← hW7]; exact Ext.stB (j1.trans (x6.mono j1.size)) (show w.heap.size ≤ w.heap.size + 1 + 1 by omega) _
  have y4 : Blk W7 (w.heap.size + 1) 117 [q] := by rw [← hW7, hqv]; exact j4'.setOther (show w.heap.size + 1 ≠ w.heap.size + 1 + 1 by omega) _
  have y6 : Blk W7 qb 3 (qs.map iv) := by rw [← hW7]; exact (j6.ext x6).setOther (show qb ≠ w.heap.size + 1 + 1 by omega) _
  have y2 : Blk W7 w.heap.size 117 [v] := by rw [← hW7]; exact (j2.ext x6).setOther (show w.heap.size ≠ w.heap.size + 1 + 1 by omega) _
  have y3 : Blk W7 w3.heap.size 117 [.slice a2 xs.length cap2] := by rw [← hW7]; exact (j3.ext x6).setOther (show w3.heap.size ≠ w.heap.size + 1 + 1 by omega) _
  have y9 : Blk W7 (w.heap.size + 1 + 1) 117 [.slice a7 nn7 cap7] := by rw [← hW7]; exact j9''.set1 _
  have yn : NumAt W7 (.slice a7 nn7 cap7) z := by rw [← hW7]; exact n7.setBlk j9'' (by simp) 0 _
  have yk : Kf w4.heap.size W W7 := by rw [← hW7]; exact (Kf.ext x6).trans (Kf.setLow _ (show w.heap.size + 1 + 1 < w4.heap.size by omega) _)
  rw [hs7, hW7]
  have b8 := Blk.al W7 [.nilFunc] 151
  rw [store_ok rfl (b8.cell rfl) (b8.frz 0)]
  obtain ⟨W8, hW8⟩ : ∃ W8, (W7.alloc (Obj.cells #[.nilFunc] 151)).setCell ⟨W7.heap.size, 0, none⟩ (.func (.func 108) #[.slice a1 n1 cap1] #[]) = W8 := ⟨_, rfl⟩
  have x8 : Ext W7 W8 := by rw [← hW8]; exact ((Ext.refl W7).al _).st (Nat.le_refl _) _
  have b8' : Blk W8 W7.heap.size 151 [.func (.func 108) #[.slice a1 n1 cap1] #[]] := by rw [← hW8]; exact b8.set1 _
  have y4' : Blk W8 (w.heap.size + 1) 117 [.slice (some ⟨qb, 0, none⟩) xs.length xs.length] := by rw [← hqv]; exact y4.ext x8
  rw [hW8]
  ((try simp -dsimp [go_sem, y4'.cell (i := 0) rfl]); repeat (simp -dsimp (disch := omega) only [gL, gI]; try simp -dsimp [go_sem, y4'.cell (i := 0) rfl]))
  rw [hv'] at hv
  have hvM : ∀ W, Below w.heap.size w W → NumAt W (.slice a1 n1 cap1) y := fun W h => hv.ext h
  have d8 : Ext W8 W8.drew := Ext.dr (.refl W8)
  refine Cl_i n_sort_Search (c_Search (n := 9999) (fun d => decide (z < y * ((d : Int) + 1))) (by decide) ?_) ?_
  ·intro W' hW' i' hi' pan K hK
   have hx := (x8.tr d8).tr hW'
   refine Cw_i n_integer_number_over_1 (by simpa using c_over_1 (b8'.ext (d8.tr hW')) (y9.ext hx) (hvM _ (y1.trans (hx.mono y1.size))) (yn.ext hx) hyM hy (by omega) hi') ?_
   rintro _ W'' ⟨rfl, h'⟩
   exact hK _ h'
  rintro _ W9 ⟨x9, k, hk, rfl, hk1, hk2⟩
  obtain ⟨hkz, hkle⟩ := quot_digit hy0 hz0 hz1 hk hk1 hk2
  have x9' : Ext W8 W9 := d8.tr x9
  have x79 : Ext W7 W9 := x8.tr x9'
  have q9 := y6.ext x79
  have hqc : W9.cell? ⟨qb, j, none⟩ = some (iv (qs[j]'(by omega))) := q9.cell (by simp)
  have v9 := y4'.ext x9'
  have w9a := y9.ext x79
  have w9b := b8'.ext x9'
  ((try simp -dsimp [go_sem, v9.cell (i := 0) rfl, hqc, q9.frz j, w9a.cell (i := 0) rfl, w9b.cell (i := 0) rfl]); repeat (simp -dsimp (disch := omega) only [gL, gI]; try simp -dsimp [go_sem, v9.cell (i := 0) rfl, hqc, q9.frz j, w9a.cell (i := 0) rfl, w9b.cell (i := 0) rfl]))
  obtain ⟨W10, hW10⟩ : ∃ W10, W9.setCell ⟨qb, j, none⟩ (.int .i64 k) = W10 := ⟨_, rfl⟩
  have z1' : Below w.heap.size w W10 := by rw [← hW10]; exact Ext.stB (y1.trans (x79.mono y1.size)) (show w.heap.size ≤ qb by omega) _
  have l79 := x79.size
  have ly := y3.lt
  have z2' : Blk W10 w.heap.size 117 [v] := by rw [← hW10]; exact (y2.ext x79).setOther (show w.heap.size ≠ qb by omega) _
  have z3' : Blk W10 w3.heap.size 117 [.slice a2 xs.length cap2] := by rw [← hW10]; exact (y3.ext x79).setOther (show w3.heap.size ≠ qb by omega) _
  have z4' : Blk W10 (w.heap.size + 1) 117 [.slice (some ⟨qb, 0, none⟩) xs.length xs.length] := by rw [← hW10]; exact v9.setOther (show w.heap.size + 1 ≠ qb by omega) _
  have z6' : Blk W10 qb 3 ((qs.set j k).map iv) := by rw [← hW10, List.map_set]; exact q9.set j _
  have z9' : Blk W10 (w.heap.size + 1 + 1) 117 [.slice a7 nn7 cap7] := by rw [← hW10]; exact (y9.ext x79).setOther (show w.heap.size + 1 + 1 ≠ qb by omega) _
  have z8' : Blk W10 W7.heap.size 151 [.func (.func 108) #[.slice a1 n1 cap1] #[]] := by rw [← hW10]; exact (b8'.ext x9').setOther (show W7.heap.size ≠ qb by omega) _
  have zk : Kf w4.heap.size W W10 := by rw [← hW10]; exact (yk.trans (Kf.ext x79)).trans (Kf.setLow _ (show qb < w4.heap.size by omega) _)
  have zn : NumAt W10 (.slice a7 nn7 cap7) z := by
   rw [← hW10]
   obtain ⟨ls, l1, l2, l3⟩ := yn.ext x79
   refine ⟨ls, SlAt.set l1 _ ?_, l2, l3⟩
   intro b o c n hb
   have h1 : W.heap.size ≤ b := f7 _ _ _ hb
   have h2 := hlt; have h3 := e4.size
   show b ≠ qb
   omega
  have hqc' : W10.cell? ⟨qb, j, none⟩ = some (iv k) := z6'.cell (by rw [List.getElem?_map, List.getElem?_set_self (by omega)]; rfl)
  rw [hW10]
  ((try simp -dsimp [go_sem, z4'.cell (i := 0) rfl, z9'.cell (i := 0) rfl, z8'.cell (i := 0) rfl, hqc']); repeat (simp -dsimp (disch := omega) only [gL, gI]; try simp -dsimp [go_sem, z4'.cell (i := 0) rfl, z9'.cell (i := 0) rfl, z8'.cell (i := 0) rfl, hqc']))
  have d10 : Ext W10 W10.drew := Ext.dr (.refl W10)
  refine cw_by (k := (k : Int)) (hvM _ (z1'.trans (d10.mono z1'.size))) hyM (by omega) (by omega) ?_
  intro v11 W11 n11 x11 f11
  have x11' : Ext W10 W11 := d10.tr x11
  have z9'' := z9'.ext x11'
  ((try simp -dsimp [go_sem, z9''.cell (i := 0) rfl]); repeat (simp -dsimp (disch := omega) only [gL, gI]; try simp -dsimp [go_sem, z9''.cell (i := 0) rfl]))
  refine Cl_i n_integer_number_minus (c_minus (zn.ext x11') n11 (by omega) hkle) ?_
  rintro v12 W12 ⟨n12, x12, f12⟩
  obtain ⟨a12, nn12, cap12, rfl⟩ := n12.slice
  have x12' := x11'.tr x12
  have z9f := z9'.ext x12'
  have l12 := x12'.size
  have lz := z3'.lt
  have l11 := x11'.size
  have lq := z6'.lt
  ((try simp -dsimp [go_sem, z9f.cell (i := 0) rfl, z9f.frz 0]); repeat (simp -dsimp (disch := omega) only [gL, gI]; try simp -dsimp [go_sem, z9f.cell (i := 0) rfl, z9f.frz 0]))
  refine ⟨?_, (zk.trans (Kf.ext x12')).trans (Kf.setLow _ (show w.heap.size + 1 + 1 < w4.heap.size by omega) _)⟩
  rw [hJ]
  have hji' : xs.length - (i + 1) = j := by omega
  have hA' : num (xs.drop j) = y * (10000 * (A / y)) + z := by rw [hstep, hz]; grind
  refine ⟨Ext.stB (z1'.trans (x12'.mono z1'.size)) (show w.heap.size ≤ w.heap.size + 1 + 1 by omega) _, (z2'.ext x12').setOther (show w.heap.size ≠ w.heap.size + 1 + 1 by omega) _, (z3'.ext x12').setOther (show w3.heap.size ≠ w.heap.size + 1 + 1 by omega) _, ?_, ⟨qs.set j k, by simpa using j5, (z6'.ext x12').setOther (show qb ≠ w.heap.size + 1 + 1 by omega) _, ?_, ?_⟩, _, z9f.set1 _, ?_, f12.mono (by omega)⟩
  ·rw [hqv]; exact (z4'.ext x12').setOther (show w.heap.size + 1 ≠ w.heap.size + 1 + 1 by omega) _
  ·intro x hx
   rcases List.mem_or_eq_of_mem_set hx with h | h
   ·exact j7 x h
   ·omega
  ·rw [hji', hA', List.drop_eq_getElem_cons (by simp; omega)]
   simp only [num, List.getElem_set_self, List.drop_set_of_lt (show j < j + 1 by omega), j8]
   rw [Int.add_comm (y * _), Int.add_mul_ediv_left _ _ (by omega), hkz]
  ·rw [hji', hA', Int.add_comm (y * _), Int.add_mul_emod_self_left]
   have : z % y = z - y * k := by rw [hkz]; exact Int.emod_def z y
   rw [this]
   exact n12.setBlk z9f (by simp) 0 _
 ·rintro D W hD hWD hjw
  rw [hJ] at hjw
  obtain ⟨j1, j2, j3, j4, ⟨qs, j5, j6, j7, j8⟩, r, j9, j10, j11⟩ := hjw
  rw [length_backL, Nat.sub_self, List.drop_zero, List.drop_zero] at j8
  rw [length_backL, Nat.sub_self, List.drop_zero] at j10
  obtain ⟨a3, nn3, cap3, rfl⟩ := j10.slice
  rw [hqv] at j4
  ((try simp -dsimp [go_sem, j4.cell (i := 0) rfl, j9.cell (i := 0) rfl]); repeat (simp -dsimp (disch := omega) only [gL, gI]; try simp -dsimp [go_sem, j4.cell (i := 0) rfl, j9.cell (i := 0) rfl]))
  have d1 : Ext W W.drew := Ext.dr (.refl W)
  have jq : NumL W (.slice (some ⟨qb, 0, none⟩) xs.length xs.length) qs := j6.slAt (by simp [j5])
  refine Cl_i n_integer_number_trimmed (c_trimmed (jq.ext d1) (by omega)) ?_
  rintro v2 W2 ⟨t2, hW2, _⟩
  rw [hW2] at t2 ⊢
  clear hW2
  obtain ⟨a4, cap4, rfl⟩ := t2.slice
  have i4 := j4.ext d1
  have i9 := j9.ext d1
  ((try simp -dsimp [go_sem, i4.cell (i := 0) rfl, i4.frz 0, i9.cell (i := 0) rfl, i9.frz 0, j9.cell (i := 0) rfl, j9.frz 0]); repeat (simp -dsimp (disch := omega) only [gL, gI]; try simp -dsimp [go_sem, i4.cell (i := 0) rfl, i4.frz 0, i9.cell (i := 0) rfl, i9.frz 0, j9.cell (i := 0) rfl, j9.frz 0]))
  have t2' : NumL W (.slice a4 (trimL qs).length cap4) (trimL qs) := t2
  have s9 := j9.setOther (p := ⟨w.heap.size + 1, 0, none⟩) (show w.heap.size + 1 + 1 ≠ w.heap.size + 1 by omega) (.slice a4 (trimL qs).length cap4)
  have s4 := (j4.set1 (.slice a4 (trimL qs).length cap4)).setOther (p := ⟨w.heap.size + 1 + 1, 0, none⟩) (show w.heap.size + 1 ≠ w.heap.size + 1 + 1 by omega) (.slice a3 nn3 cap3)
  have s5 := s9.set1 (.slice a3 nn3 cap3)
  have b1 := Ext.stB (Ext.stB j1 (show w.heap.size ≤ (⟨w.heap.size + 1, 0, none⟩ : Addr).block from Nat.le_succ _) (.slice a4 (trimL qs).length cap4)) (show w.heap.size ≤ (⟨w.heap.size + 1 + 1, 0, none⟩ : Addr).block from by show w.heap.size ≤ w.heap.size + 1 + 1; omega) (.slice a3 nn3 cap3)
  have nq := (t2'.setBlk j4 (by simp) 0 (.slice a4 (trimL qs).length cap4)).setBlk s9 (by simp) 0 (.slice a3 nn3 cap3)
  have nr := (j10.setBlk j4 (by simp) 0 (.slice a4 (trimL qs).length cap4)).setBlk s9 (by simp) 0 (.slice a3 nn3 cap3)
  have hD' : ((W.setCell ⟨w.heap.size + 1, 0, none⟩ (.slice a4 (trimL qs).length cap4)).setCell ⟨w.heap.size + 1 + 1, 0, none⟩ (.slice a3 nn3 cap3)).heap[D]? = some (.deferred (some [])) :=
   (heap_setCell_other _ _ D _ (show D ≠ w.heap.size + 1 + 1 by omega)).trans ((heap_setCell_other _ _ D _ (show D ≠ w.heap.size + 1 by omega)).trans hWD)
  obtain ⟨V, hV⟩ : ∃ V, (W.setCell ⟨w.heap.size + 1, 0, none⟩ (.slice a4 (trimL qs).length cap4)).setCell ⟨w.heap.size + 1 + 1, 0, none⟩ (.slice a3 nn3 cap3) = V := ⟨_, rfl⟩
  rw [hV] at s4 s5 b1 nq nr hD' ⊢
  have dV : Ext V V.drew := Ext.dr (.refl V)
  have hDd : V.drew.heap[D]? = some (.deferred (some [])) := hD'
  refine Tk.mk hDd fun w' hb' hk' => ?_
  have f4 := (s4.ext dV).tk hDd hk'
  have f5 := (s5.ext dV).tk hDd hk'
  ((try simp -dsimp [go_sem, f4.cell (i := 0) rfl, f5.cell (i := 0) rfl]); repeat (simp -dsimp (disch := omega) only [gL, gI]; try simp -dsimp [go_sem, f4.cell (i := 0) rfl, f5.cell (i := 0) rfl]))
  obtain ⟨rs, r1, r2, r3⟩ := nr
  refine Ret.mk ⟨(b1.trans (dV.mono b1.size)).trans (hb'.mono (by omega)), _, _, rfl, ⟨trimL qs, (SlAt.ext nq dV).tk hDd hk', Nrm.trimL j7, by rw [num_trimL, j8]⟩, ⟨rs, (SlAt.ext r1 dV).tk hDd hk', r2, r3⟩⟩
 ·exact fun _ _ _ _ h => h.elim
end Go.Proofs.YtjgjeccfhmlcnaaGreatDoor
