/-
  Contracts and plain lemmas. By an AI agent.
-/
import Derived.Test.YthjhkpefammjkaaGreatDoorShPr
set_option linter.unusedSimpArgs false
set_option linter.unusedVariables false
set_option linter.unusedSectionVars false
namespace Go.Proofs.YthjhkpefammjkaaGreatDoor
open Go Go.Eng Go.Proofs Go.Num Go.RowKit Go.Shr
set_option maxRecDepth 100000
section
variable {w0 : World} {v : Value} {l : List Int} (hv : SlC w0 1 v l.length (l.flatMap fI)) (hl : l.length ≤ 1000000) (hno : ¬ ∃ n, VOk n l)
include hv hl hno
end
section
variable {w0 : World} {v : Value} {l : List Int} (hv : SlC w0 1 v l.length (l.flatMap fI))
include hv
end
structure CbOk (ks : List Nat) (l : List Int) : Prop where
 le3 : ks.length ≤ 3
 sz : ∀ k ∈ ks, 1 ≤ k ∧ k ≤ 3
 n5 : (many ks).2 ≤ 5
 len : l.length = (many ks).1
 ok : ∀ x ∈ l, mdOk x
theorem CbOk.mg {ks : List Nat} {l : List Int} (h : CbOk ks l) : MgOk ks l := ⟨by have := h.le3; omega, fun k hk => by have := h.sz k hk; omega, by have := h.n5; omega, by
 have h1 := many_pow ks
 have h2 : 2 ^ (many ks).2 ≤ 2 ^ 5 := Nat.pow_le_pow_right (by decide) h.n5
 omega, h.len, mdOk_w h.ok⟩
section
variable {w0 : World} {n0 n1 n2 : Int} {v : Value} {xs : List Int} (hn0 : I64 n0) (hn1 : I64 n1) (hn2 : I64 n2) (hv : SlC w0 1 v xs.length (xs.flatMap fI)) (hl : xs.length ≤ 9223372036854775807) (hx : ∀ x ∈ xs, I64 x)
include hn0 hn1 hn2 hv hl hx
set_option maxHeartbeats 8000000 in
theorem c_Combos : Calls Tryz.prog 26 #[.agg #[.int .i64 n0, .int .i64 n1, .int .i64 n2], v] w0 (Ret fun r w' => ∃ a b, r = .tuple #[a, b] ∧ ∃ (ks : List Nat) (l : List Int), CbOk ks l ∧ Hp [] w0 w' [ro tI 1 b (many ks).1 (l.flatMap fI), ro tI 1 a ks.length (ks.flatMap fN)]) := by
 apply e_ref25_Combos
 unfold s_ref25_Combos
 have h := Hp.init [] w0
 refine bxA h fun g1 w h => ?_
 have h := h.nil tI 1
 refine Lp4.mk (fun a x y i W => ∃ (c : Nat) (ks : List Nat), c ≤ 3 ∧ i = .int .i64 c ∧ ks.length ≤ c ∧ (∀ k ∈ ks, 1 ≤ k ∧ k ≤ 3) ∧ (many ks).2 ≤ 5 ∧ x = .int .i64 (5 - ((many ks).2 : Int)) ∧ y = .int .i64 ((many ks).1 : Nat) ∧ Hp [] w0 W [ro tI 1 a ks.length (ks.flatMap fN), bx g1 44 [.int .i64 n0, .int .i64 n1, .int .i64 n2]]) (fun _ _ _ i _ => match i with | .int _ i' => 3 - i'.toNat | _ => 0) ⟨0, [], by omega, rfl, by simp, by simp, by decide, rfl, rfl, h⟩ ?_
 clear h
 rintro a _ _ _ W ⟨c, ks, hc, rfl, hkl, hks, hm5, rfl, rfl, h⟩
 have hmp := many_pow ks
 have hm32 : 2 ^ (many ks).2 ≤ 2 ^ 5 := Nat.pow_le_pow_right (by decide) hm5
 have hm1 : (many ks).1 ≤ 32 := Nat.le_trans hmp hm32
 clear hmp hm32
 by_cases hc3 : c < 3
 ·refine Exists.elim (p := fun z : Int => I64 z ∧ [Value.int .i64 n0, .int .i64 n1, .int .i64 n2][0 + c * 1]? = some (.int .i64 z)) (by
   rcases (show c = 0 ∨ c = 1 ∨ c = 2 by omega) with rfl | rfl | rfl
   ·exact ⟨n0, hn0, rfl⟩
   ·exact ⟨n1, hn1, rfl⟩
   ·exact ⟨n2, hn2, rfl⟩) fun z hz => ?_
  have hz2 := hz.2
  refine Exists.elim (pk_nat (c := z) (n := 4) (by decide)) fun k hk => ?_
  have hk4 := hk.2
  have cc1 : ∀ {W : World}, Ext w0 W → Calls Tryz.prog 36 #[.int .i64 z, .int .i64 4] W (Ret fun r w' => Ext W w' ∧ r = .int .i64 (k : Int)) := fun {W} _ => by
   have := c_fpick (w := W) (c := z) (n := 4) hz.1 (by omega) (by omega)
   rw [hk.1] at this; exact this
  refine Bn_ltT (by omega) (If_T (iaA (by omega) ?_))
  refine Eng.ld1 h 1 rfl hz2 ?_
  by_cases hk0 : k = 0
  ·refine cl1 h n_ref25_pick (cc1 h.ext) fun w h => ?_
   refine Bn_gtF (by omega) (Gd_FT (Gd_FT (Gd_FT (Pick_F (If_F (Bn_ad (by omega) (by omega) ?_))))))
   exact ⟨⟨c + 1, ks, by omega, rfl, by omega, hks, hm5, rfl, rfl, h⟩, by show 3 - ((c : Int) + 1).toNat < 3 - (c : Int).toNat; omega⟩
  by_cases hkf : (many ks).2 + k ≤ 5
  ·have es := many_sn ks k
   have hmu : (((many ks).1 : Nat) : Int) * ((k : Int) + 1) = (((many (ks ++ [k])).1 : Nat) : Int) := by
    rw [es]
    show _ = (((many ks).1 * (k + 1) : Nat) : Int)
    rw [Int.natCast_mul]; rfl
   have hm3 : (many (ks ++ [k])).1 ≤ 32 * 4 := by rw [es]; exact Nat.mul_le_mul hm1 (by omega)
   have hm4 : (many (ks ++ [k])).2 = (many ks).2 + k := by rw [es]
   clear es
   refine cl1 h n_ref25_pick (cc1 h.ext) fun w h => ?_
   refine Bn_gtT (by omega) (Gd_T (Gd_T (Gd_T (Bn_leT (by omega) (Pick_T (If_T (bs1A h (by rfl) (by decide) (by rfl) (by decide) fun v1 w h => ?_)))))))
   refine apR (by rfl) (by decide) h 1 rfl (qZ 0 h rfl) (by first | rfl | assumption) (by omega) fun v2 w h => ?_
   refine Bn_su (by omega) (by omega) (Bn_ad (by omega) (by omega) (Bn_mu (by omega) (by omega) (Bn_ad (by omega) (by omega) ?_)))
   dsimp only [List.set] at h
   refine ⟨⟨c + 1, ks ++ [k], by omega, rfl, by rw [List.length_append]; simp; omega, fun q hq => ?_, by omega, ?_, by rw [hmu], ?_⟩, by show 3 - ((c : Int) + 1).toNat < 3 - (c : Int).toNat; omega⟩
   ·rcases List.mem_append.1 hq with hq | hq
    ·exact hks q hq
    ·simp at hq; omega
   ·rw [hm4]; congr 1; omega
   ·rw [List.length_append, List.flatMap_append]
    exact h.pick [1, 2] (by decide) rfl
  ·refine cl1 h n_ref25_pick (cc1 h.ext) fun w h => ?_
   refine Bn_gtT (by omega) (Gd_T (Gd_T (Gd_T (Bn_leF (by omega) (Pick_T (If_F (Bn_ad (by omega) (by omega) ?_)))))))
   exact ⟨⟨c + 1, ks, by omega, rfl, by omega, hks, hm5, rfl, rfl, h⟩, by show 3 - ((c : Int) + 1).toNat < 3 - (c : Int).toNat; omega⟩
 ·refine Bn_ltF (by omega) (If_F ?_)
  have h := (h.pick [0] (by decide) rfl).nil tI 1
  refine Lp2.mk (fun u i W => ∃ (s : Nat) (l : List Int), s ≤ (many ks).1 ∧ l.length = s ∧ (∀ x ∈ l, mdOk x) ∧ i = .int .i64 s ∧ Hp [] w0 W [ro tI 1 u s (l.flatMap fI), ro tI 1 a ks.length (ks.flatMap fN)]) (fun _ i _ => match i with | .int _ i' => (many ks).1 - i'.toNat | _ => 0) ⟨0, [], Nat.zero_le _, rfl, by simp, rfl, h⟩ ?_
  clear h
  rintro u _ W ⟨i, l, hi, hls, hlo, rfl, h⟩
  by_cases hsl : i < (many ks).1
  ·have fin : ∀ {w1 : World} {u1 : Value} {y : Int}, mdOk y → Hp [] w0 w1 [ro tI 1 u1 (i + 1) (l.flatMap fI ++ [.int .i64 y]), ro tI 1 a ks.length (ks.flatMap fN)] →
    (∃ (s' : Nat) (l' : List Int), s' ≤ (many ks).1 ∧ l'.length = s' ∧ (∀ x ∈ l', mdOk x) ∧ (Value.int .i64 ((i : Int) + 1)) = .int .i64 s' ∧ Hp [] w0 w1 [ro tI 1 u1 s' (l'.flatMap fI), ro tI 1 a ks.length (ks.flatMap fN)]) ∧ (many ks).1 - ((i : Int) + 1).toNat < (many ks).1 - (i : Int).toNat := fun {w1 u1 y} hy hh =>
    ⟨⟨i + 1, l ++ [y], by omega, by simp [hls], fun x hx => (List.mem_append.1 hx).elim (hlo x) (fun e => by rw [List.mem_singleton] at e; rw [e]; exact hy), rfl, by rw [List.flatMap_append]; exact hh⟩, by omega⟩
   by_cases h0 : xs.length = 0
   ·refine Bn_ltT (by omega) (If_T (leS (hv.hp h) ?_))
    refine Bn_gtF (by omega) (If_F (bs1A h (by rfl) (by decide) (by rfl) (by decide) fun v1 w h => ?_))
    refine apR (by rfl) (by decide) h 1 rfl (qZ 0 h rfl) (by first | rfl | assumption) (by omega) fun v2 w h => ?_
    refine Bn_ad (by omega) (by omega) ?_
    dsimp only [List.set] at h
    exact fin (y := 0) ⟨by decide, by decide⟩ (h.pick [1, 2] (by decide) rfl)
   ·refine Exists.elim (p := fun r => i % xs.length = r) ⟨_, rfl⟩ fun r hr => ?_
    have hil : r < xs.length := by rw [← hr]; exact Nat.mod_lt _ (by omega)
    have sx : Seg (xs.flatMap fI) (r * 1) (fI (g xs r)) := flat_seg (f := fI) (fun _ => rfl) (g_get hil)
    refine Bn_ltT (by omega) (If_T (leS (hv.hp h) ?_))
    refine Bn_gtT (by omega) (If_T ?_)
    replace h := h.dr
    refine dlS (hv.hp h) ?_
    refine dvBx (v := .int .i64 (r : Int)) (fun w K hk => Bn_rm (by omega) (by omega) (by rw [show (i : Int) % (xs.length : Int) = (r : Int) by rw [← hr]; rfl]; exact hk)) ?_
    refine diH h hv (j := r) hil fun zb zo zk zv zc => ?_
    refine dh0 h zc sx rfl ?_
    refine dlS (hv.hp h) ?_
    refine Dv_qt (by omega) (by omega) (by omega) (dvBx (fun w K hk => Bn_adW hk) ?_)
    have hb := pk_bd (c := IntKind.i64.wrap (g xs r + (i : Int).tdiv (xs.length : Int))) (n := 60) (by decide)
    refine cl1 h n_ref25_pick (c_fpick (wrap_I64 _) (by decide) (by decide)) fun w h => ?_
    refine Dv_su (by omega) (by omega) (bs1A h (by rfl) (by decide) (by rfl) (by decide) fun v1 w h => ?_)
    refine apR (by rfl) (by decide) h 1 rfl (qZ 0 h rfl) (by first | rfl | assumption) (by omega) fun v2 w h => ?_
    refine Bn_ad (by omega) (by omega) ?_
    dsimp only [List.set] at h
    exact fin (y := pk (IntKind.i64.wrap (g xs r + (i : Int).tdiv (xs.length : Int))) 60 - 10) ⟨by omega, by omega⟩ (h.pick [1, 2] (by decide) rfl)
  ·have e : i = (many ks).1 := by omega
   rw [e] at h hls
   refine Bn_ltF (by omega) (If_F ?_)
   exact Ret.mk ⟨a, u, rfl, ks, l, ⟨by omega, hks, hm5, hls, hlo⟩, h⟩
end
end Go.Proofs.YthjhkpefammjkaaGreatDoor
