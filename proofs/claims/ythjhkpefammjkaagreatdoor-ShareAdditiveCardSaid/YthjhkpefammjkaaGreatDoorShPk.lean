/-
  Contracts and plain lemmas. By an AI agent.
-/
import Derived.Test.YthjhkpefammjkaaGreatDoorLShPk
import Derived.Test.YthjhkpefammjkaaGreatDoorShPi
set_option linter.unusedSimpArgs false
set_option linter.unusedVariables false
set_option linter.unusedSectionVars false
namespace Go.Proofs.YthjhkpefammjkaaGreatDoor
open Go Go.Eng Go.Proofs Go.Num Go.RowKit Go.Shr
set_option maxRecDepth 100000
abbrev VOk (n : Nat) (l : List Int) : Prop := n ≤ 6 ∧ l.length = 2 ^ n ∧ ∀ x ∈ l, wOk x
theorem fCausesE {w0 : World} {v : Value} {l : List Int} (hv : SlC w0 1 v l.length (l.flatMap fI)) (hl : l.length ≤ 1000000) (hno : ¬ ∃ n, VOk n l) : Calls Tryz.prog 29 #[v] w0 (Ret fun r w' => Ext w0 w' ∧ r = .int .i64 (-1)) := by
 refine c_fCauses hv hl ?_
 by_cases hw : ∀ x ∈ l, wOk x
 ·exact .inl ⟨hw, (cz_no fun n hn e => hno ⟨n, by omega, e, hw⟩).symm⟩
 ·exact .inr ⟨hw, rfl⟩
theorem sQ_of {n : Nat} {l : List Int} (hn : n ≤ 6) : some (sQ n l n) = some (((g l (2 ^ n - 1) - g l 0 : Int) : Rat) / ((1 : Int) : Rat)) := by rw [sQ_all hn]
section
variable {w0 : World} {n al : Int} {v raw : Value} {xs rs : List Int} (hn : I64 n) (ha : I64 al) (hv : SlC w0 1 v xs.length (xs.flatMap fI)) (hl : xs.length ≤ 9223372036854775807) (hx : ∀ x ∈ xs, I64 x)
 (hr : SlC w0 1 raw rs.length (rs.flatMap fI)) (hrl : rs.length ≤ 9223372036854775807) (hT : Tab w0) (hF : FacV w0)
include hn ha hv hl hx hr hrl hT hF
set_option maxHeartbeats 8000000 in
theorem c_AddsUp : Calls Tryz.prog 5 #[.int .i64 n, v, .int .i64 al, raw] w0 (Ret fun r w' => Ext w0 w' ∧ r = .bool true) := by
 refine Exists.elim (pk_nat (c := n) (n := 6) (by decide)) fun m hm => ?_
 have hm6 := hm.2
 have cc1 := fun {W : World} (e : Ext w0 W) => c_sane (w0 := W) (hT.ext e) (hF.ext e)
 apply e_law25_ShareAddsUp
 unfold s_law25_ShareAddsUp
 have h := Hp.init [] w0
 refine cl1 h n_law25_sane (cc1 h.ext) fun w h => ?_
 refine Un_T (If_F ?_)
 replace h := h.dr
 refine dlS (hr.hp h) ?_
 refine Dv_min (dscHz (hr.hp h) (by first | omega | decide) (by first | omega | decide) fun v1 p1 => ?_)
 have hvr := p1
 clear p1
 refine Cl_i n_ref25_Made (c_Made hn ha (hv.ext h.ext) hl hx hm.1) ?_
 rintro u w1 ⟨_, rfl, l, hll, hlo, h'⟩
 have x1 := (h.x h'.ext).ext
 have hu : SlC w1 1 u l.length (l.flatMap fI) := by rw [hll]; exact h'.sl (i := 0) rfl
 have p2 : 2 ^ m ≤ 32 := Nat.pow_le_pow_right (n := 2) (by decide) (show m ≤ 5 by omega)
 have hvr := hvr.2 w1 (hr.ext x1)
 rw [flat_take (f := fI) (fun _ => rfl)] at hvr
 refine Exists.elim (p := fun L => rs.take (min (rs.length : Int) 64).toNat = L) ⟨_, rfl⟩ fun L hL => ?_
 have hLl : L.length = (min (rs.length : Int) 64).toNat := by rw [← hL, List.length_take]; omega
 rw [hL, ← hLl] at hvr
 have hLl : L.length ≤ 64 := by omega
 have hT := hT.ext x1
 have hF := hF.ext x1
 clear cc1 h h' hL hr hv
 have h := Hp.init [] w1
 have hu1 := (slc_c1 hu).1
 have hvr1 := (slc_c1 hvr).1
 refine bsN (vs := [_, _]) h (.cons (by first | assumption) (by rfl) (.cons (by first | assumption) (by rfl) .nil)) (by rfl) (by rfl) (by decide) (by decide) (by decide) fun v2 w h => ?_
 refine dlS (qZ 0 h rfl) ?_
 refine Lp1.mk (fun i W => ∃ j : Nat, j ≤ 2 ∧ i = .int .i64 j ∧ Hp [] w1 W [ro 22 1 v2 2 [u, v1]]) (fun i _ => match i with | .int _ i' => 2 - i'.toNat | _ => 0) ⟨0, by omega, rfl, h⟩ ?_
 clear h
 rintro _ W ⟨j, hj, rfl, h⟩
 by_cases hj2 : j < 2
 ·refine Exists.elim (p := fun t : Value × List Int => [u, v1][j]? = some t.1 ∧ SlC w1 1 t.1 t.2.length (t.2.flatMap fI) ∧ t.2.length ≤ 64) (by
   rcases (show j = 0 ∨ j = 1 by omega) with rfl | rfl
   ·exact ⟨(u, l), rfl, hu, by show l.length ≤ 64; rw [hll]; omega⟩
   ·exact ⟨(v1, L), rfl, hvr, hLl⟩) fun t ht => ?_
  obtain ⟨y, q⟩ := t
  obtain ⟨hy, hq, hq64⟩ := ht
  have hy : [u, v1][j]? = some y := hy
  have hq : SlC w1 1 y q.length (q.flatMap fI) := hq
  have hq64 : q.length ≤ 64 := hq64
  have sy : Seg [u, v1] (j * 1) [y] := seg_one hy
  clear hu hvr hu1 hvr1
  by_cases hok : ∃ k, VOk k q
  ·refine Exists.elim hok fun k hk => ?_
   obtain ⟨hk6, hqk, hqw⟩ := hk
   have cr1 : ∀ {W : World}, Ext w1 W → Calls Tryz.prog 13 #[y] W (Ret fun r w' => ∃ u, r = .tuple #[u, .int .i64 0] ∧ Hp [] W w' [ro tR 2 u k (qC (shrs k q))]) := fun {W} e => c_Shapley (hq.ext e) hk6 hqk hqw (hT.ext e) (hF.ext e)
   have cc2 : ∀ {W : World}, Ext w1 W → ∀ {a : Value}, SlC W 2 a k (qC (shrs k q)) → Calls Tryz.prog 30 #[a] W (Ret fun r w' => Ext W w' ∧ r = .tuple #[ov (some (sQ k q k)), .int .i64 0]) := fun {W} e {a} hs => c_lsum hk6 hqk hqw hs (hT.ext e)
   have b1 := g_ok hqw (show 2 ^ k - 1 < q.length by have := Nat.two_pow_pos k; omega)
   have b2 := g_ok hqw (show 0 < q.length by have := Nat.two_pow_pos k; omega)
   have hq1 : 1 ≤ q.length := by have := Nat.two_pow_pos k; omega
   have b11 := b1.1
   have b12 := b1.2
   have b21 := b2.1
   have b22 := b2.2
   have cc3 : ∀ {W : World}, Ext w1 W → Calls Tryz.prog 22 #[.int .i64 (g q (2 ^ k - 1) - g q 0), .int .i64 1] W (Ret fun r w' => Ext W w' ∧ r = ov (some (sQ k q k))) := fun {W} e => by
    have := c_of (w := W) (n := g q (2 ^ k - 1) - g q 0) (d := 1) (hT.ext e) ⟨by omega, by omega⟩ (by decide) (by decide)
    rw [← sQ_of hk6] at this
    exact this
   have hsl : (shrs k q).length = k := by simp [shrs]
   have cc4 : ∀ {W : World}, Ext w1 W → ∀ {a : Value}, SlC W 2 a k (qC (shrs k q)) → Calls Tryz.prog 24 #[y, a] W (Ret fun r w' => Ext W w' ∧ r = .bool true) := fun {W} e {a} hs => c_Check (ys := shrs k q) (hq.ext e) (by omega) hk6 hqk hqw (hT.ext e) (hF.ext e) (by rw [hsl]; exact hs) (by omega) (by simp)
   have sg1 : Seg (q.flatMap fI) (((q.length : Int) - 1).toNat * 1) (fI (g q (2 ^ k - 1))) := by
    rw [show ((q.length : Int) - 1).toNat = 2 ^ k - 1 by omega]
    exact flat_seg (f := fI) (fun _ => rfl) (g_get (by omega))
   have sg0 : Seg (q.flatMap fI) (0 * 1) (fI (g q 0)) := flat_seg (f := fI) (fun _ => rfl) (g_get (by omega))
   have qe := qe_t (sQ k q k)
   refine Bn_ltT (by omega) (If_T (iaR h 0 rfl (by omega) fun zg zk zv => ?_))
   refine lr0 h 0 rfl ‹_› sy (by rfl) ?_
   refine clR h n_share_Shapley (cr1 h.ext) fun v3 w h => ?_
   refine Ex2 (Bn_neF (by omega) (If_F (cl1 h n_law25_sum (cc2 h.ext (by first | exact (qZ 0 h rfl) | assumption)) fun w h => ?_)))
   refine Ex2 (alS h fun g1 w h => ?_)
   refine stA h 0 rfl rfl rfl rfl fun w h => ?_
   replace h := h.dr
   refine Dv_neF (by omega) (GdP_F (dlA h 0 rfl rfl ?_))
   refine GdP_F (GdP_F (GdP_F (dlS (hq.hp h) ?_)))
   refine GdP_F (Dv_su (by omega) (by omega) (GdP_F (diHz h ‹_› (by omega) (by omega) fun zb zo zk zv zc => ?_)))
   refine GdP_F (dh0 h ‹_› ‹_› (by rfl) ?_)
   refine GdP_F (GdP_F (diHz h ‹_› (by omega) (by omega) fun zb zo zk zv zc => ?_))
   refine GdP_F (dh0 h ‹_› ‹_› (by rfl) ?_)
   refine GdP_F (Dv_su (by omega) (by omega) (Gd_F (cl1 h n_law25_of (cc3 h.ext) fun w h => ?_)))
   refine Kg_F ?_
   refine klA h 0 rfl rfl ?_
   refine GdP_F (dqNeF ‹_› ?_)
   refine PickP_F (GdP_F (GdP_F (Gd_F (cl1 h n_share_Check (cc4 h.ext (by first | exact (qZ 1 h rfl) | assumption)) fun w h => ?_))))
   refine GdP_F (Dv_nT (PickP_F (If_F (Bn_ad (by omega) (by omega) ?_))))
   dsimp only [List.set] at h
   exact ⟨⟨j + 1, by omega, rfl, h.pick [2] (by decide) rfl⟩, by show 2 - ((j : Int) + 1).toNat < 2 - (j : Int).toNat; omega⟩
  ·have cc1 := fun {W : World} (e : Ext w1 W) => c_ShapleyE (w0 := W) (hq.ext e) (by omega) hok
   have cc2 := fun {W : World} (e : Ext w1 W) => fCausesE (w0 := W) (hq.ext e) (by omega) hok
   refine Bn_ltT (by omega) (If_T (iaR h 0 rfl (by omega) fun zg zk zv => ?_))
   refine lr0 h 0 rfl ‹_› sy (by rfl) ?_
   refine cl1 h n_share_Shapley (cc1 h.ext) fun w h => ?_
   refine Ex2 (Bn_neT (by omega) (If_T (cl1 h n_ref25_Causes (cc2 h.ext) fun w h => ?_)))
   refine Bn_geF (by omega) (If_F (Bn_ad (by omega) (by omega) ?_))
   exact ⟨⟨j + 1, by omega, rfl, h⟩, by show 2 - ((j : Int) + 1).toNat < 2 - (j : Int).toNat; omega⟩
 ·refine Bn_ltF (by omega) (If_F ?_)
  exact Ret.mk ⟨x1.tr h.ext, rfl⟩
end
end Go.Proofs.YthjhkpefammjkaaGreatDoor
