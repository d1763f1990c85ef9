/-
  Contracts and plain lemmas. By an AI agent.
-/
import Derived.Test.YthjhkpefammjkaaGreatDoorLShPl
import Derived.Test.YthjhkpefammjkaaGreatDoorShPk
set_option linter.unusedSimpArgs false
set_option linter.unusedVariables false
set_option linter.unusedSectionVars false
namespace Go.Proofs.YthjhkpefammjkaaGreatDoor
open Go Go.Eng Go.Proofs Go.Num Go.RowKit Go.Shr
set_option maxRecDepth 100000
def bothL (q : Nat) (a b : List Int) : List Int := (List.range q).map fun s => g a s + g b s
def movedL (q : Nat) (a : List Int) (c : Int) : List Int := (List.range q).map fun s => g a s + c
theorem bothL_g {q s : Nat} {a b : List Int} (h : s < q) : (bothL q a b)[s]? = some (g a s + g b s) := by simp [bothL, h]
theorem movedL_g {q s : Nat} {a : List Int} {c : Int} (h : s < q) : (movedL q a c)[s]? = some (g a s + c) := by simp [movedL, h]
theorem g_of {l : List Int} {s : Nat} {x : Int} (h : l[s]? = some x) : g l s = x := by unfold g; rw [List.getD_eq_getElem?_getD, h]; rfl
theorem md_g {l : List Int} {s : Nat} (h : ∀ x ∈ l, mdOk x) (hs : s < l.length) : mdOk (g l s) := h _ (List.mem_of_getElem? (g_get hs))
theorem shr_add {n i : Nat} {a b z : List Int} (hn : n ≤ 6) (hi : i < n) (h : ∀ k, k < 2 ^ n → g z k = g a k + g b k) : shr n a i + shr n b i = shr n z i := by
 unfold shr
 rw [numS_add hn hi h]
 have := fac_ne n
 grind
theorem shrs_shift {n : Nat} {a z : List Int} {c : Int} (hn : n ≤ 6) (h : ∀ k, k < 2 ^ n → g z k = g a k + c) : shrs n z = shrs n a := by
 unfold shrs
 refine List.map_congr_left fun i hi => ?_
 unfold shr
 rw [numS_shift hn (List.mem_range.1 hi) h]
theorem shr_SR {n i : Nat} {l : List Int} (hn : n ≤ 6) (hi : i < n) (hln : l.length = 2 ^ n) (hw : ∀ x ∈ l, wOk x) : SR 31 7 (shr n l i) := mn_SR (n := n) (by omega) (tms_ok hn hi hln hw)
theorem shrs_len (n : Nat) (l : List Int) : (shrs n l).length = n := by simp [shrs]
section
variable {w0 : World} {n a0 a1 sh : Int} {v v' : Value} {xs ys : List Int} (hn : I64 n) (ha0 : I64 a0) (ha1 : I64 a1) (hsh : I64 sh) (hv : SlC w0 1 v xs.length (xs.flatMap fI)) (hl : xs.length ≤ 9223372036854775807) (hx : ∀ x ∈ xs, I64 x)
 (hv' : SlC w0 1 v' ys.length (ys.flatMap fI)) (hl' : ys.length ≤ 9223372036854775807) (hy : ∀ x ∈ ys, I64 x) (hT : Tab w0) (hF : FacV w0)
include hn ha0 ha1 hsh hv hl hx hv' hl' hy hT hF
set_option maxHeartbeats 8000000 in
theorem c_Additive : Calls Tryz.prog 7 #[.int .i64 n, v, v', .agg #[.int .i64 a0, .int .i64 a1], .int .i64 sh] w0 (Ret fun r w' => Ext w0 w' ∧ r = .bool true) := by
 refine Exists.elim (pk_nat (c := n) (n := 6) (by decide)) fun m hm => ?_
 have hm6 := hm.2
 refine Exists.elim (pk_nat (c := sh) (n := 1000) (by decide)) fun q hq => ?_
 have hq1 := hq.2
 have cc1 := fun {W : World} (e : Ext w0 W) => c_sane (w0 := W) (hT.ext e) (hF.ext e)
 apply e_law25_ShareAdditive
 unfold s_law25_ShareAdditive
 have h := Hp.init [] w0
 refine bxA h fun g1 w h => ?_
 refine cl1 h n_law25_sane (cc1 h.ext) fun w h => ?_
 refine Un_T (If_F (iaZ (by decide) (by decide) ?_))
 refine Eng.ld1 h 0 rfl rfl (Cl_i n_ref25_Made (c_Made hn ha0 (hv.ext h.ext) hl hx hm.1) ?_)
 rintro u w1 ⟨_, rfl, la, hla, hlo, h'⟩
 have h := h.cat1 h' ro_sm
 refine iaZ (by decide) (by decide) ?_
 refine Eng.ld1 h 1 rfl rfl (Cl_i n_ref25_Made (c_Made hn ha1 (hv'.ext h.ext) hl' hy hm.1) ?_)
 rintro u' w1 ⟨_, rfl, lb, hlb, hlo', h'⟩
 have h := h.cat1 h' ro_sm
 have x1 := h.ext
 have p2 : 2 ^ m ≤ 32 := Nat.pow_le_pow_right (n := 2) (by decide) (show m ≤ 5 by omega)
 have hu' : SlC w1 1 u' (2 ^ m) (lb.flatMap fI) := h.sl (i := 0) rfl
 have hu : SlC w1 1 u (2 ^ m) (la.flatMap fI) := h.sl (i := 1) rfl
 have hT := hT.ext x1
 have hF := hF.ext x1
 refine Exists.elim (p := fun p => 2 ^ m = p) ⟨_, rfl⟩ fun p hp => ?_
 rw [hp] at hu hu' p2 hla hlb
 clear cc1 h h' hv hv'
 have h := Hp.init [] w1
 have cc1 := fun {W : World} (_ : Ext w1 W) => c_lpick (w := W) (c := sh) (n := 1000) hsh (by decide) (by decide)
 rw [hq.1] at cc1
 replace h := (h.nil tI 1).nil tI 1
 refine Lp3.mk (fun a b i W => ∃ s : Nat, s ≤ p ∧ i = .int .i64 s ∧ Hp [] w1 W [ro tI 1 a s (((bothL p la lb).take s).flatMap fI), ro tI 1 b s (((movedL p la ((q : Int) - 500)).take s).flatMap fI)]) (fun _ _ i _ => match i with | .int _ i' => p - i'.toNat | _ => 0) ⟨0, by omega, rfl, h⟩ ?_
 clear h
 rintro a b _ W ⟨s, hs, rfl, h⟩
 by_cases hsp : s < p
 ·have ga := md_g hlo (show s < la.length by omega)
  have gb := md_g hlo' (show s < lb.length by omega)
  have ga1 := ga.1
  have ga2 := ga.2
  have gb1 := gb.1
  have gb2 := gb.2
  have sa : Seg (la.flatMap fI) (s * 1) (fI (g la s)) := flat_seg (f := fI) (fun _ => rfl) (g_get (by omega))
  have sb : Seg (lb.flatMap fI) (s * 1) (fI (g lb s)) := flat_seg (f := fI) (fun _ => rfl) (g_get (by omega))
  refine leS (hu.hp h) ?_
  refine Bn_ltT (by omega) (If_T ?_)
  replace h := h.dr
  refine diH h ‹_› (by omega) fun zb zo zk zv zc => ?_
  refine dh0 h ‹_› ‹_› (by rfl) ?_
  refine diH h ‹_› (by omega) fun zb zo zk zv zc => ?_
  refine dh0 h ‹_› ‹_› (by rfl) ?_
  refine Dv_ad (by omega) (by omega) (bs1A h (by rfl) (by decide) (by rfl) (by decide) fun v1 w h => ?_)
  refine apR (by rfl) (by decide) h 1 rfl (qZ 0 h rfl) (by first | rfl | assumption) (by omega) fun v2 w h => ?_
  replace h := h.dr
  refine diH h ‹_› (by omega) fun zb zo zk zv zc => ?_
  refine dh0 h ‹_› ‹_› (by rfl) ?_
  refine cl1 h n_law25_pick (cc1 h.ext) fun w h => ?_
  refine kh0 h ‹_› ‹_› (by rfl) ?_
  refine Dv_ad (by omega) (by omega) (Dv_su (by omega) (by omega) (bs1A h (by rfl) (by decide) (by rfl) (by decide) fun v3 w h => ?_))
  refine apR (by rfl) (by decide) h 3 rfl (qZ 0 h rfl) (by first | rfl | assumption) (by omega) fun v4 w h => ?_
  refine Bn_ad (by omega) (by omega) ?_
  dsimp only [List.set] at h
  refine ⟨⟨s + 1, by omega, rfl, ?_⟩, by show p - ((s : Int) + 1).toNat < p - (s : Int).toNat; omega⟩
  rw [show g la s + (q : Int) - 500 = g la s + ((q : Int) - 500) by omega] at h
  rw [take_snoc (bothL_g hsp), take_snoc (movedL_g hsp), List.flatMap_append, List.flatMap_append]
  exact h.pick [2, 3] (by decide) rfl
 have e : s = p := by omega
 subst e
 have el1 : (bothL s la lb).length = s := by simp [bothL]
 have el2 : (movedL s la ((q : Int) - 500)).length = s := by simp [movedL]
 rw [List.take_of_length_le (by omega), List.take_of_length_le (by omega)] at h
 have n6 : m ≤ 6 := by omega
 have wa := mdOk_w hlo
 have wb := mdOk_w hlo'
 have gz : ∀ k, k < 2 ^ m → g (bothL s la lb) k = g la k + g lb k := fun k hk => g_of (bothL_g (by omega))
 have gm : ∀ k, k < 2 ^ m → g (movedL s la ((q : Int) - 500)) k = g la k + ((q : Int) - 500) := fun k hk => g_of (movedL_g (by omega))
 have wz : ∀ x ∈ bothL s la lb, wOk x := fun x hx => by
  obtain ⟨k, hk, rfl⟩ := List.mem_map.1 hx
  have hk := List.mem_range.1 hk
  have ga := md_g hlo (show k < la.length by omega)
  have gb := md_g hlo' (show k < lb.length by omega)
  have ga1 := ga.1
  have ga2 := ga.2
  have gb1 := gb.1
  have gb2 := gb.2
  exact ⟨by omega, by omega⟩
 have wm : ∀ x ∈ movedL s la ((q : Int) - 500), wOk x := fun x hx => by
  obtain ⟨k, hk, rfl⟩ := List.mem_map.1 hx
  have hk := List.mem_range.1 hk
  have ga := md_g hlo (show k < la.length by omega)
  have ga1 := ga.1
  have ga2 := ga.2
  exact ⟨by omega, by omega⟩
 have esh : shrs m (movedL s la ((q : Int) - 500)) = shrs m la := shrs_shift n6 gm
 have cr1 : ∀ {W : World}, Ext w1 W → Calls Tryz.prog 13 #[u] W (Ret fun r w' => ∃ v, r = .tuple #[v, .int .i64 0] ∧ Hp [] W w' [ro tR 2 v m (qC (shrs m la))]) := fun {W} e => c_Shapley (l := la) (by rw [hla]; exact hu.ext e) n6 (by omega) wa (hT.ext e) (hF.ext e)
 have cr2 : ∀ {W : World}, Ext w1 W → Calls Tryz.prog 13 #[u'] W (Ret fun r w' => ∃ v, r = .tuple #[v, .int .i64 0] ∧ Hp [] W w' [ro tR 2 v m (qC (shrs m lb))]) := fun {W} e => c_Shapley (l := lb) (by rw [hlb]; exact hu'.ext e) n6 (by omega) wb (hT.ext e) (hF.ext e)
 have cr3 : ∀ {W : World}, Ext w1 W → ∀ {z : Value}, SlC W 1 z s ((bothL s la lb).flatMap fI) → Calls Tryz.prog 13 #[z] W (Ret fun r w' => ∃ v, r = .tuple #[v, .int .i64 0] ∧ Hp [] W w' [ro tR 2 v m (qC (shrs m (bothL s la lb)))]) := fun {W} e {z} hs => c_Shapley (l := bothL s la lb) (by rw [el1]; exact hs) n6 (by omega) wz (hT.ext e) (hF.ext e)
 have cr4 : ∀ {W : World}, Ext w1 W → ∀ {z : Value}, SlC W 1 z s ((movedL s la ((q : Int) - 500)).flatMap fI) → Calls Tryz.prog 13 #[z] W (Ret fun r w' => ∃ v, r = .tuple #[v, .int .i64 0] ∧ Hp [] W w' [ro tR 2 v m (qC (shrs m la))]) := fun {W} e {z} hs => by
  have := c_Shapley (w0 := W) (v := z) (l := movedL s la ((q : Int) - 500)) (by rw [el2]; exact hs) n6 (by omega) wm (hT.ext e) (hF.ext e)
  rw [esh] at this; exact this
 have cc2 : ∀ {W : World}, Ext w1 W → ∀ {a b : Value}, SlC W 2 a m (qC (shrs m la)) → SlC W 2 b m (qC (shrs m la)) → Calls Tryz.prog 19 #[a, b] W (Ret fun r w' => Ext W w' ∧ r = .bool true) := fun {W} e {a b} h1 h2 =>
  c_same (xs := shrs m la) (ys := shrs m la) (by rw [shrs_len]; exact h1) (by rw [shrs_len]; exact h2) (by rw [shrs_len]; omega) (by rw [shrs_len]; omega) (by simp)
 refine leS (hu.hp h) ?_
 refine Bn_ltF (by omega) (If_F (clR h n_share_Shapley (cr1 h.ext) fun v1 w h => ?_))
 refine Ex2 (clR h n_share_Shapley (cr2 h.ext) fun v2 w h => ?_)
 refine Ex2 (clR h n_share_Shapley (cr3 h.ext (by first | exact (qZ 2 h rfl) | assumption)) fun v3 w h => ?_)
 refine Ex2 (clR h n_share_Shapley (cr4 h.ext (by first | exact (qZ 4 h rfl) | assumption)) fun v4 w h => ?_)
 refine Ex2 (Bn_neF (by omega) (Gd_F (Gd_F (Bn_neF (by omega) (Pick_F (Gd_F (Gd_F (Bn_neF (by omega) (Pick_F (Gd_F (Gd_F (Bn_neF (by omega) (Pick_F (Gd_F (Gd_F (leS (qZ 3 h rfl) ?_))))))))))))))))
 refine Gd_F (Gd_F (leS (qZ 2 h rfl) ?_))
 refine Gd_F (Bn_neF (by omega) (Pick_F (Gd_F (Gd_F (leS (qZ 3 h rfl) ?_)))))
 refine Gd_F (Gd_F (leS (qZ 1 h rfl) ?_))
 refine Gd_F (Bn_neF (by omega) (Pick_F (Gd_F (Gd_F (Gd_F (cl1 h n_law25_same (cc2 h.ext (by first | exact (qZ 3 h rfl) | assumption) (by first | exact (qZ 0 h rfl) | assumption)) fun w h => ?_))))))
 refine Gd_F (Un_T (Pick_F (If_F (Lp1.mk (fun i W => ∃ j : Nat, j ≤ m ∧ i = .int .i64 j ∧ Hp [] w1 W [ro tR 2 v4 m (qC (shrs m la)), ro tR 2 v3 m (qC (shrs m (bothL s la lb))), ro tR 2 v2 m (qC (shrs m lb)), ro tR 2 v1 m (qC (shrs m la))]) (fun i _ => match i with | .int _ i' => m - i'.toNat | _ => 0) ⟨0, by omega, rfl, h.pick [0, 1, 2, 3] (by decide) rfl⟩ ?_))))
 clear h cr1 cr2 cr3 cr4 cc1 cc2
 rintro _ W ⟨j, hj, rfl, h⟩
 by_cases hjm : j < m
 ·have ea := shr_add n6 hjm gz
  have s1 := shr_SR n6 hjm (by omega) wa
  have s2 := shr_SR n6 hjm (by omega) wb
  have t1 : Seg (qC (shrs m la)) (j * 2) (fO (some (shr m la j))) := flat_seg (f := fun x : Rat => fO (some x)) (fun _ => rfl) (shrs_get hjm)
  have t2 : Seg (qC (shrs m lb)) (j * 2) (fO (some (shr m lb j))) := flat_seg (f := fun x : Rat => fO (some x)) (fun _ => rfl) (shrs_get hjm)
  have t3 : Seg (qC (shrs m (bothL s la lb))) (j * 2) (fO (some (shr m (bothL s la lb) j))) := flat_seg (f := fun x : Rat => fO (some x)) (fun _ => rfl) (shrs_get hjm)
  have cc1 : ∀ {W : World}, Ext w1 W → Calls Tryz.prog 31 #[ov (some (shr m la j)), ov (some (shr m lb j))] W (Ret fun r w' => Ext W w' ∧ r = .tuple #[ov (some (shr m (bothL s la lb) j)), .int .i64 0]) := fun {W} e => by
   have := o_add (w := W) (.some (s1.rb (by decide) (by decide))) (.some (s2.rb (by decide) (by decide))) (hT.ext e)
   rw [add_some (k := 38) s1 s2 (by decide) (by decide) (by decide) (by decide), ea] at this
   exact this
  have qe := qe_t (shr m (bothL s la lb) j)
  refine leS (qZ 3 h rfl) ?_
  refine Bn_ltT (by omega) (If_T ?_)
  refine Jn2.lfb tR (fO (some (shr m (bothL s la lb) j))) (.int .i64 0) h (fun K lf1 => ?_) (fun gx w h => ?_)
  ·replace h := h.dr
   refine diR h 3 rfl (by omega) fun zg zk zv => ?_
   refine drA h 3 rfl ‹_› ‹_› (by rfl) ?_
   refine diR h 2 rfl (by omega) fun zg zk zv => ?_
   refine drA h 2 rfl ‹_› ‹_› (by rfl) ?_
   refine ⟨?_, ?_⟩
   refine cl1 h n_rational_Add (cc1 h.ext) fun w h => ?_
   refine ExP2 (alS h fun g2 w h => ?_)
   refine krA h 4 rfl ‹_› ‹_› (by rfl) ?_
   refine krA h 3 rfl ‹_› ‹_› (by rfl) ?_
   refine stA h 0 rfl rfl rfl rfl fun w h => ?_
   exact lf1 _ _ h
   refine alS h fun g2 w h => ?_
   refine krA h 4 rfl ‹_› ‹_› (by rfl) ?_
   refine krA h 3 rfl ‹_› ‹_› (by rfl) ?_
   refine cl1 h n_rational_Add (cc1 h.ext) fun w h => ?_
   refine ExP2 (stA h 0 rfl rfl rfl rfl fun w h => ?_)
   exact lf1 _ _ h
  ·replace h := h.dr
   refine Dv_neF (by omega) (GdP_F (dlA h 0 rfl rfl ?_))
   refine GdP_F (GdP_F (GdP_F (diR h 2 rfl (by omega) fun zg zk zv => ?_)))
   refine GdP_F (drA h 2 rfl ‹_› ‹_› (by rfl) ?_)
   refine GdP_F (dqNeF ‹_› ?_)
   refine PickP_F (If_F (Bn_ad (by omega) (by omega) ?_))
   exact ⟨⟨j + 1, by omega, rfl, h.pick [1, 2, 3, 4] (by decide) rfl⟩, by show m - ((j : Int) + 1).toNat < m - (j : Int).toNat; omega⟩
 ·refine leS (qZ 3 h rfl) ?_
  refine Bn_ltF (by omega) (If_F ?_)
  exact Ret.mk ⟨x1.tr h.ext, rfl⟩
end
end Go.Proofs.YthjhkpefammjkaaGreatDoor
