/-
  Contracts and plain lemmas. By an AI agent.
-/
import Derived.Test.YtjmdnjnjepinoaaGreatDoorLCoX
import Derived.Test.YtjmdnjnjepinoaaGreatDoorCoV
set_option linter.unusedSimpArgs false
set_option linter.unusedVariables false
set_option linter.unusedSectionVars false
namespace Go.Proofs.YtjmdnjnjepinoaaGreatDoor
open Go Go.Eng Go.Proofs Go.Num Go.RowKit
set_option maxRecDepth 100000
set_option linter.unusedVariables false
set_option linter.unusedSectionVars false
theorem lsum_mulr (b : Rat) : ∀ l : List Rat, lsum qid (l.map (· * b)) = lsum qid l * b
 | [] => by show (0 : Rat) = 0 * b; grind
 | x :: l => by
  show x * b + lsum qid (l.map (· * b)) = (x + lsum qid l) * b
  rw [lsum_mulr b l]; grind
theorem prL_mul {l : List Rat} {a : Int} {b : Rat} (hb : 0 < b) (hs : 0 < lsum qid l) : prL (l.map (· * b)) a = prL l a := by
 unfold prL
 rw [lsum_mulr, List.map_map]
 refine List.map_congr_left fun x _ => ?_
 show qI a * (x * b) / (lsum qid l * b) = qI a * x / lsum qid l
 have h1 : b ≠ 0 := fun e => by rw [e] at hb; exact absurd hb Rat.lt_irrefl
 have h2 : lsum qid l ≠ 0 := fun e => by rw [e] at hs; exact absurd hs Rat.lt_irrefl
 generalize lsum qid l = s at h2 ⊢
 generalize qI a = q
 grind
theorem GP.mul {l : List Rat} (h : GP 2520 l) (h50 : ∀ x ∈ l, DR 2520 50 x) {n d : Int} (hn : 1 ≤ n ∧ n ≤ 50) (hd : 1 ≤ d ∧ d ≤ 50) : GP (2520 * d.toNat) (l.map (· * hq n d)) := by
 have hb : 0 < hq n d := div_pos' (by omega) (by omega)
 have hd' : DR d.toNat 50 (hq n d) := DR.of (by omega) (by rw [show d.natAbs = d.toNat by omega]; exact Nat.dvd_refl _) (by omega) (by omega)
 refine ⟨⟨by omega, by omega, fun x hx => ?_, fun x hx => ?_, by rw [List.length_map]; exact h.len⟩, by rw [List.length_map]; exact h.len1, ?_⟩
 ·obtain ⟨y, hy, rfl⟩ := List.mem_map.1 hx
  exact (h50 y hy).mul hd' (by decide) (by omega)
 ·obtain ⟨y, hy, rfl⟩ := List.mem_map.1 hx
  exact Rat.mul_nonneg (h.nn y hy) (Rat.le_of_lt hb)
 ·rw [lsum_mulr]; exact Rat.mul_pos h.pos hb
theorem GS.txok {D : Nat} {l : List Rat} (hg : GS D l) : RSok (txs l) := fun p hp => by
 obtain ⟨x, hx, rfl⟩ := List.mem_map.1 hp
 have hB := (hg.sml hx).rb
 exact ⟨itoa_ok hB.n, itoa_ok hB.d⟩
theorem g_split {W : World} {D : Nat} {v : Value} {l : List Rat} {a : Int} (he : En W) (hv : SlC W 2 v l.length ((txs l).flatMap fR)) (hg : GP D l) (ha : 0 ≤ a ∧ a ≤ 1000000000) :
 Calls Tryz.prog 24 #[.int .i64 a, v] W (Ret fun r w' => ∃ u, r = .tuple #[u, .int .i64 0] ∧ Hp [] W w' [ro tI 1 u l.length ((partsL (prL l a) a).flatMap fI)]) := by
 have hl := hg.len
 have := c_Split (v := v) (l := txs l) (a := a) (w0 := W) (by unfold SlR; rw [txs_len]; exact hv) hg.toGS.txok (by rw [txs_len]; omega) (by omega) he
 rw [(splO_ok hg ha).1] at this
 have e : (partsL (prL l a) a).length = l.length := by unfold partsL; simp
 rw [← e]
 exact this
section
variable {w0 : World} {v : Value} {x : List I2} {amount : Int} (he : En w0) (hv : SlC w0 2 v x.length (x.flatMap f2)) (hI : ∀ a ∈ x, I64 a.1 ∧ I64 a.2) (hll : x.length ≤ 9223372036854775807) (ham : I64 amount)
include he hv hI hll ham
set_option maxHeartbeats 8000000 in
theorem law_Scale {n d : Int} (hn : I64 n) (hd : I64 d) : Calls Tryz.prog 5 #[.int .i64 amount, v, .int .i64 n, .int .i64 d] w0 (Ret fun r w' => Ext w0 w' ∧ r = .bool true) := by
 have b0 := pickZ_bd (c := amount) (n := 100001) (by decide)
 have b1 := pickZ_bd (c := n) (n := 50) (by decide)
 have b2 := pickZ_bd (c := d) (n := 50) (by decide)
 have hlen := shaL_len x
 have hGP := shaL_GP x
 obtain ⟨b, hb⟩ : ∃ b : Rat, hq (1 + pickZ n 50) (1 + pickZ d 50) = b := ⟨_, rfl⟩
 have hG2 := hGP.mul (fun y hy => (shaL_mem hy).1) (n := 1 + pickZ n 50) (d := 1 + pickZ d 50) (by omega) (by omega)
 have hbp : 0 < hq (1 + pickZ n 50) (1 + pickZ d 50) := div_pos' (by omega) (by omega)
 have hbs : Sml (hq (1 + pickZ n 50) (1 + pickZ d 50)) := dr_sml (D := (1 + pickZ d 50).toNat) (M := 50) (DR.of (by omega) (by rw [show (1 + pickZ d 50).natAbs = (1 + pickZ d 50).toNat by omega]; exact Nat.dvd_refl _) (by omega) (by omega)) (by omega) (by omega) (by decide)
 rw [hb] at hG2 hbp hbs
 have hpr := prL_mul (a := pickZ amount 100001) hbp hGP.pos
 have cc1 := fun {W : World} (x : Ext w0 W) => c_sane (w0 := W) (he.ext x)
 have cc2 := fun {W : World} (_ : Ext w0 W) => c_pickL (w := W) (c := amount) (n := 100001) ham (by decide)
 have cr1 : ∀ {W : World}, Ext w0 W → Calls Tryz.prog 26 #[v] W (Ret fun r w' => ∃ u, r = u ∧ Hp [] W w' [ro tR 2 u (shaL x).length ((txs (shaL x)).flatMap fR)]) := fun {W} e => by
  refine (c_shares (he.hT.ext e) (hv.ext e) hI hll).mono ?_
  rintro _ w' ⟨r, rfl, h⟩
  exact Ret.mk ⟨_, rfl, h⟩
 have cc3 := fun {W : World} (_ : Ext w0 W) => c_pickL (w := W) (c := n) (n := 50) hn (by decide)
 have cc4 := fun {W : World} (_ : Ext w0 W) => c_pickL (w := W) (c := d) (n := 50) hd (by decide)
 have cc5 : ∀ {W : World}, Ext w0 W → Calls Tryz.prog 29 #[.int .i64 (1 + pickZ n 50), .int .i64 (1 + pickZ d 50)] W (Ret fun r w' => Ext W w' ∧ r = ov (some b)) := fun {W} x => hb ▸ c_of (he.hT.ext x) (by omega) (by omega) (by omega)
 have cr2 : ∀ {W : World}, Ext w0 W → ∀ {u : Value}, SlC W 2 u (shaL x).length ((txs (shaL x)).flatMap fR) → Calls Tryz.prog 24 #[.int .i64 (pickZ amount 100001), u] W (Ret fun r w' => ∃ u, r = .tuple #[u, .int .i64 0] ∧ Hp [] W w' [ro tI 1 u (shaL x).length ((partsL (prL (shaL x) (pickZ amount 100001)) (pickZ amount 100001)).flatMap fI)]) := fun {W} e u hu => g_split (he.ext e) hu hGP (by omega)
 have cr3 : ∀ {W : World}, Ext w0 W → ∀ {u : Value}, SlC W 2 u (shaL x).length ((txs ((shaL x).map (· * b))).flatMap fR) → Calls Tryz.prog 24 #[.int .i64 (pickZ amount 100001), u] W (Ret fun r w' => ∃ u, r = .tuple #[u, .int .i64 0] ∧ Hp [] W w' [ro tI 1 u (shaL x).length ((partsL (prL (shaL x) (pickZ amount 100001)) (pickZ amount 100001)).flatMap fI)]) := fun {W} e u hu => by
  have hm : ((shaL x).map (· * b)).length = (shaL x).length := List.length_map ..
  have := g_split (he.ext e) (v := u) (a := pickZ amount 100001) (hm.symm ▸ hu) hG2 (by omega)
  rw [hpr, hm] at this
  exact this
 have cc6 : ∀ {W : World}, Ext w0 W → ∀ {u u' : Value}, SlC W 1 u (shaL x).length ((partsL (prL (shaL x) (pickZ amount 100001)) (pickZ amount 100001)).flatMap fI) → SlC W 1 u' (shaL x).length ((partsL (prL (shaL x) (pickZ amount 100001)) (pickZ amount 100001)).flatMap fI) → Calls Tryz.prog 17 #[u, u'] W (Ret fun r w' => Ext W w' ∧ r = .bool true) := fun e u u' h1 h2 => by
  have el : (partsL (prL (shaL x) (pickZ amount 100001)) (pickZ amount 100001)).length = (shaL x).length := by unfold partsL; simp
  rw [← el] at h1 h2
  exact c_SameT h1 h2 (by omega)
 apply e_law26_ContractScale
 unfold s_law26_ContractScale
 have h := Hp.init [] w0
 clear hb
 refine cl1 h n_law26_sane (cc1 h.ext) fun w h => ?_
 refine cl1 h n_law26_pick (cc2 h.ext) fun w h => ?_
 refine clR h n_law26_shares (cr1 h.ext) fun v1 w h => ?_
 refine cl1 h n_law26_pick (cc3 h.ext) fun w h => ?_
 refine Bn_ad (by omega) (by omega) ?_
 refine cl1 h n_law26_pick (cc4 h.ext) fun w h => ?_
 refine Bn_ad (by omega) (by omega) ?_
 refine cl1 h n_law26_of (cc5 h.ext) fun w h => ?_
 refine alS h fun g1 w h => ?_
 refine stA h 0 rfl rfl rfl rfl fun w h => ?_
 dsimp only [List.set] at h
 have h := h.nil tR 2
 refine Lp2.mk (fun u i W => ∃ j : Nat, j ≤ (shaL x).length ∧ i = .int .i64 j ∧ Hp [] w0 W [ro tR 2 u j ((txs (((shaL x).take j).map (· * b))).flatMap fR), bx g1 tR (fO (some b)), ro tR 2 v1 (shaL x).length ((txs (shaL x)).flatMap fR)])
  (fun _ i _ => match i with | .int _ i' => (shaL x).length - i'.toNat | _ => 0) ⟨0, by omega, rfl, h⟩ ?_
 clear h
 rintro u _ W ⟨j, hj, rfl, h⟩
 by_cases hjl : j < (shaL x).length
 rotate_left
 ·rw [List.take_of_length_le (by omega), show j = (shaL x).length by omega] at h
  clear cc1 cc2 cc3 cc4 cc5 cr1
  refine leS (h.sl (i := 2) rfl) ?_
  refine Bn_ltF (by omega) ?_
  refine If_F ?_
  refine clR h n_contract_Split (cr2 h.ext (by first | exact (h.sl (i := 2) rfl) | assumption)) fun v2 w h => ?_
  refine Ex2 ?_
  refine clR h n_contract_Split (cr3 h.ext (by first | exact (h.sl (i := 1) rfl) | assumption)) fun v3 w h => ?_
  refine Ex2 ?_
  iterate 2 refine Gd_T ?_
  refine Bn_eqT (by omega) ?_
  refine Pick_T ?_
  iterate 2 refine Gd_T ?_
  refine Bn_eqT (by omega) ?_
  refine Pick_T ?_
  iterate 3 refine Gd_T ?_
  refine cl1 h n_ref26_Same (cc6 h.ext (by first | exact (h.sl (i := 1) rfl) | assumption) (by first | exact (h.sl (i := 0) rfl) | assumption)) fun w h => ?_
  refine Pick_T ?_
  trace_state
  exact Ret.mk ⟨h.ext, rfl⟩
 clear cr2 cr3
 refine Exists.elim (p := fun y => (shaL x)[j]? = some y) ⟨_, List.getElem?_eq_getElem hjl⟩ fun y hy => ?_
 have sy : Seg ((txs (shaL x)).flatMap fR) (j * 2) (fTx y) := flat_seg (f := fR) (fun _ => rfl) (by show ((shaL x).map tx)[j]? = _; rw [List.getElem?_map, hy]; rfl)
 have ys := hGP.toGS.sml (List.mem_of_getElem? hy)
 have cc7 : ∀ {W : World}, Ext w0 W → Calls Tryz.prog 28 #[ov (some y), ov (some b)] W (Ret fun r w' => Ext W w' ∧ r = .tuple #[ov (some (y * b)), .int .i64 0]) := fun {W} e => by
  have := o_mul (w := W) (o := some y) (p := some b) (.some ys.rb) (.some hbs.rb) (he.hT.ext e)
  rw [omul_ok ys hbs] at this
  exact this
 clear cc1 cc2 cc3 cc4 cc5 cr1
 refine leS (h.sl (i := 2) rfl) ?_
 refine Bn_ltT (by omega) ?_
 refine If_T ?_
 refine Jn2.lfb tR (fO (some (y * b))) (.int .i64 0) h (fun K lf1 => ?_) (fun gx w h => ?_)
 ·replace h := h.dr
  refine diR h 2 rfl (by omega) fun zg zk zv => ?_
  refine drA h 2 rfl ‹_› ‹_› (by rfl) ?_
  refine dlA h 1 rfl rfl ?_
  refine ⟨?_, ?_⟩
  refine cl1 h n_rational_Mul (cc7 h.ext) fun w h => ?_
  refine ExP2 ?_
  refine alS h fun g2 w h => ?_
  refine krA h 3 rfl ‹_› ‹_› (by rfl) ?_
  refine klA h 2 rfl rfl ?_
  refine stA h 0 rfl rfl rfl rfl fun w h => ?_
  exact lf1 _ _ h
  refine alS h fun g2 w h => ?_
  refine krA h 3 rfl ‹_› ‹_› (by rfl) ?_
  refine klA h 2 rfl rfl ?_
  refine cl1 h n_rational_Mul (cc7 h.ext) fun w h => ?_
  refine ExP2 ?_
  refine stA h 0 rfl rfl rfl rfl fun w h => ?_
  exact lf1 _ _ h
 refine Bn_neF (by omega) ?_
 refine If_F ?_
 refine ldA h 0 rfl rfl ?_
 refine bs1A h (by rfl) (by decide) (by rfl) (by decide) fun v2 w h => ?_
 refine apR (by rfl) (by decide) h 2 rfl (h.sl (i := 0) rfl) (by first | rfl | assumption) (by omega) fun v3 w h => ?_
 refine Bn_ad (by omega) (by omega) ?_
 dsimp only [List.set] at h
 refine ⟨⟨j + 1, by omega, rfl, ?_⟩, by show (shaL x).length - ((j : Int) + 1).toNat < (shaL x).length - (j : Int).toNat; omega⟩
 rw [take_snoc hy, List.map_append, txs_app, List.flatMap_append]
 exact h.pick [2, 3, 4] (by decide) rfl
end
end Go.Proofs.YtjmdnjnjepinoaaGreatDoor
