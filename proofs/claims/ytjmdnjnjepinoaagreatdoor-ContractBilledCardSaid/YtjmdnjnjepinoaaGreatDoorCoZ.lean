/-
  Contracts and plain lemmas. By an AI agent.
-/
import Derived.Test.YtjmdnjnjepinoaaGreatDoorLCoZ
import Derived.Test.YtjmdnjnjepinoaaGreatDoorCoY
import Derived.Test.YtjmdnjnjepinoaaGreatDoorPlain
set_option linter.unusedSimpArgs false
set_option linter.unusedVariables false
set_option linter.unusedSectionVars false
namespace Go.Proofs.YtjmdnjnjepinoaaGreatDoor
open Go Go.Eng Go.Proofs Go.Num Go.RowKit
set_option maxRecDepth 100000
set_option linter.unusedVariables false
set_option linter.unusedSectionVars false
theorem smQ_le (n d : Int) : smQ n d ≤ 9 := by
 have b1 := pickZ_bd (c := n) (n := 10) (by decide)
 have b2 := pickZ_bd (c := d) (n := 9) (by decide)
 unfold smQ
 have h1 : (0 : Rat) < ((1 + pickZ d 9 : Int) : Rat) := by exact_mod_cast (show (0 : Int) < 1 + pickZ d 9 by omega)
 refine Rat.not_lt.1 fun h => ?_
 have h2 := (Rat.lt_div_iff h1).1 h
 have h3 : ((9 * (1 + pickZ d 9) : Int) : Rat) < ((pickZ n 10 : Int) : Rat) := by rw [Rat.intCast_mul]; exact h2
 have h4 : 9 * (1 + pickZ d 9) < pickZ n 10 := by exact_mod_cast h3
 omega
theorem smQ_Pri (n d : Int) : Pri (smQ n d) := ⟨dr_sml (smQ_DR n d) (by decide) (by decide) (by decide), smQ_nn n d⟩
theorem val_mk {tm gr cap : Int} {n d : Int} (h1 : 0 ≤ tm ∧ tm ≤ 3) (h2 : 0 ≤ gr ∧ gr ≤ 100) (h3 : 0 ≤ cap ∧ cap ≤ 1000000000) : valC ⟨tm, gr, tx (smQ n d), cap⟩ = some (smQ n d) := by
 unfold valC
 rw [if_pos ⟨h1, h2, h3⟩]
 exact shR_y (by decide) (smQ_Pri n d).s.rb (smQ_nn n d) ((dr_sz (smQ_DR n d) (by decide) (by decide) (k := 9) (by decide)).mono (by decide) (by decide))
theorem capZ_bd (d : Int) : 0 ≤ capZ d ∧ capZ d ≤ 1000000000 := by
 have b3 := pickZ_bd (c := d) (n := 4) (by decide)
 have b4 := pickZ_bd (c := d.tdiv 4) (n := 50) (by decide)
 have bz := cz_bd b3
 have b5 := cz_3 b3
 have hz : pickZ d 4 = 3 → cz (pickZ d 4) = 1000000000 := fun e => by rw [e]; rfl
 show 0 ≤ cz (pickZ d 4) + pickZ (d.tdiv 4) 50 - 50 * (pickZ d 4).tdiv 3 ∧ cz (pickZ d 4) + pickZ (d.tdiv 4) 50 - 50 * (pickZ d 4).tdiv 3 ≤ 1000000000
 rw [b5]
 by_cases h3 : pickZ d 4 = 3
 ·have := hz h3; omega
 ·have := bz.2.1 (by omega); omega
theorem latL_bd {l : List Int} : ∀ y ∈ latL l, 0 ≤ y ∧ y ≤ 44 := fun y hy => by
 obtain ⟨x, _, rfl⟩ := List.mem_map.1 hy
 have b1 := pickZ_bd (c := x) (n := 60) (by decide)
 unfold latZ; omega
theorem latL_len (l : List Int) : (latL l).length ≤ 30 := by unfold latL; rw [List.length_map, List.length_take]; omega
abbrev aC (tm gr : Int) (q : Rat) (cap : Int) : Value := .agg #[.int .i64 tm, .int .i64 gr, str (eN (some q)), str (eD (some q)), .int .i64 cap]
theorem late_ok {y : Int} (h : 0 ≤ y ∧ y ≤ 1000) : lateOk y := ⟨h.1, Int.le_trans h.2 (by decide)⟩
theorem g_pen {W : World} {v : Value} {m : List Int} {tm gr cap n d : Int} (he : En W) (h1 : 0 ≤ tm ∧ tm ≤ 3) (h2 : 0 ≤ gr ∧ gr ≤ 100) (h3 : 0 ≤ cap ∧ cap ≤ 1000000000) (hm : ∀ y ∈ m, 0 ≤ y ∧ y ≤ 1000) (hl : m.length ≤ 100) (hv : SlC W 1 v m.length (m.flatMap fI)) :
 Calls Tryz.prog 13 #[aC tm gr (smQ n d) cap, v] W (Ret fun r w' => ∃ u, r = .tuple #[u, .int .i64 0] ∧ Hp [] W w' [ro tI 1 u m.length ((penL (smQ n d) gr.toNat cap m).flatMap fI)]) := by
 have hB := (smQ_Pri n d).s.rb
 have := c_Penalties (w0 := W) (c := ⟨tm, gr, tx (smQ n d), cap⟩) (v := v) (l := m) ⟨by show I64 tm; omega, by show I64 gr; omega, by show I64 cap; omega, itoa_ok hB.n, itoa_ok hB.d⟩ hv (fun y hy => by have := hm y hy; omega) (by omega) he
 have e : penO ⟨tm, gr, tx (smQ n d), cap⟩ m = some (penL (smQ n d) gr.toNat cap m) := by
  unfold penO
  rw [val_mk h1 h2 h3]
  simp only [Option.bind_some]
  rw [if_pos ⟨hl, fun y hy => late_ok (hm y hy)⟩]
 rw [e] at this
 have e2 : (penL (smQ n d) gr.toNat cap m).length = m.length := penL_len _ _ _
 rw [← e2]
 exact this
section
variable {w0 : World} {v : Value} {l : List Int} {x0 x1 x2 x3 : Int} (he : En w0) (hv : SlC w0 1 v l.length (l.flatMap fI)) (hI : ∀ a ∈ l, I64 a) (hll : l.length ≤ 9223372036854775807) (h0 : I64 x0) (h1 : I64 x1) (h2 : I64 x2) (h3 : I64 x3)
include he hv hI hll h0 h1 h2 h3
set_option maxHeartbeats 16000000 in
theorem law_Capped : Calls Tryz.prog 6 #[.agg #[.int .i64 x0, .int .i64 x1, .int .i64 x2, .int .i64 x3], v] w0 (Ret fun r w' => Ext w0 w' ∧ r = .bool true) := by
 have t0 := pickZ_bd (c := x0) (n := 4) (by decide)
 have t1 := pickZ_bd (c := x1) (n := 4) (by decide)
 have t3 := capZ_bd x3
 have cc1 := fun {W : World} (x : Ext w0 W) => c_sane (w0 := W) (he.ext x)
 have cc2 : ∀ {W : World}, Ext w0 W → Calls Tryz.prog 12 #[.agg #[.int .i64 x0, .int .i64 x1, .int .i64 x2, .int .i64 x3]] W (Ret fun r w' => Ext W w' ∧ r = aC (pickZ x0 4) (pickZ x1 4) (smQ x2 x0) (capZ x3)) := fun {W} _ => c_Made h0 h1 h2 h3
 obtain ⟨m, hm⟩ : ∃ m, latL l = m := ⟨_, rfl⟩
 have hmb := latL_bd (l := l)
 have hml := latL_len l
 have cr1 : ∀ {W : World}, Ext w0 W → Calls Tryz.prog 33 #[v] W (Ret fun r w' => ∃ u, r = u ∧ Hp [] W w' [ro tI 1 u m.length (m.flatMap fI)]) := fun {W} e => by
  refine (c_latenesses (hv.ext e) hI hll).mono ?_
  rintro _ w' ⟨r, rfl, h⟩
  rw [hm] at h
  exact Ret.mk ⟨_, rfl, h⟩
 rw [hm] at hmb hml
 have hmb' : ∀ y ∈ m, 0 ≤ y ∧ y ≤ 1000 := fun y hy => by have := hmb y hy; omega
 have hm0 : ∀ y ∈ m, 0 ≤ y := fun y hy => (hmb y hy).1
 have hgp := fun {W : World} (e : Ext w0 W) {u : Value} {cap : Int} (hc : 0 ≤ cap ∧ cap ≤ 1000000000) (hu : SlC W 1 u m.length (m.flatMap fI)) => g_pen (W := W) (v := u) (m := m) (tm := pickZ x0 4) (gr := pickZ x1 4) (cap := cap) (n := x2) (d := x0) (he.ext e) (by omega) (by omega) hc hmb' (by omega) hu
 have hP := smQ_Pri x2 x0
 have h9 := smQ_le x2 x0
 obtain ⟨q, hq⟩ : ∃ q, smQ x2 x0 = q := ⟨_, rfl⟩
 obtain ⟨g, hg⟩ : ∃ g : Nat, (pickZ x1 4).toNat = g := ⟨_, rfl⟩
 have hgz : pickZ x1 4 = (g : Int) := by omega
 obtain ⟨cap, hcap⟩ : ∃ c, capZ x3 = c := ⟨_, rfl⟩
 obtain ⟨tm, htm⟩ : ∃ c, pickZ x0 4 = c := ⟨_, rfl⟩
 rw [hq, hg, hgz, htm] at hgp
 rw [hq, hgz, hcap, htm] at cc2
 rw [hq] at hP h9
 rw [hcap] at t3
 rw [hgz] at t1
 rw [htm] at t0
 obtain ⟨A, hA⟩ : ∃ A, penL q g cap m = A := ⟨_, rfl⟩
 obtain ⟨B, hB⟩ : ∃ B, penL q g 1000000000 m = B := ⟨_, rfl⟩
 have hcs := cst_sum_le hP.nn h9 (l := m) (g := g) (M := 44) (by decide) hmb
 have hBc : B = cstL q g m := by rw [← hB]; exact penL_free hP.nn g hm0 (by omega)
 have hAs : A.sum = min cap B.sum := by rw [← hA, hBc]; exact penL_sum hP.nn g t3.1 hm0
 have hAl : A.length = m.length := by rw [← hA]; exact penL_len _ _ _
 have hBl : B.length = m.length := by rw [← hB]; exact penL_len _ _ _
 have hAb : ∀ y ∈ A, 0 ≤ y ∧ y ≤ 1000000000 := by rw [← hA]; exact penL_bd hP.nn (by omega) t3 hm0
 have hBb : ∀ y ∈ B, 0 ≤ y ∧ y ≤ 1000000000 := by rw [← hB]; exact penL_bd hP.nn (by omega) (by decide) hm0
 have hAB : ∀ (i : Nat) (a b : Int), A[i]? = some a → B[i]? = some b → 0 ≤ a ∧ a ≤ b := fun i a b ha hb => by
  rw [← hA] at ha
  rw [hBc] at hb
  exact pen_le hP.nn t3.1 hm0 ha hb
 have hBi : ∀ (i : Nat) (y : Int), m[i]? = some y → B[i]? = some (if 0 < y ∧ g < cnt (m.take (i + 1)) then costZ q y else 0) := fun i y hy => by rw [hBc]; exact cst_at hm0 hy
 have cr2 : ∀ {W : World}, Ext w0 W → ∀ {u : Value}, SlC W 1 u m.length (m.flatMap fI) → Calls Tryz.prog 13 #[aC tm g q cap, u] W (Ret fun r w' => ∃ u, r = .tuple #[u, .int .i64 0] ∧ Hp [] W w' [ro tI 1 u m.length (A.flatMap fI)]) := fun {W} e u hu => hA ▸ hgp e t3 hu
 have cr3 : ∀ {W : World}, Ext w0 W → ∀ {u : Value}, SlC W 1 u m.length (m.flatMap fI) → Calls Tryz.prog 13 #[aC tm g q 1000000000, u] W (Ret fun r w' => ∃ u, r = .tuple #[u, .int .i64 0] ∧ Hp [] W w' [ro tI 1 u m.length (B.flatMap fI)]) := fun {W} e u hu => hB ▸ hgp e (by decide) hu
 have cc3 : ∀ {W : World}, Ext w0 W → ∀ {u : Value}, SlC W 1 u m.length (A.flatMap fI) → Calls Tryz.prog 34 #[u] W (Ret fun r w' => Ext W w' ∧ r = .int .i64 A.sum) := fun {W} _ u hu => c_sums (hAl ▸ hu) (by omega) fun y hy => by have := hAb y hy; omega
 have cc4 : ∀ {W : World}, Ext w0 W → ∀ {u : Value}, SlC W 1 u m.length (B.flatMap fI) → Calls Tryz.prog 34 #[u] W (Ret fun r w' => Ext W w' ∧ r = .int .i64 B.sum) := fun {W} _ u hu => c_sums (hBl ▸ hu) (by omega) fun y hy => by have := hBb y hy; omega
 clear hA hB hq hg hcap htm hm hgp
 apply e_law26_ContractCapped
 unfold s_law26_ContractCapped
 have h := Hp.init [] w0
 refine bxA h fun g1 w h => ?_
 refine cl1 h n_law26_sane (cc1 h.ext) fun w h => ?_
 refine ldA h 0 rfl rfl ?_
 refine cl1 h n_ref26_Made (cc2 h.ext) fun w h => ?_
 refine alS h fun g2 w h => ?_
 refine stA h 0 rfl rfl rfl rfl fun w h => ?_
 refine clR h n_law26_latenesses (cr1 h.ext) fun v1 w h => ?_
 refine ldA h 1 rfl rfl ?_
 refine clR h n_contract_Penalties (cr2 h.ext (by first | exact (h.sl (i := 0) rfl) | assumption)) fun v2 w h => ?_
 refine Ex2 ?_
 refine Bn_neF (by omega) ?_
 iterate 2 refine Gd_F ?_
 refine leS (h.sl (i := 0) rfl) ?_
 iterate 2 refine Gd_F ?_
 refine leS (h.sl (i := 1) rfl) ?_
 refine Gd_F ?_
 refine Bn_neF (by omega) ?_
 refine Pick_F ?_
 refine If_F ?_
 refine ldA h 2 rfl rfl ?_
 refine alS h fun g3 w h => ?_
 refine stA h 0 rfl rfl rfl rfl fun w h => ?_
 refine faS ?_
 refine st1 h 0 rfl rfl rfl rfl fun w h => ?_
 refine ldA h 0 rfl rfl ?_
 refine clR h n_contract_Penalties (cr3 h.ext (by first | exact (h.sl (i := 2) rfl) | assumption)) fun v3 w h => ?_
 refine Ex2 ?_
 refine Bn_neF (by omega) ?_
 iterate 2 refine Gd_F ?_
 refine leS (h.sl (i := 0) rfl) ?_
 iterate 2 refine Gd_F ?_
 refine leS (h.sl (i := 3) rfl) ?_
 refine Gd_F ?_
 refine Bn_neF (by omega) ?_
 refine Pick_F ?_
 refine If_F ?_
 dsimp only [List.set] at h
 have h := h.pick [0, 2, 3, 4] (by decide) rfl
 refine Lp2.mk (fun c i W => ∃ j : Nat, j ≤ m.length ∧ i = .int .i64 j ∧ c = .int .i64 (cnt (m.take j) : Int) ∧ Hp [] w0 W [ro tI 1 v3 m.length (B.flatMap fI), ro tI 1 v2 m.length (A.flatMap fI), ro tI 1 v1 m.length (m.flatMap fI), bx g2 tC [.int .i64 tm, .int .i64 (g : Int), str (eN (some q)), str (eD (some q)), .int .i64 cap]])
  (fun _ i _ => match i with | .int _ i' => m.length - i'.toNat | _ => 0) ⟨0, by omega, rfl, by rw [List.take_zero]; rfl, h⟩ ?_
 clear h cc1 cc2 cr1 cr2 cr3
 rintro _ _ W ⟨j, hj, rfl, rfl, h⟩
 by_cases hjl : j < m.length
 rotate_left
 ·refine leS (h.sl (i := 2) rfl) ?_
  refine Bn_ltF (by omega) ?_
  refine If_F ?_
  iterate 2 refine GdP_T ?_
  replace h := h.dr
  refine dfS ?_
  refine GdP_T ?_
  refine dl1 h 3 rfl rfl ?_
  refine GdP_T ?_
  refine Gd_T ?_
  refine cl1 h n_law26_sums (cc3 h.ext (by first | exact (h.sl (i := 1) rfl) | assumption)) fun w h => ?_
  refine Kg_T ?_
  refine kl1 h 3 rfl rfl ?_
  refine Gd_T ?_
  refine cl1 h n_law26_sums (cc4 h.ext (by first | exact (h.sl (i := 0) rfl) | assumption)) fun w h => ?_
  refine Kg_T ?_
  refine kl1 h 3 rfl rfl ?_
  refine GdP_T ?_
  refine Dv_min ?_
  refine GdP_T ?_
  refine Dv_eqT (by omega) ?_
  refine PickP_T ?_
  exact Ret.mk ⟨h.ext, rfl⟩
 clear cc3 cc4
 refine Exists.elim (p := fun y => m[j]? = some y) ⟨_, List.getElem?_eq_getElem hjl⟩ fun y hy => ?_
 refine Exists.elim (p := fun y => A[j]? = some y) ⟨_, List.getElem?_eq_getElem (by omega)⟩ fun a ha => ?_
 refine Exists.elim (p := fun y => B[j]? = some y) ⟨_, List.getElem?_eq_getElem (by omega)⟩ fun b hb => ?_
 have sy : Seg (m.flatMap fI) (j * 1) (fI y) := flat_seg (f := fI) (fun _ => rfl) hy
 have sa : Seg (A.flatMap fI) (j * 1) (fI a) := flat_seg (f := fI) (fun _ => rfl) ha
 have sb : Seg (B.flatMap fI) (j * 1) (fI b) := flat_seg (f := fI) (fun _ => rfl) hb
 have hym := hmb y (List.mem_of_getElem? hy)
 have hbb := hBb b (List.mem_of_getElem? hb)
 have hbi := hBi j y hy
 rw [hb] at hbi
 have hbe := Option.some.inj hbi
 have hab := hAB j a b ha hb
 have a1 := hab.1
 have a2 := hab.2
 have hcn : cnt (m.take (j + 1)) = cnt (m.take j) + (if 0 < y then 1 else 0) := by rw [take_snoc hy, cnt_snoc]
 have hcl : cnt (m.take j) ≤ j := by
  have := cnt_le (m.take j)
  rw [take_len hj] at this
  exact this
 have sy' : Sml (qI y) := sml_late (late_ok (by omega))
 have smz : ∀ {n : Int}, -2000000000 ≤ n → n ≤ 2000000000 → RB (qI n) := fun {n} h1 h2 => rb_int (by omega)
 have hmr := mul_rb hP.s sy'
 have cc1 := fun {W : World} (x : Ext w0 W) => c_of1 (w := W) (n := y) (he.hT.ext x) (by omega)
 have cc2 : ∀ {W : World}, Ext w0 W → Calls Tryz.prog 28 #[ov (some q), ov (some (qI y))] W (Ret fun r w' => Ext W w' ∧ r = .tuple #[ov (some (q * qI y)), .int .i64 0]) := fun {W} e => by
  have := o_mul (w := W) (o := some q) (p := some (qI y)) (.some hP.s.rb) (.some sy'.rb) (he.hT.ext e)
  rw [omul_ok hP.s sy'] at this
  exact this
 have cc3 := fun {W : World} (x : Ext w0 W) => c_of1 (w := W) (n := b) (he.hT.ext x) (by omega)
 have cc4 := fun {W : World} (x : Ext w0 W) => c_of1 (w := W) (n := b + 1) (he.hT.ext x) (by omega)
 have cc5 := fun {W : World} (e : Ext w0 W) => o_cmp (w := W) (x := qI b) (y := q * qI y) (smz (by omega) (by omega)) hmr (he.hT.ext e)
 have cc6 := fun {W : World} (e : Ext w0 W) => o_cmp (w := W) (x := qI (b + 1)) (y := q * qI y) (smz (by omega) (by omega)) hmr (he.hT.ext e)
 by_cases hy0 : 0 < y
 rotate_left
 ·rw [if_neg hy0] at hcn
  rw [if_neg (fun h => hy0 h.1)] at hbe
  have hcn' : (cnt (m.take j) : Int) = (cnt (m.take (j + 1)) : Int) := by omega
  refine leS (h.sl (i := 2) rfl) ?_
  refine Bn_ltT (by omega) ?_
  refine If_T ?_
  refine Jn1.lf (.int .i64 (cnt (m.take (j + 1)) : Int)) h (fun K lf1 => ?_) (fun w h => ?_)
  ·refine iaR h 2 rfl (by omega) fun zg zk zv => ?_
   refine lr0 h 2 rfl ‹_› ‹_› (by rfl) ?_
   refine Bn_gtF (by omega) ?_
   refine If_F ?_
   exact hcn' ▸ lf1 _ h
  skip
  refine Jn2.lfb tR (fO (some (q * qI y))) (.int .i64 0) h (fun K lf1 => ?_) (fun gx w h => ?_)
  ·replace h := h.dr
   refine dfS ?_
   refine dlA h 3 rfl rfl ?_
   refine diR h 2 rfl (by omega) fun zg zk zv => ?_
   refine dr0 h 2 rfl ‹_› ‹_› (by rfl) ?_
   refine ⟨?_, ?_⟩
   refine cl1 h n_law26_of (cc1 h.ext) fun w h => ?_
   refine klA h 3 rfl rfl ?_
   refine ⟨?_, ?_⟩
   refine cl1 h n_rational_Mul (cc2 h.ext) fun w h => ?_
   refine ExP2 ?_
   refine alS h fun g4 w h => ?_
   refine klA h 4 rfl rfl ?_
   refine kr0 h 3 rfl ‹_› ‹_› (by rfl) ?_
   refine stA h 0 rfl rfl rfl rfl fun w h => ?_
   exact lf1 _ _ h
   refine alS h fun g4 w h => ?_
   refine klA h 4 rfl rfl ?_
   refine kr0 h 3 rfl ‹_› ‹_› (by rfl) ?_
   refine cl1 h n_rational_Mul (cc2 h.ext) fun w h => ?_
   refine ExP2 ?_
   refine stA h 0 rfl rfl rfl rfl fun w h => ?_
   exact lf1 _ _ h
   refine alS h fun g4 w h => ?_
   refine klA h 4 rfl rfl ?_
   refine kr0 h 3 rfl ‹_› ‹_› (by rfl) ?_
   refine cl1 h n_law26_of (cc1 h.ext) fun w h => ?_
   refine klA h 4 rfl rfl ?_
   refine cl1 h n_rational_Mul (cc2 h.ext) fun w h => ?_
   refine ExP2 ?_
   refine stA h 0 rfl rfl rfl rfl fun w h => ?_
   exact lf1 _ _ h
  replace h := h.dr
  refine diR h 1 rfl (by omega) fun zg zk zv => ?_
  refine dr0 h 1 rfl ‹_› ‹_› (by rfl) ?_
  refine dlA h 0 rfl rfl ?_
  refine cl1 h n_law26_of (cc3 h.ext) fun w h => ?_
  refine klA h 0 rfl rfl ?_
  refine cl1 h n_rational_Compare (cc5 h.ext) fun w h => ?_
  replace h := h.dr
  refine diR h 1 rfl (by omega) fun zg zk zv => ?_
  refine dr0 h 1 rfl ‹_› ‹_› (by rfl) ?_
  refine Dv_ad (by omega) (by omega) ?_
  refine dlA h 0 rfl rfl ?_
  refine cl1 h n_law26_of (cc4 h.ext) fun w h => ?_
  refine klA h 0 rfl rfl ?_
  refine cl1 h n_rational_Compare (cc6 h.ext) fun w h => ?_
  refine iaR h 3 rfl (by omega) fun zg zk zv => ?_
  refine lr0 h 3 rfl ‹_› ‹_› (by rfl) ?_
  refine Bn_gtF (by omega) ?_
  iterate 4 refine Gd_FT ?_
  refine Pick_F ?_
  replace h := h.dr
  refine Dv_neF (by omega) ?_
  iterate 2 refine GdP_F ?_
  refine Dv_nF ?_
  refine GdP_F ?_
  iterate 3 refine GdP_T ?_
  refine diR h 2 rfl (by omega) fun zg zk zv => ?_
  refine GdP_T ?_
  refine dr0 h 2 rfl ‹_› ‹_› (by rfl) ?_
  refine GdP_T ?_
  refine Dv_neF (by omega) ?_
  refine GdP_T ?_
  iterate 3 refine GdP_F ?_
  refine diR h 1 rfl (by omega) fun zg zk zv => ?_
  refine GdP_F ?_
  refine dr0 h 1 rfl ‹_› ‹_› (by rfl) ?_
  refine GdP_F ?_
  refine Dv_neF (by omega) ?_
  refine GdP_T ?_
  refine PickP_F ?_
  refine GdP_F ?_
  refine PickP_T ?_
  refine PickP_F ?_
  iterate 2 refine GdP_F ?_
  iterate 3 refine GdP_FT ?_
  iterate 2 refine GdP_U ?_
  refine GdP_FT ?_
  refine GdP_F ?_
  iterate 2 refine PickP_F ?_
  iterate 3 refine GdP_F ?_
  refine diR h 2 rfl (by omega) fun zg zk zv => ?_
  refine GdP_F ?_
  refine dr0 h 2 rfl ‹_› ‹_› (by rfl) ?_
  refine GdP_F ?_
  refine Dv_ltF (by omega) ?_
  refine PickP_F ?_
  iterate 3 refine GdP_F ?_
  refine diR h 2 rfl (by omega) fun zg zk zv => ?_
  refine GdP_F ?_
  refine dr0 h 2 rfl ‹_› ‹_› (by rfl) ?_
  iterate 3 refine GdP_F ?_
  refine diR h 1 rfl (by omega) fun zg zk zv => ?_
  refine GdP_F ?_
  refine dr0 h 1 rfl ‹_› ‹_› (by rfl) ?_
  refine GdP_F ?_
  refine Dv_gtF (by omega) ?_
  refine PickP_F ?_
  refine If_F ?_
  refine Bn_ad (by omega) (by omega) ?_
  exact ⟨⟨j + 1, by omega, rfl, rfl, h.pick [1, 2, 3, 4] (by decide) rfl⟩, by show m.length - ((j : Int) + 1).toNat < m.length - (j : Int).toNat; omega⟩
 rw [if_pos hy0] at hcn
 have hcn' : (cnt (m.take j) : Int) + 1 = (cnt (m.take (j + 1)) : Int) := by omega
 by_cases hgc : g < cnt (m.take (j + 1))
 rotate_left
 ·rw [if_neg (fun h => hgc h.2)] at hbe
  refine leS (h.sl (i := 2) rfl) ?_
  refine Bn_ltT (by omega) ?_
  refine If_T ?_
  refine Jn1.lf (.int .i64 (cnt (m.take (j + 1)) : Int)) h (fun K lf1 => ?_) (fun w h => ?_)
  ·refine iaR h 2 rfl (by omega) fun zg zk zv => ?_
   refine lr0 h 2 rfl ‹_› ‹_› (by rfl) ?_
   refine Bn_gtT (by omega) ?_
   refine If_T ?_
   refine Bn_ad (by omega) (by omega) ?_
   exact hcn' ▸ lf1 _ h
  skip
  refine Jn2.lfb tR (fO (some (q * qI y))) (.int .i64 0) h (fun K lf1 => ?_) (fun gx w h => ?_)
  ·replace h := h.dr
   refine dfS ?_
   refine dlA h 3 rfl rfl ?_
   refine diR h 2 rfl (by omega) fun zg zk zv => ?_
   refine dr0 h 2 rfl ‹_› ‹_› (by rfl) ?_
   refine ⟨?_, ?_⟩
   refine cl1 h n_law26_of (cc1 h.ext) fun w h => ?_
   refine klA h 3 rfl rfl ?_
   refine ⟨?_, ?_⟩
   refine cl1 h n_rational_Mul (cc2 h.ext) fun w h => ?_
   refine ExP2 ?_
   refine alS h fun g4 w h => ?_
   refine klA h 4 rfl rfl ?_
   refine kr0 h 3 rfl ‹_› ‹_› (by rfl) ?_
   refine stA h 0 rfl rfl rfl rfl fun w h => ?_
   exact lf1 _ _ h
   refine alS h fun g4 w h => ?_
   refine klA h 4 rfl rfl ?_
   refine kr0 h 3 rfl ‹_› ‹_› (by rfl) ?_
   refine cl1 h n_rational_Mul (cc2 h.ext) fun w h => ?_
   refine ExP2 ?_
   refine stA h 0 rfl rfl rfl rfl fun w h => ?_
   exact lf1 _ _ h
   refine alS h fun g4 w h => ?_
   refine klA h 4 rfl rfl ?_
   refine kr0 h 3 rfl ‹_› ‹_› (by rfl) ?_
   refine cl1 h n_law26_of (cc1 h.ext) fun w h => ?_
   refine klA h 4 rfl rfl ?_
   refine cl1 h n_rational_Mul (cc2 h.ext) fun w h => ?_
   refine ExP2 ?_
   refine stA h 0 rfl rfl rfl rfl fun w h => ?_
   exact lf1 _ _ h
  replace h := h.dr
  refine diR h 1 rfl (by omega) fun zg zk zv => ?_
  refine dr0 h 1 rfl ‹_› ‹_› (by rfl) ?_
  refine dlA h 0 rfl rfl ?_
  refine cl1 h n_law26_of (cc3 h.ext) fun w h => ?_
  refine klA h 0 rfl rfl ?_
  refine cl1 h n_rational_Compare (cc5 h.ext) fun w h => ?_
  replace h := h.dr
  refine diR h 1 rfl (by omega) fun zg zk zv => ?_
  refine dr0 h 1 rfl ‹_› ‹_› (by rfl) ?_
  refine Dv_ad (by omega) (by omega) ?_
  refine dlA h 0 rfl rfl ?_
  refine cl1 h n_law26_of (cc4 h.ext) fun w h => ?_
  refine klA h 0 rfl rfl ?_
  refine cl1 h n_rational_Compare (cc6 h.ext) fun w h => ?_
  refine iaR h 3 rfl (by omega) fun zg zk zv => ?_
  refine lr0 h 3 rfl ‹_› ‹_› (by rfl) ?_
  refine Bn_gtT (by omega) ?_
  iterate 2 refine Gd_T ?_
  refine faS ?_
  refine Gd_T ?_
  refine Eng.ld1 h 4 rfl rfl ?_
  refine Gd_T ?_
  refine Bn_gtF (by omega) ?_
  refine Pick_T ?_
  replace h := h.dr
  refine Dv_neF (by omega) ?_
  iterate 2 refine GdP_F ?_
  refine Dv_nF ?_
  refine GdP_F ?_
  iterate 3 refine GdP_T ?_
  refine diR h 2 rfl (by omega) fun zg zk zv => ?_
  refine GdP_T ?_
  refine dr0 h 2 rfl ‹_› ‹_› (by rfl) ?_
  refine GdP_T ?_
  refine Dv_neF (by omega) ?_
  refine GdP_T ?_
  iterate 3 refine GdP_F ?_
  refine diR h 1 rfl (by omega) fun zg zk zv => ?_
  refine GdP_F ?_
  refine dr0 h 1 rfl ‹_› ‹_› (by rfl) ?_
  refine GdP_F ?_
  refine Dv_neF (by omega) ?_
  refine GdP_T ?_
  refine PickP_F ?_
  refine GdP_F ?_
  refine PickP_T ?_
  refine PickP_F ?_
  iterate 2 refine GdP_F ?_
  iterate 3 refine GdP_FT ?_
  iterate 2 refine GdP_U ?_
  refine GdP_FT ?_
  refine GdP_F ?_
  iterate 2 refine PickP_F ?_
  iterate 3 refine GdP_F ?_
  refine diR h 2 rfl (by omega) fun zg zk zv => ?_
  refine GdP_F ?_
  refine dr0 h 2 rfl ‹_› ‹_› (by rfl) ?_
  refine GdP_F ?_
  refine Dv_ltF (by omega) ?_
  refine PickP_F ?_
  iterate 3 refine GdP_F ?_
  refine diR h 2 rfl (by omega) fun zg zk zv => ?_
  refine GdP_F ?_
  refine dr0 h 2 rfl ‹_› ‹_› (by rfl) ?_
  iterate 3 refine GdP_F ?_
  refine diR h 1 rfl (by omega) fun zg zk zv => ?_
  refine GdP_F ?_
  refine dr0 h 1 rfl ‹_› ‹_› (by rfl) ?_
  refine GdP_F ?_
  refine Dv_gtF (by omega) ?_
  refine PickP_F ?_
  refine If_F ?_
  refine Bn_ad (by omega) (by omega) ?_
  exact ⟨⟨j + 1, by omega, rfl, rfl, h.pick [1, 2, 3, 4] (by decide) rfl⟩, by show m.length - ((j : Int) + 1).toNat < m.length - (j : Int).toNat; omega⟩
 rw [if_pos ⟨hy0, hgc⟩] at hbe
 have k1 : cmpQ (qI b) (q * qI y) ≤ 0 := (cmp_le _ _).2 (by rw [hbe]; exact Rat.floor_le _)
 have k2 : 0 < cmpQ (qI (b + 1)) (q * qI y) := (cmp_gt _ _).2 (by rw [hbe]; exact Rat.lt_floor_add_one _)
 refine leS (h.sl (i := 2) rfl) ?_
 refine Bn_ltT (by omega) ?_
 refine If_T ?_
 refine Jn1.lf (.int .i64 (cnt (m.take (j + 1)) : Int)) h (fun K lf1 => ?_) (fun w h => ?_)
 ·refine iaR h 2 rfl (by omega) fun zg zk zv => ?_
  refine lr0 h 2 rfl ‹_› ‹_› (by rfl) ?_
  refine Bn_gtT (by omega) ?_
  refine If_T ?_
  refine Bn_ad (by omega) (by omega) ?_
  exact hcn' ▸ lf1 _ h
 skip
 refine Jn2.lfb tR (fO (some (q * qI y))) (.int .i64 0) h (fun K lf1 => ?_) (fun gx w h => ?_)
 ·replace h := h.dr
  refine dfS ?_
  refine dlA h 3 rfl rfl ?_
  refine diR h 2 rfl (by omega) fun zg zk zv => ?_
  refine dr0 h 2 rfl ‹_› ‹_› (by rfl) ?_
  refine ⟨?_, ?_⟩
  refine cl1 h n_law26_of (cc1 h.ext) fun w h => ?_
  refine klA h 3 rfl rfl ?_
  refine ⟨?_, ?_⟩
  refine cl1 h n_rational_Mul (cc2 h.ext) fun w h => ?_
  refine ExP2 ?_
  refine alS h fun g4 w h => ?_
  refine klA h 4 rfl rfl ?_
  refine kr0 h 3 rfl ‹_› ‹_› (by rfl) ?_
  refine stA h 0 rfl rfl rfl rfl fun w h => ?_
  exact lf1 _ _ h
  refine alS h fun g4 w h => ?_
  refine klA h 4 rfl rfl ?_
  refine kr0 h 3 rfl ‹_› ‹_› (by rfl) ?_
  refine cl1 h n_rational_Mul (cc2 h.ext) fun w h => ?_
  refine ExP2 ?_
  refine stA h 0 rfl rfl rfl rfl fun w h => ?_
  exact lf1 _ _ h
  refine alS h fun g4 w h => ?_
  refine klA h 4 rfl rfl ?_
  refine kr0 h 3 rfl ‹_› ‹_› (by rfl) ?_
  refine cl1 h n_law26_of (cc1 h.ext) fun w h => ?_
  refine klA h 4 rfl rfl ?_
  refine cl1 h n_rational_Mul (cc2 h.ext) fun w h => ?_
  refine ExP2 ?_
  refine stA h 0 rfl rfl rfl rfl fun w h => ?_
  exact lf1 _ _ h
 replace h := h.dr
 refine diR h 1 rfl (by omega) fun zg zk zv => ?_
 refine dr0 h 1 rfl ‹_› ‹_› (by rfl) ?_
 refine dlA h 0 rfl rfl ?_
 refine cl1 h n_law26_of (cc3 h.ext) fun w h => ?_
 refine klA h 0 rfl rfl ?_
 refine cl1 h n_rational_Compare (cc5 h.ext) fun w h => ?_
 replace h := h.dr
 refine diR h 1 rfl (by omega) fun zg zk zv => ?_
 refine dr0 h 1 rfl ‹_› ‹_› (by rfl) ?_
 refine Dv_ad (by omega) (by omega) ?_
 refine dlA h 0 rfl rfl ?_
 refine cl1 h n_law26_of (cc4 h.ext) fun w h => ?_
 refine klA h 0 rfl rfl ?_
 refine cl1 h n_rational_Compare (cc6 h.ext) fun w h => ?_
 refine iaR h 3 rfl (by omega) fun zg zk zv => ?_
 refine lr0 h 3 rfl ‹_› ‹_› (by rfl) ?_
 refine Bn_gtT (by omega) ?_
 iterate 2 refine Gd_T ?_
 refine faS ?_
 refine Gd_T ?_
 refine Eng.ld1 h 4 rfl rfl ?_
 refine Gd_T ?_
 refine Bn_gtT (by omega) ?_
 refine Pick_T ?_
 replace h := h.dr
 refine Dv_neF (by omega) ?_
 iterate 2 refine GdP_F ?_
 refine Dv_nT ?_
 refine GdP_F ?_
 iterate 6 refine GdP_FT ?_
 iterate 5 refine GdP_U ?_
 refine GdP_FT ?_
 refine GdP_F ?_
 iterate 2 refine PickP_F ?_
 iterate 2 refine GdP_F ?_
 iterate 2 refine GdP_T ?_
 refine Dv_gtF (by omega) ?_
 refine GdP_T ?_
 iterate 2 refine GdP_F ?_
 refine Dv_leF (by omega) ?_
 refine GdP_T ?_
 refine PickP_F ?_
 refine GdP_F ?_
 refine PickP_T ?_
 refine PickP_F ?_
 iterate 3 refine GdP_F ?_
 refine diR h 2 rfl (by omega) fun zg zk zv => ?_
 refine GdP_F ?_
 refine dr0 h 2 rfl ‹_› ‹_› (by rfl) ?_
 refine GdP_F ?_
 refine Dv_ltF (by omega) ?_
 refine PickP_F ?_
 iterate 3 refine GdP_F ?_
 refine diR h 2 rfl (by omega) fun zg zk zv => ?_
 refine GdP_F ?_
 refine dr0 h 2 rfl ‹_› ‹_› (by rfl) ?_
 iterate 3 refine GdP_F ?_
 refine diR h 1 rfl (by omega) fun zg zk zv => ?_
 refine GdP_F ?_
 refine dr0 h 1 rfl ‹_› ‹_› (by rfl) ?_
 refine GdP_F ?_
 refine Dv_gtF (by omega) ?_
 refine PickP_F ?_
 refine If_F ?_
 refine Bn_ad (by omega) (by omega) ?_
 exact ⟨⟨j + 1, by omega, rfl, rfl, h.pick [1, 2, 3, 4] (by decide) rfl⟩, by show m.length - ((j : Int) + 1).toNat < m.length - (j : Int).toNat; omega⟩
end
end Go.Proofs.YtjmdnjnjepinoaaGreatDoor
