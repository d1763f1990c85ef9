/-
  Contracts and plain lemmas. By an AI agent.
-/
import Derived.Test.YtjmdnjnjepinoaaGreatDoorLCpA
import Derived.Test.YtjmdnjnjepinoaaGreatDoorCoZ
set_option linter.unusedSimpArgs false
set_option linter.unusedVariables false
set_option linter.unusedSectionVars false
namespace Go.Proofs.YtjmdnjnjepinoaaGreatDoor
open Go Go.Eng Go.Proofs Go.Num Go.RowKit
set_option maxRecDepth 100000
set_option linter.unusedVariables false
set_option linter.unusedSectionVars false
theorem one_fI : ∀ l : List Int, ((l.flatMap fI).all fun x => x.oneCell') = true
 | [] => rfl
 | x :: l => by rw [List.flatMap_cons, List.all_append, one_fI l]; rfl
theorem take_fI (l : List Int) (k : Nat) : (l.flatMap fI).take (k * 1) = (l.take k).flatMap fI := by
 rw [flat_fI, flat_fI, Nat.mul_one, List.map_take]
theorem sum_take_le : ∀ (l : List Int) (k : Nat), (∀ y ∈ l, 0 ≤ y) → (l.take k).sum ≤ l.sum
 | [], k, _ => by simp
 | x :: l, 0, h => by
  have := sum_nn (l := x :: l) h
  simpa using this
 | x :: l, k + 1, h => by
  have := sum_take_le l k fun y hy => h y (by simp [hy])
  rw [List.take_succ_cons, List.sum_cons, List.sum_cons]; omega
theorem set_self {α : Type} {l : List α} {i : Nat} {y : α} (h : l[i]? = some y) : l.set i y = l := by
 apply List.ext_getElem?
 intro j
 rw [List.getElem?_set]
 split
 ·next e =>
  subst e
  rw [if_pos (List.getElem?_eq_some_iff.1 h).1, h]
 ·rfl
theorem set_fI {l : List Int} {i : Nat} {z : Int} : (l.flatMap fI).set (0 + i * 1) (.int .i64 z) = (l.set i z).flatMap fI := by
 rw [flat_fI, flat_fI, Nat.zero_add, Nat.mul_one, List.map_set]
section
variable {w0 : World} {v : Value} {l : List Int} {x0 x1 x2 x3 : Int} (he : En w0) (hv : SlC w0 1 v l.length (l.flatMap fI)) (hI : ∀ a ∈ l, I64 a) (hll : l.length ≤ 9223372036854775807) (h0 : I64 x0) (h1 : I64 x1) (h2 : I64 x2) (h3 : I64 x3)
include he hv hI hll h0 h1 h2 h3
set_option maxHeartbeats 16000000 in
theorem law_Kept {first which more : Int} (hf : I64 first) (hw : I64 which) (hmo : I64 more) : Calls Tryz.prog 7 #[.agg #[.int .i64 x0, .int .i64 x1, .int .i64 x2, .int .i64 x3], v, .int .i64 first, .int .i64 which, .int .i64 more] w0 (Ret fun r w' => Ext w0 w' ∧ r = .bool true) := by
 have t0 := pickZ_bd (c := x0) (n := 4) (by decide)
 have t1 := pickZ_bd (c := x1) (n := 4) (by decide)
 have t3 := capZ_bd x3
 have cc1 := fun {W : World} (x : Ext w0 W) => c_sane (w0 := W) (he.ext x)
 have cc2 : ∀ {W : World}, Ext w0 W → Calls Tryz.prog 12 #[.agg #[.int .i64 x0, .int .i64 x1, .int .i64 x2, .int .i64 x3]] W (Ret fun r w' => Ext W w' ∧ r = aC (pickZ x0 4) (pickZ x1 4) (smQ x2 x0) (capZ x3)) := fun {W} _ => c_Made h0 h1 h2 h3
 obtain ⟨m, hm⟩ : ∃ m, latL l = m := ⟨_, rfl⟩
 have hmb := latL_bd (l := l)
 have hml := latL_len l
 have cr1 : ∀ {W : World}, Ext w0 W → Calls Tryz.prog 33 #[v] W (Ret fun r w' => ∃ u, r = u ∧ Hp [] W w' [ro tI 1 u m.length (m.flatMap fI)]) := fun {W} e => by
  refine (c_latenesses (hv.ext e) hI hll).mono ?_
  rintro _ w' ⟨r, rfl, h⟩
  rw [hm] at h
  exact Ret.mk ⟨_, rfl, h⟩
 rw [hm] at hmb hml
 have hmb' : ∀ y ∈ m, 0 ≤ y ∧ y ≤ 1000 := fun y hy => by have := hmb y hy; omega
 have hm0 : ∀ y ∈ m, 0 ≤ y := fun y hy => (hmb y hy).1
 have hgp := fun {W : World} (e : Ext w0 W) {u : Value} {m : List Int} (hmb : ∀ y ∈ m, 0 ≤ y ∧ y ≤ 1000) (hml : m.length ≤ 100) (hu : SlC W 1 u m.length (m.flatMap fI)) => g_pen (W := W) (v := u) (m := m) (tm := pickZ x0 4) (gr := pickZ x1 4) (cap := capZ x3) (n := x2) (d := x0) (he.ext e) (by omega) (by omega) t3 hmb hml hu
 have hP := smQ_Pri x2 x0
 obtain ⟨q, hq⟩ : ∃ q, smQ x2 x0 = q := ⟨_, rfl⟩
 obtain ⟨g, hg⟩ : ∃ g : Nat, (pickZ x1 4).toNat = g := ⟨_, rfl⟩
 have hgz : pickZ x1 4 = (g : Int) := by omega
 obtain ⟨cap, hcap⟩ : ∃ c, capZ x3 = c := ⟨_, rfl⟩
 obtain ⟨tm, htm⟩ : ∃ c, pickZ x0 4 = c := ⟨_, rfl⟩
 have hgp : ∀ {W : World}, Ext w0 W → ∀ {u : Value} {m : List Int}, (∀ y ∈ m, 0 ≤ y ∧ y ≤ 1000) → m.length ≤ 100 → SlC W 1 u m.length (m.flatMap fI) → Calls Tryz.prog 13 #[aC tm g q cap, u] W (Ret fun r w' => ∃ u, r = .tuple #[u, .int .i64 0] ∧ Hp [] W w' [ro tI 1 u m.length ((penL q g cap m).flatMap fI)]) := fun e u m a b hu => by
  have := hgp e a b hu
  rw [hq, hg, hgz, htm, hcap] at this
  exact this
 rw [hq, hgz, hcap, htm] at cc2
 rw [hq] at hP
 rw [hcap] at t3
 rw [hgz] at t1
 rw [htm] at t0
 have kb := pickZ_bd (c := first) (n := (m.length : Int) + 1) (by omega)
 obtain ⟨k, hk⟩ : ∃ k : Nat, pickZ first ((m.length : Int) + 1) = (k : Int) := ⟨(pickZ first ((m.length : Int) + 1)).toNat, by omega⟩
 rw [hk] at kb
 have hkm : k ≤ m.length := by omega
 obtain ⟨A, hA⟩ : ∃ A, penL q g cap m = A := ⟨_, rfl⟩
 have hAl : A.length = m.length := by rw [← hA]; exact penL_len _ _ _
 have hAb : ∀ y ∈ A, 0 ≤ y ∧ y ≤ 1000000000 := by rw [← hA]; exact penL_bd hP.nn (by omega) t3 hm0
 have hAt : penL q g cap (m.take k) = A.take k := by rw [← hA, penL_take]
 have hAs : A.sum = min cap (cstL q g m).sum := by rw [← hA]; exact penL_sum hP.nn g t3.1 hm0
 have hAk : (A.take k).sum ≤ A.sum := sum_take_le A k fun y hy => (hAb y hy).1
 have hmk : (m.take k).length = k := take_len hkm
 have hAkl : (A.take k).length = k := take_len (by omega)
 have hone := one_fI m
 have cc3 : ∀ {W : World}, Ext w0 W → Calls Tryz.prog 23 #[.int .i64 first, .int .i64 ((m.length : Int) + 1)] W (Ret fun r w' => Ext W w' ∧ r = .int .i64 (k : Int)) := fun {W} _ => hk ▸ c_pickL hf (by omega)
 have cr2 : ∀ {W : World}, Ext w0 W → ∀ {u : Value}, SlC W 1 u m.length (m.flatMap fI) → Calls Tryz.prog 13 #[aC tm g q cap, u] W (Ret fun r w' => ∃ u, r = .tuple #[u, .int .i64 0] ∧ Hp [] W w' [ro tI 1 u m.length (A.flatMap fI)]) := fun {W} e u hu => hA ▸ hgp e hmb' (by omega) hu
 have cr3 : ∀ {W : World}, Ext w0 W → ∀ {u : Value}, SlC W 1 u k ((m.flatMap fI).take (k * 1)) → Calls Tryz.prog 13 #[aC tm g q cap, u] W (Ret fun r w' => ∃ u, r = .tuple #[u, .int .i64 0] ∧ Hp [] W w' [ro tI 1 u k ((A.take k).flatMap fI)]) := fun {W} e u hu => by
  rw [take_fI] at hu
  have := hgp e (m := m.take k) (fun y hy => hmb' y (List.mem_of_mem_take hy)) (by omega) (by rw [hmk]; exact hu)
  rw [hAt, hmk] at this
  exact this
 have cc4 : ∀ {W : World}, Ext w0 W → ∀ {u u' : Value}, SlC W 1 u k ((A.flatMap fI).take (k * 1)) → SlC W 1 u' k ((A.take k).flatMap fI) → Calls Tryz.prog 17 #[u, u'] W (Ret fun r w' => Ext W w' ∧ r = .bool true) := fun {W} e u u' a b => by
  rw [take_fI] at a
  exact c_SameT (l := A.take k) (hAkl.symm ▸ a) (hAkl.symm ▸ b) (by omega)
 have cc5 : ∀ {W : World}, Ext w0 W → ∀ {u : Value}, SlC W 1 u m.length (A.flatMap fI) → Calls Tryz.prog 34 #[u] W (Ret fun r w' => Ext W w' ∧ r = .int .i64 A.sum) := fun {W} _ u hu => c_sums (hAl ▸ hu) (by omega) fun y hy => by have := hAb y hy; omega
 have cc6 : ∀ {W : World}, Ext w0 W → ∀ {u : Value}, SlC W 1 u k ((A.take k).flatMap fI) → Calls Tryz.prog 34 #[u] W (Ret fun r w' => Ext W w' ∧ r = .int .i64 (A.take k).sum) := fun {W} _ u hu => c_sums (hAkl.symm ▸ hu) (by omega) fun y hy => by have := hAb y (List.mem_of_mem_take hy); omega
 clear hA hq hg hcap htm hm hk
 by_cases hmz : m.length = 0
 ·apply e_law26_ContractKept
  unfold s_law26_ContractKept
  have h := Hp.init [] w0
  refine bxA h fun g1 w h => ?_
  refine cl1 h n_law26_sane (cc1 h.ext) fun w h => ?_
  refine ldA h 0 rfl rfl ?_
  refine cl1 h n_ref26_Made (cc2 h.ext) fun w h => ?_
  refine alS h fun g2 w h => ?_
  refine stA h 0 rfl rfl rfl rfl fun w h => ?_
  refine clR h n_law26_latenesses (cr1 h.ext) fun v1 w h => ?_
  refine leS (h.sl (i := 0) rfl) ?_
  refine Bn_ad (by omega) (by omega) ?_
  refine cl1 h n_law26_pick (cc3 h.ext) fun w h => ?_
  refine ldA h 1 rfl rfl ?_
  refine clR h n_contract_Penalties (cr2 h.ext (by first | exact (h.sl (i := 0) rfl) | assumption)) fun v2 w h => ?_
  refine Ex2 ?_
  replace h := h.dr
  refine dlA h 2 rfl rfl ?_
  refine dscH (h.sl (i := 1) rfl) (by omega) fun v3 p1 => ?_
  refine clR h n_contract_Penalties (cr3 h.ext (by first | exact (p1.2 _ (h.sl (i := 1) rfl)) | assumption)) fun v4 w h => ?_
  refine ExP2 ?_
  refine Bn_neF (by omega) ?_
  iterate 2 refine Gd_F ?_
  refine Bn_neF (by omega) ?_
  refine Pick_F ?_
  iterate 2 refine Gd_F ?_
  refine leS (h.sl (i := 1) rfl) ?_
  iterate 2 refine Gd_F ?_
  refine leS (h.sl (i := 2) rfl) ?_
  refine Gd_F ?_
  refine Bn_neF (by omega) ?_
  refine Pick_F ?_
  iterate 3 refine Gd_F ?_
  refine scHn (h.sl (i := 1) rfl) (by omega) fun v5 p2 => ?_
  iterate 2 refine Gd_F ?_
  refine cl1 h n_ref26_Same (cc4 h.ext (by first | exact (p2.2 _ (h.sl (i := 1) rfl)) | assumption) (by first | exact (h.sl (i := 0) rfl) | assumption)) fun w h => ?_
  refine Gd_F ?_
  refine Un_T ?_
  refine Pick_F ?_
  iterate 2 refine Gd_F ?_
  refine cl1 h n_law26_sums (cc6 h.ext (by first | exact (h.sl (i := 0) rfl) | assumption)) fun w h => ?_
  iterate 2 refine Gd_F ?_
  refine cl1 h n_law26_sums (cc5 h.ext (by first | exact (h.sl (i := 1) rfl) | assumption)) fun w h => ?_
  refine Gd_F ?_
  refine Bn_gtF (by omega) ?_
  refine Pick_F ?_
  refine If_F ?_
  refine leS (h.sl (i := 2) rfl) ?_
  refine Bn_eqT (by omega) ?_
  refine If_T ?_
  dsimp only [List.set] at h
  exact Ret.mk ⟨h.ext, rfl⟩
 have ib := pickZ_bd (c := which) (n := (m.length : Int)) (by omega)
 obtain ⟨i, hi⟩ : ∃ i : Nat, pickZ which (m.length : Int) = (i : Int) := ⟨(pickZ which (m.length : Int)).toNat, by omega⟩
 rw [hi] at ib
 have him : i < m.length := by omega
 obtain ⟨y, hy⟩ : ∃ y, m[i]? = some y := ⟨_, List.getElem?_eq_getElem him⟩
 have hyb := hmb y (List.mem_of_getElem? hy)
 have sy : Seg (m.flatMap fI) (i * 1) (fI y) := flat_seg (f := fI) (fun _ => rfl) hy
 have pb := pickZ_bd (c := more) (n := 100) (by decide)
 have cc7 : ∀ {W : World}, Ext w0 W → Calls Tryz.prog 23 #[.int .i64 which, .int .i64 (m.length : Int)] W (Ret fun r w' => Ext W w' ∧ r = .int .i64 (i : Int)) := fun {W} _ => hi ▸ c_pickL hw (by omega)
 have cc8 := fun {W : World} (_ : Ext w0 W) => c_pickL (w := W) (c := more) (n := 100) hmo (by decide)
 obtain ⟨z, hz⟩ : ∃ z, (if 0 < y then y + pickZ more 100 else y) = z := ⟨_, rfl⟩
 obtain ⟨M, hM⟩ : ∃ M, m.set i z = M := ⟨_, rfl⟩
 obtain ⟨B, hB⟩ : ∃ B, penL q g cap M = B := ⟨_, rfl⟩
 have hzb : 0 ≤ z ∧ z ≤ 1000 ∧ y ≤ z := by rw [← hz]; split <;> omega
 have hMl : M.length = m.length := by rw [← hM, List.length_set]
 have hMb : ∀ x ∈ M, 0 ≤ x ∧ x ≤ 1000 := fun x hx => by
  rw [← hM] at hx
  rcases List.mem_or_eq_of_mem_set hx with h | rfl
  ·exact hmb' x h
  ·omega
 have hM0 : ∀ x ∈ M, 0 ≤ x := fun x hx => (hMb x hx).1
 have hBl : B.length = m.length := by rw [← hB, penL_len, hMl]
 have hBb : ∀ y ∈ B, 0 ≤ y ∧ y ≤ 1000000000 := by rw [← hB]; exact penL_bd hP.nn (by omega) t3 hM0
 have hBs : B.sum = min cap (cstL q g M).sum := by rw [← hB]; exact penL_sum hP.nn g t3.1 hM0
 have hAB : A.sum ≤ B.sum := by
  have : (cstL q g m).sum ≤ (cstL q g M).sum := by
   rw [← hM]
   by_cases hy0 : 0 < y
   ·exact cstL_set hP.nn g i hm0 hy hy0 hzb.2.2
   ·rw [if_neg hy0] at hz
    rw [← hz, set_self hy]
    exact Int.le_refl _
  omega
 have cr4 : ∀ {W : World}, Ext w0 W → ∀ {u : Value}, SlC W 1 u m.length (M.flatMap fI) → Calls Tryz.prog 13 #[aC tm g q cap, u] W (Ret fun r w' => ∃ u, r = .tuple #[u, .int .i64 0] ∧ Hp [] W w' [ro tI 1 u m.length (B.flatMap fI)]) := fun {W} e u hu => by
  have := hgp e (m := M) hMb (by omega) (hMl.symm ▸ hu)
  rw [hB, hMl] at this
  exact this
 have cc9 : ∀ {W : World}, Ext w0 W → ∀ {u : Value}, SlC W 1 u m.length (B.flatMap fI) → Calls Tryz.prog 34 #[u] W (Ret fun r w' => Ext W w' ∧ r = .int .i64 B.sum) := fun {W} _ u hu => c_sums (hBl ▸ hu) (by omega) fun y hy => by have := hBb y hy; omega
 apply e_law26_ContractKept
 unfold s_law26_ContractKept
 have h := Hp.init [] w0
 clear hB hi
 refine bxA h fun g1 w h => ?_
 refine cl1 h n_law26_sane (cc1 h.ext) fun w h => ?_
 refine ldA h 0 rfl rfl ?_
 refine cl1 h n_ref26_Made (cc2 h.ext) fun w h => ?_
 refine alS h fun g2 w h => ?_
 refine stA h 0 rfl rfl rfl rfl fun w h => ?_
 refine clR h n_law26_latenesses (cr1 h.ext) fun v1 w h => ?_
 refine leS (h.sl (i := 0) rfl) ?_
 refine Bn_ad (by omega) (by omega) ?_
 refine cl1 h n_law26_pick (cc3 h.ext) fun w h => ?_
 refine ldA h 1 rfl rfl ?_
 refine clR h n_contract_Penalties (cr2 h.ext (by first | exact (h.sl (i := 0) rfl) | assumption)) fun v2 w h => ?_
 refine Ex2 ?_
 replace h := h.dr
 refine dlA h 2 rfl rfl ?_
 refine dscH (h.sl (i := 1) rfl) (by omega) fun v3 p1 => ?_
 refine clR h n_contract_Penalties (cr3 h.ext (by first | exact (p1.2 _ (h.sl (i := 1) rfl)) | assumption)) fun v4 w h => ?_
 refine ExP2 ?_
 refine Bn_neF (by omega) ?_
 iterate 2 refine Gd_F ?_
 refine Bn_neF (by omega) ?_
 refine Pick_F ?_
 iterate 2 refine Gd_F ?_
 refine leS (h.sl (i := 1) rfl) ?_
 iterate 2 refine Gd_F ?_
 refine leS (h.sl (i := 2) rfl) ?_
 refine Gd_F ?_
 refine Bn_neF (by omega) ?_
 refine Pick_F ?_
 iterate 3 refine Gd_F ?_
 refine scHn (h.sl (i := 1) rfl) (by omega) fun v5 p2 => ?_
 iterate 2 refine Gd_F ?_
 refine cl1 h n_ref26_Same (cc4 h.ext (by first | exact (p2.2 _ (h.sl (i := 1) rfl)) | assumption) (by first | exact (h.sl (i := 0) rfl) | assumption)) fun w h => ?_
 refine Gd_F ?_
 refine Un_T ?_
 refine Pick_F ?_
 iterate 2 refine Gd_F ?_
 refine cl1 h n_law26_sums (cc6 h.ext (by first | exact (h.sl (i := 0) rfl) | assumption)) fun w h => ?_
 iterate 2 refine Gd_F ?_
 refine cl1 h n_law26_sums (cc5 h.ext (by first | exact (h.sl (i := 1) rfl) | assumption)) fun w h => ?_
 refine Gd_F ?_
 refine Bn_gtF (by omega) ?_
 refine Pick_F ?_
 refine If_F ?_
 refine leS (h.sl (i := 2) rfl) ?_
 refine Bn_eqF (by omega) ?_
 refine If_F ?_
 refine leS (h.sl (i := 2) rfl) ?_
 refine cl1 h n_law26_pick (cc7 h.ext) fun w h => ?_
 refine bs0 h fun v6 w h => ?_
 refine apR (by rfl) (by decide) h 0 rfl (h.sl (i := 3) rfl) (by first | rfl | assumption) (by omega) fun v7 w h => ?_
 dsimp only [List.set] at h
 rw [Nat.zero_add, List.nil_append] at h
 refine Jn0.mk fun K hK => ?_
 have lf1 : ∀ w, Hp [] w0 w [ro tI 1 v7 m.length (M.flatMap fI), ro tI 1 v4 k ((A.take k).flatMap fI), ro tI 1 v2 m.length (A.flatMap fI), bx g2 tC [.int .i64 tm, .int .i64 (g : Int), str (eN (some q)), str (eD (some q)), .int .i64 cap]] → K w := by
  clear h
  intro w h
  refine hK _ ?_
  clear hK
  refine ldA h 3 rfl rfl ?_
  refine clR h n_contract_Penalties (cr4 h.ext (by first | exact (h.sl (i := 0) rfl) | assumption)) fun v8 w h => ?_
  refine Ex2 ?_
  iterate 2 refine Gd_T ?_
  refine Bn_eqT (by omega) ?_
  refine Pick_T ?_
  iterate 2 refine Gd_T ?_
  refine cl1 h n_law26_sums (cc9 h.ext (by first | exact (h.sl (i := 0) rfl) | assumption)) fun w h => ?_
  iterate 2 refine Gd_T ?_
  refine cl1 h n_law26_sums (cc5 h.ext (by first | exact (h.sl (i := 3) rfl) | assumption)) fun w h => ?_
  refine Gd_T ?_
  refine Bn_geT (by omega) ?_
  refine Pick_T ?_
  exact Ret.mk ⟨h.ext, rfl⟩
 clear hK
 have h := h.pick [0, 1, 2, 4] (by decide) rfl
 by_cases hy0 : 0 < y
 ·rw [if_pos hy0] at hz
  refine iaR h 0 rfl (by omega) fun zg zk zv => ?_
  refine lr0 h 0 rfl ‹_› ‹_› (by rfl) ?_
  refine Bn_gtT (by omega) ?_
  refine If_T ?_
  replace h := h.dr
  refine diR h 0 rfl (by omega) fun zg zk zv => ?_
  refine dr0 h 0 rfl ‹_› ‹_› (by rfl) ?_
  refine cl1 h n_law26_pick (cc8 h.ext) fun w h => ?_
  refine kr0 h 0 rfl ‹_› ‹_› (by rfl) ?_
  refine Dv_ad (by omega) (by omega) ?_
  refine diR h 0 rfl (by omega) fun zg zk zv => ?_
  refine stR1 h 0 rfl ‹_› (by rfl) (by rfl) (by omega) fun w h => ?_
  dsimp only [List.set] at h
  rw [set_fI, hz, hM] at h
  exact lf1 _ h
 ·rw [if_neg hy0] at hz
  rw [← hz, set_self hy] at hM
  rw [← hM] at lf1
  refine iaR h 0 rfl (by omega) fun zg zk zv => ?_
  refine lr0 h 0 rfl ‹_› ‹_› (by rfl) ?_
  refine Bn_gtF (by omega) ?_
  refine If_F ?_
  exact lf1 _ h
end
end Go.Proofs.YtjmdnjnjepinoaaGreatDoor
