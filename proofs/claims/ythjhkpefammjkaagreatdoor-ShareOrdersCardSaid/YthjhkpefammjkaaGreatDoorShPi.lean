/-
  Contracts and plain lemmas. By an AI agent.
-/
import Derived.Test.YthjhkpefammjkaaGreatDoorShPe
set_option linter.unusedSimpArgs false
set_option linter.unusedVariables false
set_option linter.unusedSectionVars false
namespace Go.Proofs.YthjhkpefammjkaaGreatDoor
open Go Go.Eng Go.Proofs Go.Num Go.RowKit Go.Shr
set_option maxRecDepth 100000
def thr : List Int := [0, 0, 0, 0, 0, 0, 0, 1]
abbrev qD (n d : Int) : Rat := (n : Rat) / (d : Rat)
theorem sa_a : shrs 2 [0, 6, 0, 10] = [qD 8 1, qD 2 1] := by decide +kernel
theorem sa_b : shrs 0 [5] = [] := by decide +kernel
theorem sa_c : shrs 1 [5, 7] = [qD 2 1] := by decide +kernel
theorem sa_d : shrs 3 thr = [qD 1 3, qD 1 3, qD 1 3] := by decide +kernel
theorem sa_e : clsV 3 thr = [[0, 1, 2]] := by decide +kernel
theorem sa_f : redV [[0, 1, 2]] thr = [0, 0, 0, 1] := by decide +kernel
theorem sa_g : shrsM [1, 2] [0, 6, 1, 7, 2, 8] = [qD 6 1, qD 1 1] := by decide +kernel
theorem sa_m : MgOk [1, 2] [0, 6, 1, 7, 2, 8] := ⟨by decide, by decide, by decide, by decide, by decide, by decide⟩
theorem sa_n : ¬ ∃ ks : List Nat, [(1 : Int)] = ks.map (fun (x : Nat) => (x : Int)) ∧ MgOk ks [1] := by
 rintro ⟨ks, h, hM⟩
 rcases ks with _ | ⟨a, _ | ⟨b, ks⟩⟩
 ·simp at h
 ·simp at h
  have : a = 1 := by omega
  subst this
  exact absurd hM.len (by decide)
 ·simp at h
theorem SLk.one {w : World} {v : Value} {l : List Nat} (h : SlN w v l) : SLk w [v] [l] := ⟨rfl, fun c u k hu hk => by
 rcases c with _ | c
 ·cases hu; cases hk; exact h
 ·simp at hu⟩
theorem sr_third : SR 1 1 (qD 1 3) := SR.of (n := 1) (d := 3) (by show (1 : Int).natAbs < 10 ^ 1; decide) (by show (3 : Int).natAbs < 10 ^ 1; decide) (by decide)
section
variable {w0 : World} (hT : Tab w0) (hF : FacV w0)
include hT hF
set_option maxHeartbeats 8000000 in
theorem c_sane : Calls Tryz.prog 11 #[] w0 (Ret fun r w' => Ext w0 w' ∧ r = .bool true) := by
 have cr1 : ∀ {W : World}, Ext w0 W → ∀ {v : Value}, SlC W 1 v 4 [.int .i64 0, .int .i64 6, .int .i64 0, .int .i64 10] → Calls Tryz.prog 13 #[v] W (Ret fun r w' => ∃ u, r = .tuple #[u, .int .i64 0] ∧ Hp [] W w' [ro tR 2 u 2 (qC [qD 8 1, qD 2 1])]) := fun {W} e {v} hs => by
  have := c_Shapley (w0 := W) (v := v) (l := [0, 6, 0, 10]) hs (n := 2) (by decide) rfl (by decide) (hT.ext e) (hF.ext e)
  rw [sa_a] at this; exact this
 have cr2 : ∀ {W : World}, Ext w0 W → ∀ {v : Value}, SlC W 1 v 1 [.int .i64 5] → Calls Tryz.prog 13 #[v] W (Ret fun r w' => ∃ u, r = .tuple #[u, .int .i64 0] ∧ Hp [] W w' [ro tR 2 u 0 (qC [])]) := fun {W} e {v} hs => by
  have := c_Shapley (w0 := W) (v := v) (l := [5]) hs (n := 0) (by decide) rfl (by decide) (hT.ext e) (hF.ext e)
  rw [sa_b] at this; exact this
 have cr3 : ∀ {W : World}, Ext w0 W → ∀ {v : Value}, SlC W 1 v 2 [.int .i64 5, .int .i64 7] → Calls Tryz.prog 13 #[v] W (Ret fun r w' => ∃ u, r = .tuple #[u, .int .i64 0] ∧ Hp [] W w' [ro tR 2 u 1 (qC [qD 2 1])]) := fun {W} e {v} hs => by
  have := c_Shapley (w0 := W) (v := v) (l := [5, 7]) hs (n := 1) (by decide) rfl (by decide) (hT.ext e) (hF.ext e)
  rw [sa_c] at this; exact this
 have cr4 : ∀ {W : World}, Ext w0 W → ∀ {v : Value}, SlC W 1 v 8 [.int .i64 0, .int .i64 0, .int .i64 0, .int .i64 0, .int .i64 0, .int .i64 0, .int .i64 0, .int .i64 1] → Calls Tryz.prog 13 #[v] W (Ret fun r w' => ∃ u, r = .tuple #[u, .int .i64 0] ∧ Hp [] W w' [ro tR 2 u 3 (qC [qD 1 3, qD 1 3, qD 1 3])]) := fun {W} e {v} hs => by
  have := c_Shapley (w0 := W) (v := v) (l := thr) hs (n := 3) (by decide) rfl (by decide) (hT.ext e) (hF.ext e)
  rw [sa_d] at this; exact this
 have cc1 : ∀ {W : World}, Ext w0 W → ∀ {v : Value}, SlC W 1 v 3 [.int .i64 1, .int .i64 2, .int .i64 3] → Calls Tryz.prog 13 #[v] W (Ret fun r w' => Ext W w' ∧ r = .tuple #[.slice none 0 0, .int .i64 250]) := fun {W} e {v} hs =>
  c_ShapleyE (w0 := W) (v := v) (l := [1, 2, 3]) hs (by decide) (by
   rintro ⟨n, hn, hl, _⟩
   rcases (show n = 0 ∨ n = 1 ∨ n = 2 ∨ n = 3 ∨ n = 4 ∨ n = 5 ∨ n = 6 by omega) with rfl | rfl | rfl | rfl | rfl | rfl | rfl <;> exact absurd hl (by decide))
 have cr5 : ∀ {W : World}, Ext w0 W → ∀ {sv v : Value}, SlC W 1 sv 2 [.int .i64 1, .int .i64 2] → SlC W 1 v 6 [.int .i64 0, .int .i64 6, .int .i64 1, .int .i64 7, .int .i64 2, .int .i64 8] → Calls Tryz.prog 27 #[sv, v] W (Ret fun r w' => ∃ u, r = .tuple #[u, .int .i64 0] ∧ Hp [] W w' [ro tR 2 u 2 (qC [qD 6 1, qD 1 1])]) := fun {W} e {sv v} hs hv => by
  have := c_Merged (w0 := W) (sv := sv) (v := v) (ks := [1, 2]) (l := [0, 6, 1, 7, 2, 8]) hs hv sa_m (hT.ext e) (hF.ext e)
  rw [sa_g] at this; exact this
 have cc2 : ∀ {W : World}, Ext w0 W → ∀ {sv v : Value}, SlC W 1 sv 1 [.int .i64 1] → SlC W 1 v 1 [.int .i64 1] → Calls Tryz.prog 27 #[sv, v] W (Ret fun r w' => Ext W w' ∧ r = .tuple #[.slice none 0 0, .int .i64 250]) := fun {W} e {sv v} hs hv =>
  c_MergedE (w0 := W) (sv := sv) (v := v) (xs := [1]) (l := [1]) hs hv (by decide) (by decide) sa_n
 have cc3 := fun {W : World} (e : Ext w0 W) => c_of (w := W) (n := 1) (d := 3) (hT.ext e) (by decide) (by decide) (by decide)
 have cc4 := fun {W : World} (e : Ext w0 W) => c_of (w := W) (n := 8) (d := 1) (hT.ext e) (by decide) (by decide) (by decide)
 have cc5 := fun {W : World} (e : Ext w0 W) => c_of (w := W) (n := 2) (d := 1) (hT.ext e) (by decide) (by decide) (by decide)
 have cc6 := fun {W : World} (e : Ext w0 W) => c_of (w := W) (n := 6) (d := 1) (hT.ext e) (by decide) (by decide) (by decide)
 have cc7 := fun {W : World} (e : Ext w0 W) => c_of (w := W) (n := 1) (d := 1) (hT.ext e) (by decide) (by decide) (by decide)
 have cc8 : ∀ {W : World}, Ext w0 W → ∀ {a b : Value}, SlC W 2 a 2 (qC [qD 8 1, qD 2 1]) → SlC W 2 b 2 (qC [qD 8 1, qD 2 1]) → Calls Tryz.prog 19 #[a, b] W (Ret fun r w' => Ext W w' ∧ r = .bool true) := fun {W} e {a b} ha hb =>
  c_same (w0 := W) (xs := [qD 8 1, qD 2 1]) (ys := [qD 8 1, qD 2 1]) ha hb (by decide) (by decide) (by simp)
 have cc9 : ∀ {W : World}, Ext w0 W → ∀ {a b : Value}, SlC W 2 a 1 (qC [qD 2 1]) → SlC W 2 b 1 (qC [qD 2 1]) → Calls Tryz.prog 19 #[a, b] W (Ret fun r w' => Ext W w' ∧ r = .bool true) := fun {W} e {a b} ha hb =>
  c_same (w0 := W) (xs := [qD 2 1]) (ys := [qD 2 1]) ha hb (by decide) (by decide) (by simp)
 have cc10 : ∀ {W : World}, Ext w0 W → ∀ {a b : Value}, SlC W 2 a 3 (qC [qD 1 3, qD 1 3, qD 1 3]) → SlC W 2 b 3 (qC [qD 1 3, qD 1 3, qD 1 3]) → Calls Tryz.prog 19 #[a, b] W (Ret fun r w' => Ext W w' ∧ r = .bool true) := fun {W} e {a b} ha hb =>
  c_same (w0 := W) (xs := [qD 1 3, qD 1 3, qD 1 3]) (ys := [qD 1 3, qD 1 3, qD 1 3]) ha hb (by decide) (by decide) (by simp)
 have cc11 : ∀ {W : World}, Ext w0 W → ∀ {a b : Value}, SlC W 2 a 2 (qC [qD 6 1, qD 1 1]) → SlC W 2 b 2 (qC [qD 6 1, qD 1 1]) → Calls Tryz.prog 19 #[a, b] W (Ret fun r w' => Ext W w' ∧ r = .bool true) := fun {W} e {a b} ha hb =>
  c_same (w0 := W) (xs := [qD 6 1, qD 1 1]) (ys := [qD 6 1, qD 1 1]) ha hb (by decide) (by decide) (by simp)
 have cc12 : ∀ {W : World}, Ext w0 W → ∀ {a b : Value}, SlC W 1 a 1 [.int .i64 3] → SlC W 1 b 1 [.int .i64 3] → Calls Tryz.prog 21 #[a, b] W (Ret fun r w' => Ext W w' ∧ r = .bool true) := fun {W} e {a b} ha hb =>
  c_ints (w0 := W) (xs := [3]) (ys := [3]) ha hb (by decide) (by decide) (by simp)
 have cc13 : ∀ {W : World}, Ext w0 W → ∀ {a b : Value}, SlC W 1 a 4 [.int .i64 0, .int .i64 0, .int .i64 0, .int .i64 1] → SlC W 1 b 4 [.int .i64 0, .int .i64 0, .int .i64 0, .int .i64 1] → Calls Tryz.prog 21 #[a, b] W (Ret fun r w' => Ext W w' ∧ r = .bool true) := fun {W} e {a b} ha hb =>
  c_ints (w0 := W) (xs := [0, 0, 0, 1]) (ys := [0, 0, 0, 1]) ha hb (by decide) (by decide) (by simp)
 have cc14 : ∀ {W : World}, Ext w0 W → ∀ {v u : Value}, SlC W 1 v 8 (thr.flatMap fI) → SlC W 2 u 3 (qC [qD 1 3, qD 1 3, qD 1 3]) → Calls Tryz.prog 24 #[v, u] W (Ret fun r w' => Ext W w' ∧ r = .bool true) := fun {W} e {v u} hv hu =>
  c_Check (w0 := W) (v := v) (l := thr) hv (by decide) (n := 3) (by decide) rfl (by decide) (hT.ext e) (hF.ext e) (ys := [qD 1 3, qD 1 3, qD 1 3]) hu (by decide) (by simp [sa_d])
 have cc15 : ∀ {W : World}, Ext w0 W → ∀ {v u : Value}, SlC W 1 v 8 (thr.flatMap fI) → SlC W 2 u 1 (qC [qD 2 1]) → Calls Tryz.prog 24 #[v, u] W (Ret fun r w' => Ext W w' ∧ r = .bool false) := fun {W} e {v u} hv hu =>
  c_Check (w0 := W) (v := v) (l := thr) hv (by decide) (n := 3) (by decide) rfl (by decide) (hT.ext e) (hF.ext e) (ys := [qD 2 1]) hu (by decide) (by simp [sa_d])
 have cc16 := fun {W : World} (e : Ext w0 W) => o_valid (w := W) (o := some (qD 1 3)) (.some (sr_third.rb (by decide) (by decide))) (hT.ext e)
 apply e_law25_sane
 unfold s_law25_sane
 have h := Hp.init [] w0
 refine bsN (vs := [_, _, _, _, _, _, _, _]) h (.cons (by rfl) (by rfl) (.cons (by rfl) (by rfl) (.cons (by rfl) (by rfl) (.cons (by rfl) (by rfl) (.cons (by rfl) (by rfl) (.cons (by rfl) (by rfl) (.cons (by rfl) (by rfl) (.cons (by rfl) (by rfl) .nil)))))))) (by rfl) (by rfl) (by decide) (by decide) (by decide) fun v1 w h => ?_
 refine bsN (vs := [_, _, _, _]) h (.cons (by rfl) (by rfl) (.cons (by rfl) (by rfl) (.cons (by rfl) (by rfl) (.cons (by rfl) (by rfl) .nil)))) (by rfl) (by rfl) (by decide) (by decide) (by decide) fun v2 w h => ?_
 refine clR h n_share_Shapley (cr1 h.ext (by first | exact (qZ 0 h rfl) | assumption)) fun v3 w h => ?_
 refine Ex2 (bs1A h (by rfl) (by decide) (by rfl) (by decide) fun v4 w h => ?_)
 refine clR h n_share_Shapley (cr2 h.ext (by first | exact (qZ 0 h rfl) | assumption)) fun v5 w h => ?_
 refine Ex2 (bsN (vs := [_, _]) h (.cons (by rfl) (by rfl) (.cons (by rfl) (by rfl) .nil)) (by rfl) (by rfl) (by decide) (by decide) (by decide) fun v6 w h => ?_)
 refine clR h n_share_Shapley (cr3 h.ext (by first | exact (qZ 0 h rfl) | assumption)) fun v7 w h => ?_
 refine Ex2 (clR h n_share_Shapley (cr4 h.ext (by first | exact (qZ 6 h rfl) | assumption)) fun v8 w h => ?_)
 refine Ex2 ?_
 have h : Hp [] w0 w [ro tR 2 v8 3 (qC [qD 1 3, qD 1 3, qD 1 3]), ro tR 2 v7 1 (qC [qD 2 1]), ro tR 2 v5 0 (qC []), ro tR 2 v3 2 (qC [qD 8 1, qD 2 1]), ro tI 1 v1 8 (thr.flatMap fI)] := h.pick [0, 1, 3, 5, 7] (by decide) rfl
 refine Cl_i n_share_Classes (c_Classes (l := thr) (qZ 4 h rfl) (n := 3) (by decide) rfl (by decide)) ?_
 rintro _ w1 ⟨uc, vs, kz, rfl, h'⟩
 rw [sa_e] at h'
 have hvl : vs.length = 1 := (h'.get (i := 1) rfl).1
 have h := h.cat2 h' ro_sm sls_sm
 refine Ex2 (Cl_i n_share_Reduce (c_Reduce (l := thr) (qZ 6 h rfl) (n := 3) (by decide) rfl (by decide)) ?_)
 rintro _ w2 ⟨ra, rb, rfl, h'⟩
 rw [sa_e, sa_f] at h'
 have h := h.cat2 h' ro_sm ro_sm
 clear h'
 refine Ex3 (bsN (vs := [_, _]) h (.cons (by rfl) (by rfl) (.cons (by rfl) (by rfl) .nil)) (by rfl) (by rfl) (by decide) (by decide) (by decide) fun v9 w h => ?_)
 refine bsN (vs := [_, _, _, _, _, _]) h (.cons (by rfl) (by rfl) (.cons (by rfl) (by rfl) (.cons (by rfl) (by rfl) (.cons (by rfl) (by rfl) (.cons (by rfl) (by rfl) (.cons (by rfl) (by rfl) .nil)))))) (by rfl) (by rfl) (by decide) (by decide) (by decide) fun v10 w h => ?_
 refine clR h n_share_Merged (cr5 h.ext (by first | exact (qZ 1 h rfl) | assumption) (by first | exact (qZ 0 h rfl) | assumption)) fun v11 w h => ?_
 refine Ex2 (bsN (vs := [_, _, _]) h (.cons (by rfl) (by rfl) (.cons (by rfl) (by rfl) (.cons (by rfl) (by rfl) .nil))) (by rfl) (by rfl) (by decide) (by decide) (by decide) fun v12 w h => ?_)
 refine cl1 h n_share_Shapley (cc1 h.ext (by first | exact (qZ 0 h rfl) | assumption)) fun w h => ?_
 refine Ex2 (bs1A h (by rfl) (by decide) (by rfl) (by decide) fun v13 w h => ?_)
 refine bs1A h (by rfl) (by decide) (by rfl) (by decide) fun v14 w h => ?_
 refine cl1 h n_share_Merged (cc2 h.ext (by first | exact (qZ 1 h rfl) | assumption) (by first | exact (qZ 0 h rfl) | assumption)) fun w h => ?_
 refine Ex2 (Bn_eqT (by omega) (Gd_T (Gd_T (Bn_eqT (by omega) (Pick_T (Gd_T (Gd_T (Bn_eqT (by omega) (Pick_T (Gd_T (Gd_T (Bn_eqT (by omega) (Pick_T (Gd_T (Gd_T (Bn_eqT (by omega) (Pick_T (Gd_T (Gd_T (Bn_eqT (by omega) (Pick_T (Gd_T (Gd_T (Bn_eqT (by omega) (Pick_T (Gd_T (Gd_T (Bn_eqT (by omega) (Pick_T (Gd_T (Gd_T (Bn_eqT (by omega) (Pick_T (cl1 h n_law25_of (cc3 h.ext) fun w h => ?_))))))))))))))))))))))))))))))))))
 refine alS h fun g1 w h => ?_
 refine stA h 0 rfl rfl rfl rfl fun w h => ?_
 refine cl1 h n_law25_of (cc4 h.ext) fun w h => ?_
 refine cl1 h n_law25_of (cc5 h.ext) fun w h => ?_
 refine bsN (vs := [_, _]) h (.cons (by rfl) (by rfl) (.cons (by rfl) (by rfl) .nil)) (by rfl) (by rfl) (by decide) (by decide) (by decide) fun v15 w h => ?_
 refine cl1 h n_law25_same (cc8 h.ext (by first | exact (qZ 15 h rfl) | assumption) (by first | exact (qZ 0 h rfl) | assumption)) fun w h => ?_
 refine Gd_T (Gd_T (leS (qZ 14 h rfl) ?_))
 refine Gd_T (Bn_eqT (by omega) (Pick_T (Gd_T (Gd_T (cl1 h n_law25_of (cc5 h.ext) fun w h => ?_)))))
 refine Gd_T (bs1A h (by rfl) (by decide) (by rfl) (by decide) fun v16 w h => ?_)
 refine Gd_T (cl1 h n_law25_same (cc9 h.ext (by first | exact (qZ 14 h rfl) | assumption) (by first | exact (qZ 0 h rfl) | assumption)) fun w h => ?_)
 refine Pick_T (Gd_T (Gd_T (ldA h 2 rfl rfl ?_)))
 refine Gd_T (ldA h 2 rfl rfl ?_)
 refine Gd_T (ldA h 2 rfl rfl ?_)
 refine Gd_T (bsN (vs := [_, _, _]) h (.cons (by rfl) (by rfl) (.cons (by rfl) (by rfl) (.cons (by rfl) (by rfl) .nil))) (by rfl) (by rfl) (by decide) (by decide) (by decide) fun v17 w h => ?_)
 refine Gd_T (cl1 h n_law25_same (cc10 h.ext (by first | exact (qZ 14 h rfl) | assumption) (by first | exact (qZ 0 h rfl) | assumption)) fun w h => ?_)
 refine Pick_T (Gd_T (Gd_T (cl1 h n_law25_of (cc6 h.ext) fun w h => ?_)))
 refine Gd_T (cl1 h n_law25_of (cc7 h.ext) fun w h => ?_)
 refine Gd_T (bsN (vs := [_, _]) h (.cons (by rfl) (by rfl) (.cons (by rfl) (by rfl) .nil)) (by rfl) (by rfl) (by decide) (by decide) (by decide) fun v18 w h => ?_)
 refine Gd_T (cl1 h n_law25_same (cc11 h.ext (by first | exact (qZ 8 h rfl) | assumption) (by first | exact (qZ 0 h rfl) | assumption)) fun w h => ?_)
 refine Pick_T (Gd_T (Pick_T (Gd_T (Gd_T (bsN (vs := [_, _, _]) h (.cons (by rfl) (by rfl) (.cons (by rfl) (by rfl) (.cons (by rfl) (by rfl) .nil))) (by rfl) (by rfl) (by decide) (by decide) (by decide) fun v19 w h => ?_)))))
 refine Gd_T ?_
 dsimp only [List.set] at h
 refine bs1w h (by rfl) (qZ 0 h rfl) fun v20 w h => ?_
 refine Gd_T (Cl_i n_law25_sets (c_sets (vs := vs) (vs' := [v19]) (ls := [[0, 1, 2]]) (ls' := [[0, 1, 2]]) (qZ 15 h rfl) (qZ 0 h rfl) (sls_k (h.get (i := 16) rfl)) (SLk.one (qZ 1 h rfl)) (by decide) (by decide) (by simp) (by simp) (b := true) (by simp)) ?_)
 rintro _ w ⟨x, rfl⟩
 have h := h.x x
 refine Pick_T (Gd_T (Gd_T (bs1A h (by rfl) (by decide) (by rfl) (by decide) fun v21 w h => ?_)))
 refine Gd_T (cl1 h n_law25_ints (cc12 h.ext (by first | exact (qZ 15 h rfl) | assumption) (by first | exact (qZ 0 h rfl) | assumption)) fun w h => ?_)
 refine Pick_T (Gd_T (Gd_T (bsN (vs := [_, _, _, _]) h (.cons (by rfl) (by rfl) (.cons (by rfl) (by rfl) (.cons (by rfl) (by rfl) (.cons (by rfl) (by rfl) .nil)))) (by rfl) (by rfl) (by decide) (by decide) (by decide) fun v22 w h => ?_)))
 refine Gd_T (cl1 h n_law25_ints (cc13 h.ext (by first | exact (qZ 15 h rfl) | assumption) (by first | exact (qZ 0 h rfl) | assumption)) fun w h => ?_)
 refine Pick_T (Gd_T (Gd_T (Gd_T (cl1 h n_share_Check (cc14 h.ext (by first | exact (qZ 23 h rfl) | assumption) (by first | exact (qZ 19 h rfl) | assumption)) fun w h => ?_))))
 refine Pick_T (Gd_T (Gd_T (Gd_T (cl1 h n_share_Check (cc15 h.ext (by first | exact (qZ 23 h rfl) | assumption) (by first | exact (qZ 20 h rfl) | assumption)) fun w h => ?_))))
 refine Gd_T (Un_F (Pick_T (Gd_T (ldA h 8 rfl rfl ?_))))
 refine Gd_T (cl1 h n_rational_Valid (cc16 h.ext) fun w h => ?_)
 refine Pick_T ?_
 exact Ret.mk ⟨h.ext, rfl⟩
end
theorem wrap_I64 (n : Int) : I64 (IntKind.i64.wrap n) := by
 rw [IntKind.wrap_i64]
 constructor <;> omega
theorem Bn_adW {P : Program} {t : TypeId} {c : Bool} {w : World} {K : Value → World → Prop} {x y : Int} (hk : K (.int .i64 (IntKind.i64.wrap (x + y))) w) : Bn P .add t c (.int .i64 x) (.int .i64 y) w K := by
 refine V_of (v := .int .i64 (IntKind.i64.wrap (x + y))) (w' := w) ?_ hk
 simp [eqG, eqGuard, binOp, Op.intArith]
theorem Jn1.cut {A : (Value → World → Prop) → Prop} {B : Value → World → Prop} (I : Value → World → Prop) (hB : ∀ a w, I a w → B a w) (hA : ∀ K : Value → World → Prop, (∀ a w, I a w → K a w) → A K) : Jn1 A B :=
 Jn1.mk fun K lf => hA K fun a w hI => lf a w (hB a w hI)
theorem tdiv2_I64 {x : Int} (h : I64 x) : I64 (x.tdiv 2) := by
 have := tdiv_bd h.1 h.2 (show (0 : Int) < 2 by decide)
 exact ⟨this.1, this.2⟩
theorem pk_nat {c n : Int} (hn : 0 < n) : ∃ m : Nat, pk c n = m ∧ (m : Int) < n := by
 have := pk_bd (c := c) hn
 exact ⟨(pk c n).toNat, by omega, by omega⟩
abbrev mdOk (x : Int) : Prop := -10 ≤ x ∧ x ≤ 49
theorem mdOk_w {l : List Int} (h : ∀ x ∈ l, mdOk x) : ∀ x ∈ l, wOk x := fun x hx => by
 have h1 := (h x hx).1
 have h2 := (h x hx).2
 exact ⟨by omega, by omega⟩
section
variable {w0 : World} {n al : Int} {v : Value} {xs : List Int} (hn : I64 n) (ha : I64 al) (hv : SlC w0 1 v xs.length (xs.flatMap fI)) (hl : xs.length ≤ 9223372036854775807) (hx : ∀ x ∈ xs, I64 x)
include hn ha hv hl hx
set_option maxHeartbeats 4000000 in
theorem c_Made {m : Nat} (hm : pk n 6 = m) : Calls Tryz.prog 12 #[.int .i64 n, v, .int .i64 al] w0 (Ret fun r w' => ∃ u, r = u ∧ ∃ l : List Int, l.length = 2 ^ m ∧ (∀ x ∈ l, mdOk x) ∧ Hp [] w0 w' [ro tI 1 u (2 ^ m) (l.flatMap fI)]) := by
 have hm6 : m < 6 := by have := (pk_bd (c := n) (n := 6) (by decide)).2; omega
 have p2 : 2 ^ m ≤ 32 := Nat.pow_le_pow_right (n := 2) (by decide) (show m ≤ 5 by omega)
 have cc1 : ∀ {W : World}, Ext w0 W → Calls Tryz.prog 36 #[.int .i64 n, .int .i64 6] W (Ret fun r w' => Ext W w' ∧ r = .int .i64 (m : Int)) := fun {W} _ => by
  have := c_fpick (w := W) (c := n) (n := 6) hn (by decide) (by decide)
  rw [hm] at this; exact this
 apply e_ref25_Made
 unfold s_ref25_Made
 have h := Hp.init [] w0
 refine cl1 h n_ref25_pick (cc1 h.ext) fun w h => ?_
 clear cc1
 have h := h.nil tI 1
 refine Lp2.mk (fun u i W => ∃ (s : Nat) (l : List Int), s ≤ 2 ^ m ∧ l.length = s ∧ (∀ x ∈ l, mdOk x) ∧ i = .int .i64 s ∧ Hp [] w0 W [ro tI 1 u s (l.flatMap fI)]) (fun _ i _ => match i with | .int _ i' => 2 ^ m - i'.toNat | _ => 0) ⟨0, [], Nat.zero_le _, rfl, by simp, rfl, h⟩ ?_
 clear h
 rintro u _ W ⟨s, l, hs, hls, hlo, rfl, h⟩
 refine Exists.elim (p := fun q => 2 ^ m = q) ⟨_, rfl⟩ fun q hq => ?_
 rw [hq] at hs p2
 by_cases hsl : s < q
 ·refine Bn_slA (by omega) ‹_› ?_
  refine Bn_ltT (by omega) (If_T ?_)
  refine Jn1.cut (fun a W => ∃ i : Nat, i ≤ 48 ∧ a = .int .i64 i ∧ Hp [] w0 W [ro tI 1 u s (l.flatMap fI)]) ?_ ?_
  ·clear h
   rintro _ w ⟨i, hi, rfl, h⟩
   have fin : ∀ {w1 : World} {u1 : Value} {y : Int}, mdOk y → Hp [] w0 w1 [ro tI 1 u1 (s + 1) (l.flatMap fI ++ [.int .i64 y])] →
    (∃ (s' : Nat) (l' : List Int), s' ≤ 2 ^ m ∧ l'.length = s' ∧ (∀ x ∈ l', mdOk x) ∧ (Value.int .i64 ((s : Int) + 1)) = .int .i64 s' ∧ Hp [] w0 w1 [ro tI 1 u1 s' (l'.flatMap fI)]) ∧ 2 ^ m - ((s : Int) + 1).toNat < 2 ^ m - (s : Int).toNat := fun {w1 u1 y} hy hh =>
    ⟨⟨s + 1, l ++ [y], by omega, by simp [hls], fun x hx => (List.mem_append.1 hx).elim (hlo x) (fun e => by rw [List.mem_singleton] at e; rw [e]; exact hy), rfl, by rw [List.flatMap_append]; exact hh⟩, by omega⟩
   by_cases h0 : xs.length = 0
   ·refine leS (hv.hp h) ?_
    refine Bn_gtF (by omega) (If_F (bs1A h (by rfl) (by decide) (by rfl) (by decide) fun v1 w h => ?_))
    refine apR (by rfl) (by decide) h 1 rfl (qZ 0 h rfl) (by first | rfl | assumption) (by omega) fun v2 w h => ?_
    refine Bn_ad (by omega) (by omega) ?_
    dsimp only [List.set] at h
    exact fin (y := 0) ⟨by decide, by decide⟩ (h.pick [1] (by decide) rfl)
   ·refine Exists.elim (p := fun r => i % xs.length = r) ⟨_, rfl⟩ fun r hr => ?_
    have hil : r < xs.length := by rw [← hr]; exact Nat.mod_lt _ (by omega)
    have sx : Seg (xs.flatMap fI) (r * 1) (fI (g xs r)) := flat_seg (f := fI) (fun _ => rfl) (g_get hil)
    refine leS (hv.hp h) ?_
    refine Bn_gtT (by omega) (If_T ?_)
    replace h := h.dr
    refine dlS (hv.hp h) ?_
    refine dvBx (v := .int .i64 (r : Int)) (fun w K hk => Bn_rm (by omega) (by omega) (by rw [show (i : Int) % (xs.length : Int) = (r : Int) by rw [← hr]; rfl]; exact hk)) ?_
    refine diH h hv (j := r) hil fun zb zo zk zv zc => ?_
    refine dh0 h zc sx rfl ?_
    refine dlS (hv.hp h) ?_
    refine Dv_qt (by omega) (by omega) (by omega) (dvBx (fun w K hk => Bn_adW hk) ?_)
    have hb := pk_bd (c := IntKind.i64.wrap (g xs r + (i : Int).tdiv (xs.length : Int))) (n := 60) (by decide)
    refine cl1 h n_ref25_pick (c_fpick (wrap_I64 _) (by decide) (by decide)) fun w h => ?_
    refine Dv_su (by omega) (by omega) (bs1A h (by rfl) (by decide) (by rfl) (by decide) fun v1 w h => ?_)
    refine apR (by rfl) (by decide) h 1 rfl (qZ 0 h rfl) (by first | rfl | assumption) (by omega) fun v2 w h => ?_
    refine Bn_ad (by omega) (by omega) ?_
    dsimp only [List.set] at h
    exact fin (y := pk (IntKind.i64.wrap (g xs r + (i : Int).tdiv (xs.length : Int))) 60 - 10) ⟨by omega, by omega⟩ (h.pick [1] (by decide) rfl)
  ·intro K lf
   by_cases h1 : pk al 2 = 1
   ·have cc1 := fun {W : World} (_ : Ext w0 W) => c_fpick (w := W) (c := al) (n := 2) ha (by decide) (by decide)
    rw [h1] at cc1
    refine Exists.elim (pk_nat (c := al.tdiv 2) (n := (m : Int) + 1) (by omega)) fun ct hct => ?_
    have hct2 := hct.2
    have cc2 := fun {W : World} (_ : Ext w0 W) => c_fpick (w := W) (c := al.tdiv 2) (n := (m : Int) + 1) (tdiv2_I64 ha) (by omega) (by omega)
    rw [hct.1] at cc2
    refine Exists.elim (p := fun r => 2 ^ ct = r) ⟨_, rfl⟩ fun pc hpc => ?_
    have hpc0 : 0 < pc := by rw [← hpc]; exact Nat.two_pow_pos ct
    refine Exists.elim (p := fun r => s % pc = r) ⟨_, rfl⟩ fun r1 hr1 => ?_
    refine Exists.elim (p := fun r => s / 2 ^ ct = r) ⟨_, rfl⟩ fun r2 hr2 => ?_
    have hr1s : r1 ≤ s := by rw [← hr1]; exact Nat.mod_le _ _
    have hr2s : r2 ≤ s := by rw [← hr2]; exact Nat.div_le_self _ _
    have cc3 := fun {W : World} (_ : Ext w0 W) => c_members (w0 := W) (s := r1) (by omega)
    have cc4 := fun {W : World} (_ : Ext w0 W) => c_members (w0 := W) (s := r2) (by omega)
    have ho : ∀ s, s < 64 → ones 6 s ≤ 6 := by decide +kernel
    have ho1 := ho r1 (by omega)
    have ho2 := ho r2 (by omega)
    refine cl1 h n_ref25_pick (cc1 h.ext) fun w h => ?_
    refine Bn_eqT (by omega) (If_T (Bn_qt (by omega) (by omega) (by omega) (Bn_ad (by omega) (by omega) (cl1 h n_ref25_pick (cc2 h.ext) fun w h => ?_))))
    replace h := h.dr
    refine dvBx (fun w K hk => Bn_slA (j := ct) (s := pc) (by omega) hpc hk) ?_
    refine dvBx (v := .int .i64 (r1 : Int)) (fun w K hk => Bn_rm (by omega) (by omega) (by rw [show (s : Int) % (pc : Int) = (r1 : Int) by rw [← hr1]; rfl]; exact hk)) ?_
    refine dvBx (fun w K hk => Bn_srA (j := ct) (s := r2) (by omega) hr2 hk) ?_
    refine cl1 h n_ref25_members (cc3 h.ext) fun w h => ?_
    refine cl1 h n_ref25_members (cc4 h.ext) fun w h => ?_
    refine Dv_mu (by omega) (by omega) (Dv_ad (by omega) (by omega) ?_)
    exact lf _ _ ⟨ones 6 r1 + 7 * ones 6 r2, by omega, rfl, h⟩
   ·have h2 : pk al 2 = 0 := by have := pk_bd (c := al) (n := 2) (by decide); omega
    have cc1 := fun {W : World} (_ : Ext w0 W) => c_fpick (w := W) (c := al) (n := 2) ha (by decide) (by decide)
    rw [h2] at cc1
    refine cl1 h n_ref25_pick (cc1 h.ext) fun w h => ?_
    refine Bn_eqF (by omega) (If_F ?_)
    exact lf _ _ ⟨s, by omega, rfl, h⟩
 ·have e : s = 2 ^ m := by omega
  rw [e] at h hls
  refine Bn_slA (by omega) ‹_› ?_
  refine Bn_ltF (by omega) (If_F ?_)
  exact Ret.mk ⟨_, rfl, l, hls, hlo, h⟩
end
end Go.Proofs.YthjhkpefammjkaaGreatDoor
