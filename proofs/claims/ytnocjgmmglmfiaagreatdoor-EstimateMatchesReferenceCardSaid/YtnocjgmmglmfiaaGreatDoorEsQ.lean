/-
  Contracts and plain lemmas. By an AI agent.
-/
import Derived.Test.YtnocjgmmglmfiaaGreatDoorEsM
set_option linter.unusedSimpArgs false
set_option linter.unusedVariables false
set_option linter.unusedSectionVars false
namespace Go.Proofs.YtnocjgmmglmfiaaGreatDoor
open Go Go.Eng Go.Proofs Go.Num Go.RowKit
set_option maxRecDepth 100000
set_option linter.unusedVariables false
set_option linter.unusedSectionVars false
theorem div_pow_succ (k n : Nat) : k / 2 / 2 ^ n = k / 2 ^ (n + 1) := by
  rw [Nat.div_div_eq_div_mul, Nat.pow_succ, Nat.mul_comm]
theorem kept_snoc : ∀ (l : List El) (k : Nat) (e : El), kept k (l ++ [e]) = kept k l ++ (if (k / 2 ^ l.length) % 2 = 1 then [e] else [])
  | [], k, e => by
    simp [kept]
  | a :: l, k, e => by
    simp only [List.cons_append, kept, kept_snoc l (k / 2) e, List.length_cons, div_pow_succ]
    split <;> rfl
theorem oW_snoc : ∀ (l : List El) (k : Nat) (e : El) (w : Option Rat), oW k (l ++ [e]) w = (if (k / 2 ^ l.length) % 2 = 1 then oMul (oW k l w) (some e.2) else oMul (oW k l w) (oSub (some 1) (some e.2)))
  | [], k, e, w => by
    simp [oW]
  | a :: l, k, e, w => by
    simp only [List.cons_append, oW, oW_snoc l (k / 2) e, List.length_cons, div_pow_succ]
theorem take_len {α : Type} {l : List α} {j : Nat} (h : j ≤ l.length) : (l.take j).length = j := by rw [List.length_take]; omega
theorem ob_w (k : Nat) (l : List El) : OB (oW k l (some 1)) := oW_B ob1
set_option maxHeartbeats 2000000 in
theorem c_choice {w0 : World} {vx vp : Value} {l : List El} {k : Nat} (hx : SlC w0 2 vx l.length (l.flatMap fX)) (hp : SlC w0 2 vp l.length (l.flatMap fP)) (hok : ∀ e ∈ l, El.ok e) (hlen : l.length ≤ 60) :
    Calls Tryz.prog 50 #[vx, vp, .int .i64 (k : Int)] w0 (Ret fun r w' => Ext w0 w' ∧ r = .tuple #[ov (oW k l (some 1)), ov (oEst (kept k l)), ov (oEsd (kept k l))]) := by
  apply e_ref16_choice
  unfold s_ref16_choice
  have h := Hp.init [] w0
  have cc1 := fun {W : World} (h : Ext w0 W) => o_w1 (w := W)
  refine alS h fun g1 w h => ?_
  refine alS h fun g2 w h => ?_
  refine alS h fun g3 w h => ?_
  refine cl1 h n_ref16_whole (cc1 h.ext) fun w h => ?_
  refine alS h fun g4 w h => ?_
  refine stA h 0 rfl rfl rfl rfl fun w h => ?_
  dsimp only [List.set] at h
  have h := (h.nil tR 2).nil tR 2
  refine Lp3.mk (fun y q i W => ∃ j : Nat, j ≤ l.length ∧ i = .int .i64 j ∧ Hp [] w0 W [ro tR 2 y (kept k (l.take j)).length ((kept k (l.take j)).flatMap fX), ro tR 2 q (kept k (l.take j)).length ((kept k (l.take j)).flatMap fP), bx g4 tR (fO (oW k (l.take j) (some 1))), bx g3 tR (fO none), bx g2 tR (fO none), bx g1 tR (fO none)])
    (fun _ _ i _ => match i with | .int _ i' => l.length - i'.toNat | _ => 0) ⟨0, by omega, rfl, h⟩ ?_
  clear h
  rintro y q _ W ⟨j, hj, rfl, h⟩
  have hkl := kept_len (l.take j) k
  rw [take_len hj] at hkl
  by_cases hjl : j < l.length
  rotate_left
  · have : l.take j = l := List.take_of_length_le (by omega)
    rw [this] at h
    refine leS (hx.hp h) ?_
    refine Bn_ltF (by omega) ?_
    refine If_F ?_
    refine cl1 h n_ref16_total (c_ftotal (h.sl (i := 0) rfl) (h.sl (i := 1) rfl) (fun e he => hok e (kept_sub l k e he)) (by have := kept_len l k; omega)) fun w h => ?_
    refine Ex2 ?_
    refine alS h fun g5 w h => ?_
    refine alS h fun g6 w h => ?_
    refine stA h 1 rfl rfl rfl rfl fun w h => ?_
    refine stA h 0 rfl rfl rfl rfl fun w h => ?_
    replace h := h.dr
    refine dlA h 4 rfl rfl ?_
    refine dlA h 1 rfl rfl ?_
    refine dlA h 0 rfl rfl ?_
    refine stA h 7 rfl rfl rfl rfl fun w h => ?_
    refine klA h 1 rfl rfl ?_
    refine klA h 0 rfl rfl ?_
    refine stA h 6 rfl rfl rfl rfl fun w h => ?_
    refine klA h 0 rfl rfl ?_
    refine stA h 5 rfl rfl rfl rfl fun w h => ?_
    refine rcA h 7 rfl rfl ?_
    refine rcA h 6 rfl rfl ?_
    refine rcA h 5 rfl rfl ?_
    dsimp only [List.set] at h
    exact Ret.mk ⟨h.ext, rfl⟩
  refine Exists.elim (p := fun a => l[j]? = some a) ⟨_, List.getElem?_eq_getElem hjl⟩ fun e he => ?_
  refine Exists.elim (p := fun s => k / 2 ^ j = s) ⟨_, rfl⟩ fun s hs => ?_
  have sx : Seg (l.flatMap fX) (j * 2) (fX e) := flat_seg (f := fX) (fun _ => rfl) he
  have sp : Seg (l.flatMap fP) (j * 2) (fP e) := flat_seg (f := fP) (fun _ => rfl) he
  have ho := hok e (List.mem_of_getElem? he)
  have ox : OB (some e.1) := .some ho.1
  have op : OB (some e.2) := .some ho.2
  have hkt := kept_snoc (l.take j) k e
  have hwt := oW_snoc (l.take j) k e (some 1)
  rw [take_len hj, hs, ← take_snoc he] at hkt hwt
  by_cases hb : s % 2 = 1
  · rw [if_pos hb] at hkt hwt
    have cc2 : ∀ {W : World}, Ext w0 W → Calls Tryz.prog 44 #[ov (oW k (l.take j) (some 1)), ov (some e.2)] W (Ret fun r w' => Ext W w' ∧ r = ov (oW k (l.take (j + 1)) (some 1))) := fun _ => by
      rw [hwt]; exact r_mul (ob_w k _) op
    refine leS (hx.hp h) ?_
    refine Bn_ltT (by omega) ?_
    refine If_T ?_
    refine Bn_srA (by omega) (by assumption) ?_
    refine Bn_rm (by omega) (by omega) ?_
    refine Bn_eqT (by omega) ?_
    refine If_T ?_
    replace h := h.dr
    refine dlA h 2 rfl rfl ?_
    refine diH h (by assumption) (by omega) fun zb zo zk zv zc => ?_
    refine dhA h (by assumption) (by assumption) (by rfl) ?_
    refine cl1 h n_ref16_mul (cc2 h.ext) fun w h => ?_
    refine stA h 2 rfl rfl rfl rfl fun w h => ?_
    refine iaH h (by assumption) (by omega) fun zb zo zk zv zc => ?_
    refine lhA h (by assumption) (by assumption) (by rfl) ?_
    refine bs1A h (by rfl) (by decide) (by rfl) (by decide) fun v1 w h => ?_
    refine apR (by rfl) (by decide) h 1 rfl (h.sl (i := 0) rfl) (by first | rfl | assumption) (by omega) fun v2 w h => ?_
    refine iaH h (by assumption) (by omega) fun zb zo zk zv zc => ?_
    refine lhA h (by assumption) (by assumption) (by rfl) ?_
    refine bs1A h (by rfl) (by decide) (by rfl) (by decide) fun v3 w h => ?_
    refine apR (by rfl) (by decide) h 3 rfl (h.sl (i := 0) rfl) (by first | rfl | assumption) (by omega) fun v4 w h => ?_
    refine Bn_ad (by omega) (by omega) ?_
    dsimp only [List.set] at h
    have h := h.drop 2
    refine ⟨⟨j + 1, by omega, rfl, ?_⟩, by show l.length - ((j : Int) + 1).toNat < l.length - (j : Int).toNat; omega⟩
    rw [hkt]
    simp only [List.flatMap_append, List.flatMap_cons, List.flatMap_nil, List.append_nil, List.length_append, List.length_cons, List.length_nil]
    exact h
  · rw [if_neg hb] at hkt hwt
    have cc2 := fun {W : World} (h : Ext w0 W) => r_sub (w := W) ob1 op
    have cc3 : ∀ {W : World}, Ext w0 W → Calls Tryz.prog 44 #[ov (oW k (l.take j) (some 1)), ov (oSub (some 1) (some e.2))] W (Ret fun r w' => Ext W w' ∧ r = ov (oW k (l.take (j + 1)) (some 1))) := fun _ => by
      rw [hwt]; exact r_mul (ob_w k _) (oBin_B fit_sub _ _)
    refine leS (hx.hp h) ?_
    refine Bn_ltT (by omega) ?_
    refine If_T ?_
    refine Bn_srA (by omega) (by assumption) ?_
    refine Bn_rm (by omega) (by omega) ?_
    refine Bn_eqF (by omega) ?_
    refine If_F ?_
    replace h := h.dr
    refine dlA h 2 rfl rfl ?_
    refine diH h (by assumption) (by omega) fun zb zo zk zv zc => ?_
    refine dhA h (by assumption) (by assumption) (by rfl) ?_
    refine cl1 h n_ref16_whole (cc1 h.ext) fun w h => ?_
    refine klA h 2 rfl rfl ?_
    refine khA h (by assumption) (by assumption) (by rfl) ?_
    refine cl1 h n_ref16_sub (cc2 h.ext) fun w h => ?_
    refine klA h 2 rfl rfl ?_
    refine cl1 h n_ref16_mul (cc3 h.ext) fun w h => ?_
    refine stA h 2 rfl rfl rfl rfl fun w h => ?_
    refine Bn_ad (by omega) (by omega) ?_
    dsimp only [List.set] at h
    refine ⟨⟨j + 1, by omega, rfl, ?_⟩, by show l.length - ((j : Int) + 1).toNat < l.length - (j : Int).toNat; omega⟩
    rw [hkt, List.append_nil]
    exact h
noncomputable def expL (l : List El) : Option (Rat × Rat × Rat) := if l.length ≤ 10 then (oExpE l (2 ^ l.length)).bind fun m => (oExpV l (some m) (2 ^ l.length)).bind fun v => (oExpD l (2 ^ l.length)).map fun d => (m, v, d) else none
noncomputable def expO (lx lp : List RS) : Option (Rat × Rat × Rat) := (elsOf lx lp).bind expL
def expV : Option (Rat × Rat × Rat) → Value
  | some (a, b, c) => .tuple #[ov (some a), ov (some b), ov (some c), e0]
  | none => .tuple #[ov none, ov none, ov none, e160]
theorem exp_n {lx lp : List RS} (h : elsOf lx lp = none) : expO lx lp = none := by unfold expO; rw [h]; rfl
theorem exp_s {lx lp : List RS} {l : List El} (h : elsOf lx lp = some l) : expO lx lp = expL l := by unfold expO; rw [h]; rfl
theorem oSumN_B {G : Nat → Option Rat} : ∀ n, OB (oSumN G n)
  | 0 => .some rb0
  | n + 1 => oBin_B fit_add _ _
theorem two10 {n : Nat} (h : n ≤ 10) : 2 ^ n ≤ 1024 := Nat.pow_le_pow_right (by decide) h
set_option maxHeartbeats 2000000 in
theorem c_fExpect {w0 : World} {vx vp : Value} {lx lp : List RS} (hx : SlR w0 vx lx) (hp : SlR w0 vp lp) (kx : RSok lx) (kp : RSok lp) :
    Calls Tryz.prog 19 #[vx, vp] w0 (Ret fun r w' => Ext w0 w' ∧ r = expV (expO lx lp)) := by
  rcases hE : elsOf lx lp with _ | l
  · have ht := exp_n hE
    have cc1 := fun {W : World} (h : Ext w0 W) => c_fElements (w0 := W) (hx.ext h) (hp.ext h) kx kp
    simp only [hE, Option.isSome_none] at cc1
    apply e_ref16_Expect
    unfold s_ref16_Expect
    have h := Hp.init [] w0
    refine alS h fun g1 w h => ?_
    refine alS h fun g2 w h => ?_
    refine alS h fun g3 w h => ?_
    refine cl1 h n_ref16_Elements (cc1 h.ext) fun w h => ?_
    refine Un_F ?_
    iterate 3 refine Gd_TF ?_
    refine Pick_T ?_
    refine If_T ?_
    iterate 3 refine bdS PC.nil (by rfl) ?_
    refine stA h 2 rfl rfl rfl rfl fun w h => ?_
    refine stA h 1 rfl rfl rfl rfl fun w h => ?_
    refine stA h 0 rfl rfl rfl rfl fun w h => ?_
    refine rcA h 2 rfl rfl ?_
    refine rcA h 1 rfl rfl ?_
    refine rcA h 0 rfl rfl ?_
    dsimp only [List.set] at h
    exact Ret.mk ⟨h.ext, by rw [ht]; rfl⟩
  have ht := exp_s hE
  obtain ⟨rfl, rfl, hg, hl⟩ := elsOf_some hE
  have cc1 := fun {W : World} (h : Ext w0 W) => c_fElements (w0 := W) (hx.ext h) (hp.ext h) kx kp
  simp only [hE, Option.isSome_some] at cc1
  have hx := hx.x
  have hp := hp.p
  by_cases h10 : l.length ≤ 10
  rotate_left
  · have hn : expL l = none := by unfold expL; rw [if_neg h10]
    rw [hn] at ht
    apply e_ref16_Expect
    unfold s_ref16_Expect
    have h := Hp.init [] w0
    refine alS h fun g1 w h => ?_
    refine alS h fun g2 w h => ?_
    refine alS h fun g3 w h => ?_
    refine cl1 h n_ref16_Elements (cc1 h.ext) fun w h => ?_
    refine Un_T ?_
    iterate 2 refine Gd_F ?_
    refine leS (hx.hp h) ?_
    refine Gd_F ?_
    refine Bn_gtT (by omega) ?_
    refine Pick_F ?_
    refine If_T ?_
    iterate 3 refine bdS PC.nil (by rfl) ?_
    refine stA h 2 rfl rfl rfl rfl fun w h => ?_
    refine stA h 1 rfl rfl rfl rfl fun w h => ?_
    refine stA h 0 rfl rfl rfl rfl fun w h => ?_
    refine rcA h 2 rfl rfl ?_
    refine rcA h 1 rfl rfl ?_
    refine rcA h 0 rfl rfl ?_
    dsimp only [List.set] at h
    exact Ret.mk ⟨h.ext, by rw [ht]; rfl⟩
  have hee : expL l = (oExpE l (2 ^ l.length)).bind fun m => (oExpV l (some m) (2 ^ l.length)).bind fun v => (oExpD l (2 ^ l.length)).map fun d => (m, v, d) := by unfold expL; rw [if_pos h10]
  rw [hee] at ht
  obtain ⟨N, hN⟩ : ∃ N, 2 ^ l.length = N := ⟨_, rfl⟩
  rw [hN] at ht
  have hN2 := two10 h10
  rw [hN] at hN2
  clear hee
  obtain ⟨M, hM⟩ : ∃ M, oExpE l N = M := ⟨_, rfl⟩
  obtain ⟨D, hD⟩ : ∃ D, oExpD l N = D := ⟨_, rfl⟩
  obtain ⟨V, hV⟩ : ∃ V, oExpV l M N = V := ⟨_, rfl⟩
  have obM : OB M := hM ▸ oSumN_B N
  have obD : OB D := hD ▸ oSumN_B N
  have obV : OB V := hV ▸ oSumN_B N
  have cc2 := fun {W : World} (h : Ext w0 W) => o_w0 (w := W)
  have cc3 := fun {W : World} (h : Ext w0 W) => o_fvalid (w := W) obM
  have cc4 := fun {W : World} (h : Ext w0 W) => o_fvalid (w := W) obV
  have cc5 := fun {W : World} (h : Ext w0 W) => o_fvalid (w := W) obD
  apply e_ref16_Expect
  unfold s_ref16_Expect
  have h := Hp.init [] w0
  refine alS h fun g1 w h => ?_
  refine alS h fun g2 w h => ?_
  refine alS h fun g3 w h => ?_
  refine cl1 h n_ref16_Elements (cc1 h.ext) fun w h => ?_
  refine Un_T ?_
  iterate 2 refine Gd_F ?_
  refine leS (hx.hp h) ?_
  refine Gd_F ?_
  refine Bn_gtF (by omega) ?_
  refine Pick_F ?_
  refine If_F ?_
  refine cl1 h n_ref16_whole (cc2 h.ext) fun w h => ?_
  refine alS h fun g4 w h => ?_
  refine stA h 0 rfl rfl rfl rfl fun w h => ?_
  refine cl1 h n_ref16_whole (cc2 h.ext) fun w h => ?_
  refine alS h fun g5 w h => ?_
  refine stA h 0 rfl rfl rfl rfl fun w h => ?_
  dsimp only [List.set] at h
  refine Lp1.mk (fun i W => ∃ k : Nat, k ≤ N ∧ i = .int .i64 k ∧ Hp [] w0 W [bx g5 tR (fO (oExpD l k)), bx g4 tR (fO (oExpE l k)), bx g3 tR (fO none), bx g2 tR (fO none), bx g1 tR (fO none)])
    (fun i _ => match i with | .int _ i' => N - i'.toNat | _ => 0) ⟨0, by omega, rfl, h⟩ ?_
  clear h
  rintro _ W ⟨k, hk, rfl, h⟩
  by_cases hkl : k < N
  · have cc6 := fun {W : World} (h : Ext w0 W) => c_choice (w0 := W) (k := k) (hx.ext h) (hp.ext h) (fun e he => (hg e he).1) (by omega)
    have cc7 := fun {W : World} (h : Ext w0 W) => r_mul (w := W) (ob_w k l) (ob_est (kept k l))
    have cc8 := fun {W : World} (h : Ext w0 W) => r_mul (w := W) (ob_w k l) (ob_esd (kept k l))
    have cc9 : ∀ {W : World}, Ext w0 W → Calls Tryz.prog 42 #[ov (oExpE l k), ov (oMul (oW k l (some 1)) (oEst (kept k l)))] W (Ret fun r w' => Ext W w' ∧ r = ov (oExpE l (k + 1))) := fun _ => r_add (oSumN_B k) (oBin_B fit_mul _ _)
    have cc10 : ∀ {W : World}, Ext w0 W → Calls Tryz.prog 42 #[ov (oExpD l k), ov (oMul (oW k l (some 1)) (oEsd (kept k l)))] W (Ret fun r w' => Ext W w' ∧ r = ov (oExpD l (k + 1))) := fun _ => r_add (oSumN_B k) (oBin_B fit_mul _ _)
    refine leS (hx.hp h) ?_
    refine Bn_slA (by omega) (by assumption) ?_
    refine Bn_ltT (by omega) ?_
    refine If_T ?_
    refine cl1 h n_ref16_choice (cc6 h.ext) fun w h => ?_
    refine Ex3 ?_
    refine alS h fun g6 w h => ?_
    refine alS h fun g7 w h => ?_
    refine alS h fun g8 w h => ?_
    refine stA h 2 rfl rfl rfl rfl fun w h => ?_
    refine stA h 1 rfl rfl rfl rfl fun w h => ?_
    refine stA h 0 rfl rfl rfl rfl fun w h => ?_
    replace h := h.dr
    refine dlA h 4 rfl rfl ?_
    refine dlA h 2 rfl rfl ?_
    refine dlA h 1 rfl rfl ?_
    refine cl1 h n_ref16_mul (cc7 h.ext) fun w h => ?_
    refine klA h 4 rfl rfl ?_
    refine cl1 h n_ref16_add (cc9 h.ext) fun w h => ?_
    refine stA h 4 rfl rfl rfl rfl fun w h => ?_
    replace h := h.dr
    refine dlA h 3 rfl rfl ?_
    refine dlA h 2 rfl rfl ?_
    refine dlA h 0 rfl rfl ?_
    refine cl1 h n_ref16_mul (cc8 h.ext) fun w h => ?_
    refine klA h 3 rfl rfl ?_
    refine cl1 h n_ref16_add (cc10 h.ext) fun w h => ?_
    refine stA h 3 rfl rfl rfl rfl fun w h => ?_
    refine Bn_ad (by omega) (by omega) ?_
    dsimp only [List.set] at h
    exact ⟨⟨k + 1, by omega, rfl, h.drop 3⟩, by show N - ((k : Int) + 1).toNat < N - (k : Int).toNat; omega⟩
  have hkN : k = N := by omega
  subst hkN
  rw [hM, hD] at h
  refine leS (hx.hp h) ?_
  refine Bn_slA (by omega) (by assumption) ?_
  refine Bn_ltF (by omega) ?_
  refine If_F ?_
  refine cl1 h n_ref16_whole (cc2 h.ext) fun w h => ?_
  refine alS h fun g6 w h => ?_
  refine stA h 0 rfl rfl rfl rfl fun w h => ?_
  dsimp only [List.set] at h
  refine Lp1.mk (fun i W => ∃ k' : Nat, k' ≤ k ∧ i = .int .i64 k' ∧ Hp [] w0 W [bx g6 tR (fO (oExpV l M k')), bx g5 tR (fO D), bx g4 tR (fO M), bx g3 tR (fO none), bx g2 tR (fO none), bx g1 tR (fO none)])
    (fun i _ => match i with | .int _ i' => k - i'.toNat | _ => 0) ⟨0, by omega, rfl, h⟩ ?_
  clear h
  rintro _ W ⟨j, hj, rfl, h⟩
  by_cases hjl : j < k
  · have cc6 := fun {W : World} (h : Ext w0 W) => c_choice (w0 := W) (k := j) (hx.ext h) (hp.ext h) (fun e he => (hg e he).1) (by omega)
    have cc7 := fun {W : World} (h : Ext w0 W) => r_sub (w := W) (ob_est (kept j l)) obM
    have cc8 := fun {W : World} (h : Ext w0 W) => r_mul (w := W) (oBin_B fit_sub (oEst (kept j l)) M) (oBin_B fit_sub (oEst (kept j l)) M)
    have cc9 := fun {W : World} (h : Ext w0 W) => r_mul (w := W) (ob_w j l) (oBin_B fit_mul (oSub (oEst (kept j l)) M) (oSub (oEst (kept j l)) M))
    have cc10 : ∀ {W : World}, Ext w0 W → Calls Tryz.prog 42 #[ov (oExpV l M j), ov (oMul (oW j l (some 1)) (oMul (oSub (oEst (kept j l)) M) (oSub (oEst (kept j l)) M)))] W (Ret fun r w' => Ext W w' ∧ r = ov (oExpV l M (j + 1))) := fun _ => r_add (oSumN_B j) (oBin_B fit_mul _ _)
    refine leS (hx.hp h) ?_
    refine Bn_slA (by omega) (by assumption) ?_
    refine Bn_ltT (by omega) ?_
    refine If_T ?_
    refine cl1 h n_ref16_choice (cc6 h.ext) fun w h => ?_
    refine Ex3 ?_
    refine alS h fun g7 w h => ?_
    refine alS h fun g8 w h => ?_
    refine alS h fun g9 w h => ?_
    refine stA h 2 rfl rfl rfl rfl fun w h => ?_
    refine stA h 1 rfl rfl rfl rfl fun w h => ?_
    refine stA h 0 rfl rfl rfl rfl fun w h => ?_
    refine ldA h 1 rfl rfl ?_
    refine ldA h 5 rfl rfl ?_
    refine cl1 h n_ref16_sub (cc7 h.ext) fun w h => ?_
    refine alS h fun g10 w h => ?_
    refine stA h 0 rfl rfl rfl rfl fun w h => ?_
    replace h := h.dr
    refine dlA h 4 rfl rfl ?_
    refine dlA h 3 rfl rfl ?_
    iterate 2 refine dlA h 0 rfl rfl ?_
    refine cl1 h n_ref16_mul (cc8 h.ext) fun w h => ?_
    refine klA h 4 rfl rfl ?_
    refine klA h 3 rfl rfl ?_
    refine cl1 h n_ref16_mul (cc9 h.ext) fun w h => ?_
    refine klA h 4 rfl rfl ?_
    refine cl1 h n_ref16_add (cc10 h.ext) fun w h => ?_
    refine stA h 4 rfl rfl rfl rfl fun w h => ?_
    refine Bn_ad (by omega) (by omega) ?_
    dsimp only [List.set] at h
    exact ⟨⟨j + 1, by omega, rfl, h.drop 4⟩, by show k - ((j : Int) + 1).toNat < k - (j : Int).toNat; omega⟩
  have hjk : j = k := by omega
  subst hjk
  rw [hV] at h
  rw [hM] at ht
  rcases M with _ | m
  · simp only [Option.isSome_none] at cc3
    refine leS (hx.hp h) ?_
    refine Bn_slA (by omega) (by assumption) ?_
    refine Bn_ltF (by omega) ?_
    refine If_F ?_
    refine ldA h 2 rfl rfl ?_
    refine cl1 h n_ref04_Valid (cc3 h.ext) fun w h => ?_
    refine Un_F ?_
    iterate 3 refine Gd_TF ?_
    refine Pick_T ?_
    iterate 3 refine Gd_TF ?_
    refine Pick_T ?_
    refine If_T ?_
    iterate 3 refine bdS PC.nil (by rfl) ?_
    refine stA h 5 rfl rfl rfl rfl fun w h => ?_
    refine stA h 4 rfl rfl rfl rfl fun w h => ?_
    refine stA h 3 rfl rfl rfl rfl fun w h => ?_
    refine rcA h 5 rfl rfl ?_
    refine rcA h 4 rfl rfl ?_
    refine rcA h 3 rfl rfl ?_
    dsimp only [List.set] at h
    exact Ret.mk ⟨h.ext, by rw [ht]; rfl⟩
  simp only [Option.isSome_some] at cc3
  have hbm : ∀ {β : Type} (f : Rat → Option β), (some m).bind f = f m := fun _ => rfl
  rw [hbm, hV, hD] at ht
  rcases V with _ | v
  · simp only [Option.isSome_none] at cc4
    refine leS (hx.hp h) ?_
    refine Bn_slA (by omega) (by assumption) ?_
    refine Bn_ltF (by omega) ?_
    refine If_F ?_
    refine ldA h 2 rfl rfl ?_
    refine cl1 h n_ref04_Valid (cc3 h.ext) fun w h => ?_
    refine Un_T ?_
    refine Gd_F ?_
    refine ldA h 0 rfl rfl ?_
    refine Gd_F ?_
    refine cl1 h n_ref04_Valid (cc4 h.ext) fun w h => ?_
    refine Gd_F ?_
    refine Un_F ?_
    refine Pick_F ?_
    iterate 3 refine Gd_TF ?_
    refine Pick_T ?_
    refine If_T ?_
    iterate 3 refine bdS PC.nil (by rfl) ?_
    refine stA h 5 rfl rfl rfl rfl fun w h => ?_
    refine stA h 4 rfl rfl rfl rfl fun w h => ?_
    refine stA h 3 rfl rfl rfl rfl fun w h => ?_
    refine rcA h 5 rfl rfl ?_
    refine rcA h 4 rfl rfl ?_
    refine rcA h 3 rfl rfl ?_
    dsimp only [List.set] at h
    exact Ret.mk ⟨h.ext, by rw [ht]; rfl⟩
  simp only [Option.isSome_some] at cc4
  rcases D with _ | d
  · simp only [Option.isSome_none] at cc5
    refine leS (hx.hp h) ?_
    refine Bn_slA (by omega) (by assumption) ?_
    refine Bn_ltF (by omega) ?_
    refine If_F ?_
    refine ldA h 2 rfl rfl ?_
    refine cl1 h n_ref04_Valid (cc3 h.ext) fun w h => ?_
    refine Un_T ?_
    refine Gd_F ?_
    refine ldA h 0 rfl rfl ?_
    refine Gd_F ?_
    refine cl1 h n_ref04_Valid (cc4 h.ext) fun w h => ?_
    refine Gd_F ?_
    refine Un_T ?_
    refine Pick_F ?_
    refine Gd_F ?_
    refine ldA h 1 rfl rfl ?_
    refine Gd_F ?_
    refine cl1 h n_ref04_Valid (cc5 h.ext) fun w h => ?_
    refine Gd_F ?_
    refine Un_F ?_
    refine Pick_F ?_
    refine If_T ?_
    iterate 3 refine bdS PC.nil (by rfl) ?_
    refine stA h 5 rfl rfl rfl rfl fun w h => ?_
    refine stA h 4 rfl rfl rfl rfl fun w h => ?_
    refine stA h 3 rfl rfl rfl rfl fun w h => ?_
    refine rcA h 5 rfl rfl ?_
    refine rcA h 4 rfl rfl ?_
    refine rcA h 3 rfl rfl ?_
    dsimp only [List.set] at h
    exact Ret.mk ⟨h.ext, by rw [ht]; rfl⟩
  simp only [Option.isSome_some] at cc5
  refine leS (hx.hp h) ?_
  refine Bn_slA (by omega) (by assumption) ?_
  refine Bn_ltF (by omega) ?_
  refine If_F ?_
  refine ldA h 2 rfl rfl ?_
  refine cl1 h n_ref04_Valid (cc3 h.ext) fun w h => ?_
  refine Un_T ?_
  refine Gd_F ?_
  refine ldA h 0 rfl rfl ?_
  refine Gd_F ?_
  refine cl1 h n_ref04_Valid (cc4 h.ext) fun w h => ?_
  refine Gd_F ?_
  refine Un_T ?_
  refine Pick_F ?_
  refine Gd_F ?_
  refine ldA h 1 rfl rfl ?_
  refine Gd_F ?_
  refine cl1 h n_ref04_Valid (cc5 h.ext) fun w h => ?_
  refine Gd_F ?_
  refine Un_T ?_
  refine Pick_F ?_
  refine If_F ?_
  replace h := h.dr
  refine dlA h 2 rfl rfl ?_
  refine dlA h 0 rfl rfl ?_
  refine dlA h 1 rfl rfl ?_
  refine stA h 5 rfl rfl rfl rfl fun w h => ?_
  refine klA h 0 rfl rfl ?_
  refine klA h 1 rfl rfl ?_
  refine stA h 4 rfl rfl rfl rfl fun w h => ?_
  refine klA h 1 rfl rfl ?_
  refine stA h 3 rfl rfl rfl rfl fun w h => ?_
  refine rcA h 5 rfl rfl ?_
  refine rcA h 4 rfl rfl ?_
  refine rcA h 3 rfl rfl ?_
  dsimp only [List.set] at h
  exact Ret.mk ⟨h.ext, by rw [ht]; rfl⟩
structure CI (g gl gc : Nat) (v : Value) (l : List El) (B : Nat) (W : World) : Prop where
  sz : B ≤ W.heap.size
  lb : Blk W gl tLs [v]
  cb : Blk W gc tCp [pt g]
  fl : ∃ f, Blk W g tC [.bool f]
  sl : SlC W 4 v l.length (l.flatMap fE)
  en : En W
def Yc (g : Nat) (l : List El) (B : Nat) (k : Nat) (vs : List Value) (W : World) : Prop :=
  ∃ (a : Option Rat) (y : Value) (f : Bool), vs = [ov a, y] ∧ OB a ∧ SlC W 4 y (kept k l).length ((kept k l).flatMap fE) ∧ (∀ b, y.ownBlock = some b → B ≤ b ∧ b ≠ g ∧ b < W.heap.size ∧ isRec W.heap[b]? = false) ∧ Blk W g tC [.bool f] ∧ (f = false → a = oW k l (some 1) ∧ a.isSome = true)
def Rc' (g : Nat) (BAD : Prop) (W W' : World) : Prop := Mo [g] W W' ∧ ∀ f, Blk W g tC [.bool f] → ∃ f', Blk W' g tC [.bool f'] ∧ (f' = f ∨ (f' = true ∧ BAD))
theorem Blk.one {W : World} {g : Nat} {ty : TypeId} {a b : Bool} (h : Blk W g ty [.bool a]) (k : Blk W g ty [.bool b]) : a = b := by
  unfold Blk at h k
  rw [h] at k
  simpa using k
theorem wt_step1 {f f' : Bool} {S a p : Option Rat} (hf : f' = (f || S.isNone)) (ha : f' = false → a = S) :
    (f' || (oMul a p).isNone) = (f || (oMul S p).isNone) ∧ ((f' || (oMul a p).isNone) = false → nV f' (oMul a p) = oMul S p) := by
  subst hf
  cases f with
  | true => exact ⟨by simp, by simp⟩
  | false =>
    cases S with
    | none =>
      have e : oMul none p = none := rfl
      rw [e]; exact ⟨by simp, by simp⟩
    | some s =>
      have := ha (by simp)
      subst this
      exact ⟨by simp, by simp [nV]⟩
theorem wt_step2 {f f' : Bool} {S a q : Option Rat} (hf : f' = (f || S.isNone)) (ha : f' = false → a = S) :
    ((f' || q.isNone) || (oMul a (nV f' q)).isNone) = (f || (oMul S q).isNone) ∧ (((f' || q.isNone) || (oMul a (nV f' q)).isNone) = false → nV (f' || q.isNone) (oMul a (nV f' q)) = oMul S q) := by
  subst hf
  cases f with
  | true => exact ⟨by simp, by simp⟩
  | false =>
    cases S with
    | none =>
      have e : oMul none q = none := rfl
      rw [e]; exact ⟨by simp, by simp⟩
    | some s =>
      have := ha (by simp)
      subst this
      cases q with
      | none => exact ⟨by simp [oBin_n2], by simp [oBin_n2]⟩
      | some y => exact ⟨by simp [nV], by simp [nV]⟩
theorem one_fO : fO (some 1) = [str [49], str [49]] := by
  have := one_ov
  simp only [ov, Value.agg.injEq] at this
  exact Array.toList_inj.2 this
theorem k_sub1 {w : World} {g : Nat} {f : Bool} {p : Option Rat} (h : Blk w g tC [.bool f]) (hp : OB p) (hT : Tab w) : Calls Tryz.prog 49 #[pt g, .agg #[str [49], str [49]], ov p] w (Ret (CoP g w (oSub (some 1) p) f)) := by
  have := k_sub h ob1 hp hT
  rw [one_ov] at this
  exact this
theorem Tab.mo {w w' : World} {g : Nat} (h : Tab w) (hg : GB g) (o : Mo [g] w w') : Tab w' := by
  have hn : Tryz.prog.globalNamed "internal/strconv.uint64pow10" = some 4 := by kernel_rfl
  have h : w.var? Tryz.prog "internal/strconv.uint64pow10" = _ := h
  show w'.var? Tryz.prog "internal/strconv.uint64pow10" = _
  unfold World.var? at h ⊢
  rw [hn] at h ⊢
  simp only [Option.bind_some] at h ⊢
  have hlt : 4 < w.heap.size := by
    rcases Nat.lt_or_ge 4 w.heap.size with h' | h'
    · exact h'
    · rw [Array.getElem?_eq_none h'] at h; cases h
  rw [o.block _ hlt (by simp; omega)]
  exact h
set_option maxHeartbeats 4000000 in
theorem it_choices {w0 : World} {g gl gc N : Nat} {v : Value} {l : List El} {J : Nat → World → Prop} {BAD : Prop} (hN : 2 ^ l.length = N) (h10 : l.length ≤ 10) (hok : ∀ e ∈ l, El.ok e) (hg : GB g) (ngl : gl ∉ [g]) (ngc : gc ∉ [g]) (nv : NoB v [g])
    (hJ : ∀ i W, J i W → CI g gl gc v l w0.heap.size W) (hBAD : ∀ k, k < N → oW k l (some 1) = none → BAD) :
    IterG Tryz.prog 75 #[pr gl 0, pr gc 0] N (Yc g l w0.heap.size) (Rc' g BAD) w0 J := by
  intro id JJ XX W1 hb1 hJJ hst hsx hy h0
  have n0 : 0 ∉ [g] := by simp; omega
  have n1 : 1 ∉ [g] := by simp; omega
  have hN2 := two10 h10
  rw [hN] at hN2
  show Calls Tryz.prog 75 #[.func (.yield id) #[] #[], pr gl 0, pr gc 0] W1 _
  have c0 := hJ 0 W1 (hJJ 0 W1 h0)
  have lb := c0.lb
  have sl := c0.sl
  apply e_estimate_calculator_choices_1
  unfold s_estimate_calculator_choices_1
  have h := Hp.init [g] W1
  refine lg1S h (by assumption) (by assumption) (by rfl) ?_
  refine leHS h (by assumption) (by assumption) ?_
  refine Bn_slA (by omega) (by assumption) ?_
  refine Lp1.mk (fun i W => ∃ k : Nat, k ≤ N ∧ i = .int .i64 k ∧ JJ k W)
    (fun i _ => match i with | .int _ i' => N - i'.toNat | _ => 0) ⟨0, by omega, rfl, h0⟩ ?_
  clear h lb sl c0
  rintro _ W ⟨k, hk, rfl, hjj⟩
  have c := hJ k W (hJJ k W hjj)
  by_cases hkN : k < N
  rotate_left
  · have h := Hp.init [g] W
    refine Bn_ltF (by omega) ?_
    refine If_F ?_
    have : k = N := by omega
    subst this
    exact ⟨⟨_, rfl⟩, .inl hjj⟩
  refine Exists.elim c.fl fun f hf => ?_
  have lb := c.lb
  have cb := c.cb
  have sl := c.sl
  have z1 := c.en.hz.2
  have hT := c.en.hT
  have h := (Hp.init [g] W).nw (e := bx g tC [.bool f]) (bx_at hf) (by intro k hk; simp at hk; subst hk; exact ⟨hf.lt, .inr (by simp)⟩) (by simp)
  refine Bn_ltT (by omega) ?_
  refine If_T ?_
  refine lgAS h (by assumption) (by assumption) (by rfl) ?_
  refine alS h fun g1 w h => ?_
  refine stA h 0 rfl rfl rfl rfl fun w h => ?_
  refine lg1S h (by assumption) (by assumption) (by rfl) ?_
  refine leHS h (by assumption) (by assumption) ?_
  dsimp only [List.set] at h
  have h := h.nil tEl 4
  refine Lp2.mk (fun y i W' => ∃ (j : Nat) (a : Option Rat) (f' : Bool), j ≤ l.length ∧ i = .int .i64 j ∧ OB a ∧ f' = (f || (oW k (l.take j) (some 1)).isNone) ∧ (f' = false → a = oW k (l.take j) (some 1)) ∧ Hp [g] W W' [ro tEl 4 y (kept k (l.take j)).length ((kept k (l.take j)).flatMap fE), bx g1 tR (fO a), bx g tC [.bool f']])
    (fun _ i _ => match i with | .int _ i' => l.length - i'.toNat | _ => 0) ⟨0, some 1, f, by omega, rfl, ob1, by rw [List.take_zero]; exact (Bool.or_false f).symm, fun _ => rfl, one_fO ▸ h⟩ ?_
  clear h
  rintro y _ W' ⟨j, a, f', hj, rfl, oa, hf', ha, h⟩
  have hkl := kept_len (l.take j) k
  rw [take_len hj] at hkl
  by_cases hjl : j < l.length
  rotate_left
  · have htl : l.take j = l := List.take_of_length_le (by omega)
    rw [htl] at h hf' ha
    refine Bn_ltF (by omega) ?_
    refine If_F ?_
    refine ldA h 1 rfl rfl ?_
    have hfo : ∀ {o : Option Rat}, f' = (f || o.isNone) → f' = false → o.isSome = true := fun {o} h1 h2 => by
      cases o with
      | none => rw [h2] at h1; simp at h1
      | some x => rfl
    have hyb : ∀ b, y.ownBlock = some b → w0.heap.size ≤ b ∧ b ≠ g ∧ b < W'.heap.size ∧ isRec W'.heap[b]? = false := fun b hb' => by
      have h1 := (h.ks _ (List.mem_of_getElem? (i := 0) rfl) b (by simp [hb'])).2
      have h2 := h.ne (i := 0) (j := 2) rfl rfl (by decide) b (by simp [hb'])
      have h3 := c.sz
      have h4 : b ≠ g := fun e => h2 (by simp [e])
      have h5 := h.get (i := 0) rfl
      have h6 : b < W'.heap.size ∧ isRec W'.heap[b]? = false := by
        obtain ⟨_, ⟨h7, _⟩ | ⟨g', cap, cur, h7, _, h8, _⟩⟩ := h5
        · rw [h7] at hb'; simp [Value.ownBlock] at hb'
        · rw [h7] at hb'
          simp [Value.ownBlock] at hb'
          subst hb'
          exact ⟨(Array.getElem?_eq_some_iff.1 h8).1, by rw [h8]; rfl⟩
      refine ⟨?_, h4, h6⟩
      rcases h1 with h1 | h1
      · omega
      · exact absurd (by simpa using h1) h4
    have hrl : Rc' g BAD W W' := ⟨h.mo, fun f0 hf0 => by
      have e0 := Blk.one hf0 hf
      refine ⟨f', h.get (i := 2) rfl, ?_⟩
      rcases ho : oW k l (some 1) with _ | x
      · rw [ho] at hf'
        exact .inr ⟨by rw [hf']; simp, hBAD k hkN ho⟩
      · rw [ho] at hf'
        exact .inl (by rw [hf', e0]; simp)⟩
    refine Cw_y (vs := [ov a, y]) (hy k _ W' hkN ⟨a, y, f', rfl, oa, h.sl (i := 0) rfl, hyb, h.get (i := 2) rfl, fun e => ⟨ha e, by rw [ha e]; exact hfo hf' e⟩⟩ (hst k W _ hjj hrl)) ?_
    rintro b w' (⟨rfl, hjj'⟩ | ⟨rfl, hxx⟩)
    · refine Un_T ?_
      refine If_F ?_
      refine Bn_ad (by omega) (by omega) ?_
      exact ⟨⟨k + 1, by omega, rfl, hjj'⟩, by show N - ((k : Int) + 1).toNat < N - (k : Int).toNat; omega⟩
    · refine Un_F ?_
      refine If_T ?_
      exact ⟨⟨_, rfl⟩, .inr hxx⟩
  refine Exists.elim (p := fun a => l[j]? = some a) ⟨_, List.getElem?_eq_getElem hjl⟩ fun e he => ?_
  refine Exists.elim (p := fun s => k / 2 ^ j = s) ⟨_, rfl⟩ fun s hs => ?_
  have hsk : s ≤ k := hs ▸ Nat.div_le_self k _
  have sx : Seg (l.flatMap fE) (j * 4) (fE e) := flat_seg (f := fE) (fun _ => rfl) he
  have ho := hok e (List.mem_of_getElem? he)
  have op : OB (some e.2) := .some ho.2
  have hkt := kept_snoc (l.take j) k e
  have hwt := oW_snoc (l.take j) k e (some 1)
  rw [take_len hj, hs, ← take_snoc he] at hkt hwt
  by_cases hb : s % 2 = 1
  · rw [if_pos hb] at hkt hwt
    have st := wt_step1 (p := some e.2) hf' ha
    rw [← hwt] at st
    have hfl : (kept k (l.take (j + 1))).flatMap fE = (kept k (l.take j)).flatMap fE ++ fE e := by rw [hkt, List.flatMap_append]; simp
    have hln : (kept k (l.take (j + 1))).length = (kept k (l.take j)).length + 1 := by rw [hkt]; simp
    refine Bn_ltT (by omega) ?_
    refine If_T ?_
    refine iaHS h (by assumption) (by assumption) (by omega) fun zb zo zk zv zs zc => ?_
    refine lhAS h (by assumption) (by assumption) (by assumption) (by rfl) ?_
    refine alS h fun g2 w h => ?_
    refine stA h 0 rfl rfl rfl rfl fun w h => ?_
    refine Bn_srA (by omega) (by assumption) ?_
    refine Bn_an1 (by omega) ?_
    refine Bn_eqT (by omega) ?_
    refine If_T ?_
    replace h := h.dr
    refine dg1S h (by assumption) (by assumption) (by rfl) ?_
    refine dlA h 2 rfl rfl ?_
    refine dfS ?_
    iterate 2 refine dlA h 0 rfl rfl ?_
    refine ⟨?_, ?_⟩
    dsimp only [List.set] at h
    refine clC h 3 rfl n_estimate_calculator_mul (fun b => k_mul (o := a) (p := some e.2) b oa op (hT.mo hg h.mo)) fun w h => ?_
    refine klA h 0 rfl rfl ?_
    refine bs1A h (by rfl) (by decide) (by rfl) (by decide) fun v1 w h => ?_
    refine kg1S h (by assumption) (by assumption) (by rfl) ?_
    refine klA h 3 rfl rfl ?_
    refine klA h 1 rfl rfl ?_
    refine apR (by rfl) (by decide) h 2 rfl (h.sl (i := 0) rfl) (by first | rfl | assumption) (by omega) fun v2 w h => ?_
    refine stA h 3 rfl rfl rfl rfl fun w h => ?_
    refine Bn_ad (by omega) (by omega) ?_
    dsimp only [List.set] at h
    refine ⟨⟨j + 1, _, _, by omega, rfl, nV_B (oBin_B fit_mul _ _), st.1, st.2, ?_⟩, by show l.length - ((j : Int) + 1).toNat < l.length - (j : Int).toNat; omega⟩
    rw [hfl, hln]
    exact h.drop 2
    refine bs1A h (by rfl) (by decide) (by rfl) (by decide) fun v1 w h => ?_
    refine kg1S h (by assumption) (by assumption) (by rfl) ?_
    refine klA h 3 rfl rfl ?_
    refine klA h 1 rfl rfl ?_
    dsimp only [List.set] at h
    refine clC h 4 rfl n_estimate_calculator_mul (fun b => k_mul (o := a) (p := some e.2) b oa op (hT.mo hg h.mo)) fun w h => ?_
    refine klA h 1 rfl rfl ?_
    refine apR (by rfl) (by decide) h 2 rfl (h.sl (i := 0) rfl) (by first | rfl | assumption) (by omega) fun v2 w h => ?_
    refine stA h 3 rfl rfl rfl rfl fun w h => ?_
    refine Bn_ad (by omega) (by omega) ?_
    dsimp only [List.set] at h
    refine ⟨⟨j + 1, _, _, by omega, rfl, nV_B (oBin_B fit_mul _ _), st.1, st.2, ?_⟩, by show l.length - ((j : Int) + 1).toNat < l.length - (j : Int).toNat; omega⟩
    rw [hfl, hln]
    exact h.drop 2
  · rw [if_neg hb] at hkt hwt
    have st := wt_step2 (q := oSub (some 1) (some e.2)) hf' ha
    rw [← hwt] at st
    rw [List.append_nil] at hkt
    refine Bn_ltT (by omega) ?_
    refine If_T ?_
    refine iaHS h (by assumption) (by assumption) (by omega) fun zb zo zk zv zs zc => ?_
    refine lhAS h (by assumption) (by assumption) (by assumption) (by rfl) ?_
    refine alS h fun g2 w h => ?_
    refine stA h 0 rfl rfl rfl rfl fun w h => ?_
    refine Bn_srA (by omega) (by assumption) ?_
    refine Bn_an1 (by omega) ?_
    refine Bn_eqF (by omega) ?_
    refine If_F ?_
    replace h := h.dr
    refine dg1S h (by assumption) (by assumption) (by rfl) ?_
    refine dlA h 2 rfl rfl ?_
    refine dg1S h (by assumption) (by assumption) (by rfl) ?_
    refine dgAS h (by assumption) (by assumption) (by rfl) ?_
    refine dfS ?_
    refine dlA h 0 rfl rfl ?_
    dsimp only [List.set] at h
    refine clC h 3 rfl n_estimate_calculator_sub (fun b => k_sub1 (p := some e.2) b op (hT.mo hg h.mo)) fun w h => ?_
    refine kg1S h (by assumption) (by assumption) (by rfl) ?_
    refine klA h 2 rfl rfl ?_
    dsimp only [List.set] at h
    refine clC h 3 rfl n_estimate_calculator_mul (fun b => k_mul (o := a) (p := nV f' (oSub (some 1) (some e.2))) b oa (nV_B (oBin_B fit_sub _ _)) (hT.mo hg h.mo)) fun w h => ?_
    refine stA h 2 rfl rfl rfl rfl fun w h => ?_
    refine Bn_ad (by omega) (by omega) ?_
    dsimp only [List.set] at h
    refine ⟨⟨j + 1, _, _, by omega, rfl, nV_B (oBin_B fit_mul _ _), st.1, st.2, ?_⟩, by show l.length - ((j : Int) + 1).toNat < l.length - (j : Int).toNat; omega⟩
    rw [hkt]
    exact h.drop 1
end Go.Proofs.YtnocjgmmglmfiaaGreatDoor
