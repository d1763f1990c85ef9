/-
  Contracts and plain lemmas. By an AI agent.
-/
import Derived.Test.YtdbcpkihokagkaaGreatDoorLUoM
import Derived.Test.YtdbcpkihokagkaaGreatDoorUnX
import Derived.Test.YtdbcpkihokagkaaGreatDoorUoD
import Derived.Test.YtdbcpkihokagkaaGreatDoorSpec
set_option linter.unusedSimpArgs false
set_option linter.unusedVariables false
set_option linter.unusedSectionVars false
namespace Go.Proofs.YtdbcpkihokagkaaGreatDoor
open Go Go.Eng Go.Proofs Go.Num Go.RowKit
set_option maxRecDepth 100000
instance : Arr Tryz.prog 52 2 1 := mkArr Tryz.underlying52 (ti := Tryz.t3) (by kernel_rfl) rfl
instance : Fdv Tryz.prog 27 0 true 0 2 := by
 have h := mkFdv (P := Tryz.prog) (t := 27) (f := 0) (ag := true) (n := 2) Tryz.underlying27 rfl Tryz.underlying23 rfl (ti := Tryz.t23) (by kernel_rfl) rfl
 exact h
abbrev Ue (u v : U4) : Prop := u.1 = v.1 ∧ u.2.1 = v.2.1 ∧ u.2.2.1 = v.2.2.1 ∧ u.2.2.2 = v.2.2.2
theorem Ue.of {u v : U4} (h : u = v) : Ue u v := by subst h; exact ⟨rfl, rfl, rfl, rfl⟩
theorem eqU_t {w : World} {K : Value → World → Prop} {c : Bool} {a b d e a' b' d' e' : Int} (h : a = a' ∧ b = b' ∧ d = d' ∧ e = e') (hk : K (.bool true) w) : Bn Tryz.prog .eql tUn c (.agg #[.int .i64 a, .int .i64 b, .int .i64 d, .int .i64 e]) (.agg #[.int .i64 a', .int .i64 b', .int .i64 d', .int .i64 e']) w K := by
 obtain ⟨rfl, rfl, rfl, rfl⟩ := h
 ((try simp -dsimp [go_sem, gdUn]); repeat (simp -dsimp (disch := omega) only [gL, gI]; try simp -dsimp [go_sem, gdUn])); exact hk
theorem eqU_f {w : World} {K : Value → World → Prop} {c : Bool} {a b d e a' b' d' e' : Int} (h : a ≠ a' ∨ b ≠ b' ∨ d ≠ d' ∨ e ≠ e') (hk : K (.bool false) w) : Bn Tryz.prog .eql tUn c (.agg #[.int .i64 a, .int .i64 b, .int .i64 d, .int .i64 e]) (.agg #[.int .i64 a', .int .i64 b', .int .i64 d', .int .i64 e']) w K := by
 by_cases h1 : a = a'
 ·subst h1
  by_cases h2 : b = b'
  ·subst h2
   by_cases h3 : d = d'
   ·subst h3
    have h4 : e ≠ e' := by simpa using h
    ((try simp -dsimp [go_sem, gdUn, h4]); repeat (simp -dsimp (disch := omega) only [gL, gI]; try simp -dsimp [go_sem, gdUn, h4])); exact hk
   ·((try simp -dsimp [go_sem, gdUn, h3]); repeat (simp -dsimp (disch := omega) only [gL, gI]; try simp -dsimp [go_sem, gdUn, h3])); exact hk
  ·((try simp -dsimp [go_sem, gdUn, h2]); repeat (simp -dsimp (disch := omega) only [gL, gI]; try simp -dsimp [go_sem, gdUn, h2])); exact hk
 ·((try simp -dsimp [go_sem, gdUn, h1]); repeat (simp -dsimp (disch := omega) only [gL, gI]; try simp -dsimp [go_sem, gdUn, h1])); exact hk
section
variable {a b : QT}
theorem add_dim (h : qE (addO a b) = 0) : Ue (qV (addO a b)).u a.u := by
 obtain ⟨q, hq⟩ := qE_some h
 obtain ⟨_, _, _, _, _, hu, _⟩ := addO_get hq
 rw [hq]; exact Ue.of hu
theorem sub_dim (h : qE (subO a b) = 0) : Ue (qV (subO a b)).u a.u := by
 obtain ⟨q, hq⟩ := qE_some h
 obtain ⟨_, _, _, _, _, hu, _⟩ := subO_get hq
 rw [hq]; exact Ue.of hu
theorem mul_dim (h : qE (mulO a b) = 0) : Ue (qV (mulO a b)).u (mpU (fun x y => x + y) a.u b.u) := by
 obtain ⟨q, hq⟩ := qE_some h
 obtain ⟨_, _, _, _, _, hu⟩ := mulO_get hq
 rw [hq]; exact Ue.of hu
theorem div_dim (h : qE (divO a b) = 0) : Ue (qV (divO a b)).u (mpU (fun x y => x - y) a.u b.u) := by
 obtain ⟨q, hq⟩ := qE_some h
 obtain ⟨_, _, _, _, _, _, hu⟩ := divO_get hq
 rw [hq]; exact Ue.of hu
end
theorem val_with {q : QT} {x : Rat} {u : U4} (h : valQ q = some x) (hu : uOk u) : valQ ⟨q.p, u⟩ = some x := by
 obtain ⟨_, h1, h2, h3⟩ := valQ_some h
 rw [h1, valQ_tx h2, if_pos ⟨hu, h3⟩]
theorem law_Dim {w0 : World} {x y : U4} {z : Int × Int} (hx : UI x) (hy : UI y) (h1 : I64 z.1) (h2 : I64 z.2) (he : En w0) : Calls Tryz.prog 6 #[vU x, vU y, .agg #[.int .i64 z.1, .int .i64 z.2]] w0 (Ret fun r w' => Ext w0 w' ∧ r = .bool true) := by
 have hB := Tryz.underlying4
 have i0 : I64 0 := ⟨by decide, by decide⟩
 have cc0 := fun {W : World} (e : Ext w0 W) => law_sane (he.ext e)
 have cc1 := fun {W : World} (e : Ext w0 W) => c_Made (w0 := W) hx
 have cc2 := fun {W : World} (e : Ext w0 W) => c_Made (w0 := W) hy
 have cc3 := fun {W : World} (e : Ext w0 W) => c_Made (w0 := W) (x := (z.1, z.2, 0, 0)) ⟨h1, h2, i0, i0⟩
 have cc4 := fun {W : World} (e : Ext w0 W) => c_Made (w0 := W) (x := (z.2, z.1, 0, 0)) ⟨h2, h1, i0, i0⟩
 have va := made_v x
 have vb := made_v y
 have vc := made_v (z.1, z.2, 0, 0)
 have vd := made_v (z.2, z.1, 0, 0)
 generalize madeQ x = a0 at *
 generalize madeQ y = b0 at *
 generalize madeQ (z.1, z.2, 0, 0) = c0 at *
 generalize madeQ (z.2, z.1, 0, 0) = d0 at *
 suffices main : ∀ (R : Ending → World → Prop), (∀ w, Hp [] w0 w [] → R (.returned (.bool true)) w) → s_law05_UnitDimensions Tryz.prog (vU x) (vU y) (.agg #[.int .i64 z.1, .int .i64 z.2]) w0 R from
  e_law05_UnitDimensions (main _ fun w h => Ret.mk ⟨h.ext, rfl⟩)
 intro R lf9
 have hua := (valQ_some va).1
 have hub := (valQ_some vb).1
 have j1 := hua.1
 have j2 := hua.2.1
 have j3 := hua.2.2.1
 have j4 := hua.2.2.2
 have j5 := hub.1
 have j6 := hub.2.1
 have j7 := hub.2.2.1
 have j8 := hub.2.2.2
 unfold s_law05_UnitDimensions
 have h := Hp.init [] w0
 refine bxA h fun g1 w h => ?_
 refine bxA h fun g2 w h => ?_
 refine bxA h fun g3 w h => ?_
 refine cl1 h n_law05_sane (cc0 h.ext) fun w h => ?_
 refine ldA h 2 rfl rfl ?_
 refine cl1 h n_ref05_Made (cc1 h.ext) fun w h => ?_
 refine alS h fun g4 w h => ?_
 refine stA h 0 rfl rfl rfl rfl fun w h => ?_
 refine ldA h 2 rfl rfl ?_
 refine cl1 h n_ref05_Made (cc2 h.ext) fun w h => ?_
 refine alS h fun g5 w h => ?_
 refine stA h 0 rfl rfl rfl rfl fun w h => ?_
 dsimp only [List.set] at h
 refine Lp1.mk (fun i W => ∃ (j : Nat) (a b : QT) (X Y : Rat), j ≤ 2 ∧ i = .int .i64 (j : Int) ∧ valQ a = some X ∧ valQ b = some Y ∧ Hid (a.u = a0.u ∧ b.u = b0.u) ∧ Hp [] w0 W [bx g4 tQy (fQ a), bx g5 tQy (fQ b), bx g3 52 [.int .i64 z.1, .int .i64 z.2]]) (fun i _ => match i with | .int _ i' => 2 - i'.toNat | _ => 0) ⟨0, a0, b0, _, _, by decide, rfl, va, vb, ⟨rfl, rfl⟩, h.pick [1, 0, 2] (by decide) rfl⟩ ?_
 clear h
 rintro _ w ⟨j, a, b, X, Y, hj, rfl, v1, v2, hu, h⟩
 by_cases hj2 : j < 2
 rotate_left
 ·refine Bn_ltF (by omega) (If_F ?_)
  exact lf9 _ (h.pick [] (by decide) rfl)
 have k1 := QTk.of (some_s v1)
 have k2 := QTk.of (some_s v2)
 have cc5 := fun {W : World} (e : Ext w0 W) => c_uAdd (w0 := W) k1 k2 (he.ext e).hT
 have cc6 := fun {W : World} (e : Ext w0 W) => c_uSub (w0 := W) k1 k2 (he.ext e).hT
 have dd7 := fun {W : World} (e : Ext w0 W) => c_uMul (w0 := W) k1 k2 (he.ext e).hT
 have dd8 := fun {W : World} (e : Ext w0 W) => c_uDiv (w0 := W) k1 k2 (he.ext e).hT
 have dd9 := fun {W : World} (e : Ext w0 W) => c_uCmp (w0 := W) k1 k2 (he.ext e).hT
 have e1 := (qE_cases (addO a b)).imp (fun h => h.1) (fun h => h.1)
 have e2 := (qE_cases (subO a b)).imp (fun h => h.1) (fun h => h.1)
 have e3 := (qE_cases (mulO a b)).imp (fun h => h.1) (fun h => h.1)
 have e4 := (qE_cases (divO a b)).imp (fun h => h.1) (fun h => h.1)
 have hqz : Qe q0 q0 := Qe.of rfl
 refine Bn_ltT (by omega) (If_T (faS (ldA h 0 rfl rfl ?_)))
 refine alS h fun g6 w h => ?_
 refine stA h 0 rfl rfl rfl rfl fun w h => ?_
 refine faS (ldA h 2 rfl rfl ?_)
 refine alS h fun g7 w h => ?_
 refine stA h 0 rfl rfl rfl rfl fun w h => ?_
 refine ldA h 2 rfl rfl ?_
 refine ldA h 3 rfl rfl ?_
 refine cl1 h n_unit_Add (cc5 h.ext) fun w h => ?_
 refine Ex2 (alS h fun g8 w h => ?_)
 refine stA h 0 rfl rfl rfl rfl fun w h => ?_
 refine ldA h 3 rfl rfl ?_
 refine ldA h 4 rfl rfl ?_
 refine cl1 h n_unit_Sub (cc6 h.ext) fun w h => ?_
 refine Ex2 (alS h fun g9 w h => ?_)
 refine stA h 0 rfl rfl rfl rfl fun w h => ?_
 dsimp only [List.set] at h
 refine ldA h 3 rfl rfl ?_
 refine ldA h 2 rfl rfl ?_
 revert h
 revert w
 apply meet
 ·intro w lfT h
  by_cases hne : a.u = b.u
  ·have hn4 : Ue a.u b.u := Ue.of hne
   by_cases f1 : qE (addO a b) = 0
   ·have g1 := add_dim f1
    by_cases f2 : qE (subO a b) = 0
    ·have g2 := sub_dim f2
     refine neU_e ‹_› ?_
     refine Gd_FT (Gd_FT (Gd_FT (Gd_U (Gd_U (Gd_FT (Gd_FT (Gd_U (Gd_U (Gd_U (Gd_FT (Gd_FT (Gd_U (Gd_U (Gd_U (Gd_FT (Pick_F (If_F (Bn_eqT (by omega) (Gd_T (faS (Gd_T (ldA h 1 rfl rfl ?_))))))))))))))))))))))
     refine Gd_T (ldA h 3 rfl rfl ?_)
     refine Gd_T (neU_e ‹_› ?_)
     refine Pick_T (Gd_F (Gd_F (Bn_eqT (by omega) (Gd_F (Gd_T (faS (Gd_T (ldA h 0 rfl rfl ?_))))))))
     refine Gd_T (ldA h 3 rfl rfl ?_)
     refine Gd_T (neU_e ‹_› ?_)
     refine Gd_F (Pick_T (Pick_F (If_F (ldA h 4 rfl rfl ?_))))
     refine ldA h 5 rfl rfl ?_
     exact lfT _ h
    ·refine neU_e ‹_› ?_
     refine Gd_FT (Gd_FT (Gd_FT (Gd_U (Gd_U (Gd_FT (Gd_FT (Gd_U (Gd_U (Gd_U (Gd_FT (Gd_FT (Gd_U (Gd_U (Gd_U (Gd_FT (Pick_F (If_F (Bn_eqT (by omega) (Gd_T (faS (Gd_T (ldA h 1 rfl rfl ?_))))))))))))))))))))))
     refine Gd_T (ldA h 3 rfl rfl ?_)
     refine Gd_T (neU_e ‹_› ?_)
     refine Pick_T (Gd_F (Gd_F (Bn_eqF (by omega) (Gd_F (Gd_FT (Gd_FT (Gd_FT (Gd_FT (Gd_F (Pick_F (Pick_F (If_F (ldA h 4 rfl rfl ?_)))))))))))))
     refine ldA h 5 rfl rfl ?_
     exact lfT _ h
   ·by_cases f2 : qE (subO a b) = 0
    ·have g2 := sub_dim f2
     refine neU_e ‹_› ?_
     refine Gd_FT (Gd_FT (Gd_FT (Gd_U (Gd_U (Gd_FT (Gd_FT (Gd_U (Gd_U (Gd_U (Gd_FT (Gd_FT (Gd_U (Gd_U (Gd_U (Gd_FT (Pick_F (If_F (Bn_eqF (by omega) (Gd_FT (Gd_FT (Gd_FT (Gd_FT (Pick_F (Gd_F (Gd_F (Bn_eqT (by omega) (Gd_F (Gd_T (faS (Gd_T (ldA h 0 rfl rfl ?_)))))))))))))))))))))))))))))))
     refine Gd_T (ldA h 3 rfl rfl ?_)
     refine Gd_T (neU_e ‹_› ?_)
     refine Gd_F (Pick_T (Pick_F (If_F (ldA h 4 rfl rfl ?_))))
     refine ldA h 5 rfl rfl ?_
     exact lfT _ h
    ·refine neU_e ‹_› ?_
     refine Gd_FT (Gd_FT (Gd_FT (Gd_U (Gd_U (Gd_FT (Gd_FT (Gd_U (Gd_U (Gd_U (Gd_FT (Gd_FT (Gd_U (Gd_U (Gd_U (Gd_FT (Pick_F (If_F (Bn_eqF (by omega) (Gd_FT (Gd_FT (Gd_FT (Gd_FT (Pick_F (Gd_F (Gd_F (Bn_eqF (by omega) (Gd_F (Gd_FT (Gd_FT (Gd_FT (Gd_FT (Gd_F (Pick_F (Pick_F (If_F (ldA h 4 rfl rfl ?_))))))))))))))))))))))))))))))))))))
     refine ldA h 5 rfl rfl ?_
     exact lfT _ h
  ·have hn4 := u4_ne hne
   have o1 : addO a b = none := opQ_u hne
   have o2 : subO a b = none := opQ_u hne
   have f1 : qE (addO a b) = 50 := by rw [o1]
   have f2 : qE (subO a b) = 50 := by rw [o2]
   have g1 : Qe (qV (addO a b)) q0 := Qe.of (by rw [o1])
   have g2 : Qe (qV (subO a b)) q0 := Qe.of (by rw [o2])
   refine neU_t ‹_› ?_
   refine Gd_T (Gd_T (Bn_neF (by omega) (Gd_T (Gd_F (Gd_F (Bn_neF (by omega) (Gd_T (Pick_F (Gd_T (Gd_F (ldA h 1 rfl rfl ?_)))))))))))
   refine Gd_F (bdS PC.nil (by rfl) ?_)
   refine Gd_F (qyNeE ‹_› ?_)
   refine Gd_T (Pick_F (Gd_T (Gd_F (ldA h 0 rfl rfl ?_))))
   refine Gd_F (bdS PC.nil (by rfl) ?_)
   refine Gd_F (qyNeE ‹_› ?_)
   refine Gd_T (Pick_F (Pick_T (If_F (Bn_eqF (by omega) (Gd_FT (Gd_FT (Gd_FT (Gd_FT (Pick_F (Gd_F (Gd_F (Bn_eqF (by omega) (Gd_F (Gd_FT (Gd_FT (Gd_FT (Gd_FT (Gd_F (Pick_F (Pick_F (If_F (ldA h 4 rfl rfl ?_))))))))))))))))))))))
   refine ldA h 5 rfl rfl ?_
   exact lfT _ h
 intro w h
 have cc7 := @dd7
 have cc8 := @dd8
 have u1 := (valQ_some v1).1
 have u2 := (valQ_some v2).1
 have p1 := u1.1
 have p2 := u1.2.1
 have p3 := u1.2.2.1
 have p4 := u1.2.2.2
 have p5 := u2.1
 have p6 := u2.2.1
 have p7 := u2.2.2.1
 have p8 := u2.2.2.2
 refine cl1 h n_unit_Mul (cc7 h.ext) fun w h => ?_
 refine Ex2 (alS h fun g10 w h => ?_)
 refine stA h 0 rfl rfl rfl rfl fun w h => ?_
 refine ldA h 5 rfl rfl ?_
 refine ldA h 6 rfl rfl ?_
 refine cl1 h n_unit_Div (cc8 h.ext) fun w h => ?_
 refine Ex2 (alS h fun g11 w h => ?_)
 refine stA h 0 rfl rfl rfl rfl fun w h => ?_
 dsimp only [List.set] at h
 revert h
 revert w
 apply meet
 ·intro w lfT h
  by_cases f3 : qE (mulO a b) = 0
  ·have g3 := mul_dim f3
   by_cases f4 : qE (divO a b) = 0
   ·have g4 := div_dim f4
    refine Bn_eqT (by omega) (Gd_T (faS (Gd_T (ldA h 1 rfl rfl ?_))))
    refine Gd_T (faS (Gd_T (Eng.ld1 h 5 rfl rfl (Gd_T (faS (Gd_T (Eng.ld1 h 4 rfl rfl (Gd_T (Bn_ad (by omega) (by omega) (Gd_T (faS (Gd_T (Eng.ld1 h 5 rfl rfl (Gd_T (faS (Gd_T (Eng.ld1 h 4 rfl rfl (Gd_T (Bn_ad (by omega) (by omega) (Gd_T (faS (Gd_T (Eng.ld1 h 5 rfl rfl (Gd_T (faS (Gd_T (Eng.ld1 h 4 rfl rfl (Gd_T (Bn_ad (by omega) (by omega) (Gd_T (faS (Gd_T (Eng.ld1 h 5 rfl rfl (Gd_T (faS (Gd_T (Eng.ld1 h 4 rfl rfl (Gd_T (Bn_ad (by omega) (by omega) ?_)))))))))))))))))))))))))))))))))))))))
    refine Gd_T (bdS (PC.cons (by rfl) (PC.cons (by rfl) (PC.cons (by rfl) (PC.cons (by rfl) PC.nil)))) (by rfl) ?_)
    refine Gd_T (neU_e ‹_› ?_)
    refine Pick_T (Gd_F (Gd_F (Bn_eqT (by omega) (Gd_F (Gd_T (faS (Gd_T (ldA h 0 rfl rfl ?_))))))))
    refine Gd_T (faS (Gd_T (Eng.ld1 h 5 rfl rfl (Gd_T (faS (Gd_T (Eng.ld1 h 4 rfl rfl (Gd_T (Bn_su (by omega) (by omega) (Gd_T (faS (Gd_T (Eng.ld1 h 5 rfl rfl (Gd_T (faS (Gd_T (Eng.ld1 h 4 rfl rfl (Gd_T (Bn_su (by omega) (by omega) (Gd_T (faS (Gd_T (Eng.ld1 h 5 rfl rfl (Gd_T (faS (Gd_T (Eng.ld1 h 4 rfl rfl (Gd_T (Bn_su (by omega) (by omega) (Gd_T (faS (Gd_T (Eng.ld1 h 5 rfl rfl (Gd_T (faS (Gd_T (Eng.ld1 h 4 rfl rfl (Gd_T (Bn_su (by omega) (by omega) ?_)))))))))))))))))))))))))))))))))))))))
    refine Gd_T (bdS (PC.cons (by rfl) (PC.cons (by rfl) (PC.cons (by rfl) (PC.cons (by rfl) PC.nil)))) (by rfl) ?_)
    refine Gd_T (neU_e ‹_› ?_)
    refine Gd_F (Pick_T (Pick_F (If_F (ldA h 6 rfl rfl ?_))))
    refine ldA h 7 rfl rfl ?_
    exact lfT _ h
   ·refine Bn_eqT (by omega) (Gd_T (faS (Gd_T (ldA h 1 rfl rfl ?_))))
    refine Gd_T (faS (Gd_T (Eng.ld1 h 5 rfl rfl (Gd_T (faS (Gd_T (Eng.ld1 h 4 rfl rfl (Gd_T (Bn_ad (by omega) (by omega) (Gd_T (faS (Gd_T (Eng.ld1 h 5 rfl rfl (Gd_T (faS (Gd_T (Eng.ld1 h 4 rfl rfl (Gd_T (Bn_ad (by omega) (by omega) (Gd_T (faS (Gd_T (Eng.ld1 h 5 rfl rfl (Gd_T (faS (Gd_T (Eng.ld1 h 4 rfl rfl (Gd_T (Bn_ad (by omega) (by omega) (Gd_T (faS (Gd_T (Eng.ld1 h 5 rfl rfl (Gd_T (faS (Gd_T (Eng.ld1 h 4 rfl rfl (Gd_T (Bn_ad (by omega) (by omega) ?_)))))))))))))))))))))))))))))))))))))))
    refine Gd_T (bdS (PC.cons (by rfl) (PC.cons (by rfl) (PC.cons (by rfl) (PC.cons (by rfl) PC.nil)))) (by rfl) ?_)
    refine Gd_T (neU_e ‹_› ?_)
    refine Pick_T (Gd_F (Gd_F (Bn_eqF (by omega) (Gd_F (Gd_FT (Gd_FT (Gd_FT (Gd_FT (Gd_FT (Gd_FT (Gd_FT (Gd_FT (Gd_FT (Gd_FT (Gd_FT (Gd_FT (Gd_FT (Gd_FT (Gd_FT (Gd_FT (Gd_FT (Gd_FT (Gd_FT (Gd_FT (Gd_FT (Gd_FT (Gd_FT (Gd_FT (Gd_F (Pick_F (Pick_F (If_F (ldA h 6 rfl rfl ?_)))))))))))))))))))))))))))))))))
    refine ldA h 7 rfl rfl ?_
    exact lfT _ h
  ·by_cases f4 : qE (divO a b) = 0
   ·have g4 := div_dim f4
    refine Bn_eqF (by omega) (Gd_FT (Gd_FT (Gd_FT (Gd_FT (Gd_FT (Gd_FT (Gd_FT (Gd_FT (Gd_FT (Gd_FT (Gd_FT (Gd_FT (Gd_FT (Gd_FT (Gd_FT (Gd_FT (Gd_FT (Gd_FT (Gd_FT (Gd_FT (Gd_FT (Gd_FT (Gd_FT (Gd_FT (Pick_F (Gd_F (Gd_F (Bn_eqT (by omega) (Gd_F (Gd_T (faS (Gd_T (ldA h 0 rfl rfl ?_)))))))))))))))))))))))))))))))))
    refine Gd_T (faS (Gd_T (Eng.ld1 h 5 rfl rfl (Gd_T (faS (Gd_T (Eng.ld1 h 4 rfl rfl (Gd_T (Bn_su (by omega) (by omega) (Gd_T (faS (Gd_T (Eng.ld1 h 5 rfl rfl (Gd_T (faS (Gd_T (Eng.ld1 h 4 rfl rfl (Gd_T (Bn_su (by omega) (by omega) (Gd_T (faS (Gd_T (Eng.ld1 h 5 rfl rfl (Gd_T (faS (Gd_T (Eng.ld1 h 4 rfl rfl (Gd_T (Bn_su (by omega) (by omega) (Gd_T (faS (Gd_T (Eng.ld1 h 5 rfl rfl (Gd_T (faS (Gd_T (Eng.ld1 h 4 rfl rfl (Gd_T (Bn_su (by omega) (by omega) ?_)))))))))))))))))))))))))))))))))))))))
    refine Gd_T (bdS (PC.cons (by rfl) (PC.cons (by rfl) (PC.cons (by rfl) (PC.cons (by rfl) PC.nil)))) (by rfl) ?_)
    refine Gd_T (neU_e ‹_› ?_)
    refine Gd_F (Pick_T (Pick_F (If_F (ldA h 6 rfl rfl ?_))))
    refine ldA h 7 rfl rfl ?_
    exact lfT _ h
   ·refine Bn_eqF (by omega) (Gd_FT (Gd_FT (Gd_FT (Gd_FT (Gd_FT (Gd_FT (Gd_FT (Gd_FT (Gd_FT (Gd_FT (Gd_FT (Gd_FT (Gd_FT (Gd_FT (Gd_FT (Gd_FT (Gd_FT (Gd_FT (Gd_FT (Gd_FT (Gd_FT (Gd_FT (Gd_FT (Gd_FT (Pick_F (Gd_F (Gd_F (Bn_eqF (by omega) (Gd_F (Gd_FT (Gd_FT (Gd_FT (Gd_FT (Gd_FT (Gd_FT (Gd_FT (Gd_FT (Gd_FT (Gd_FT ?_)))))))))))))))))))))))))))))))))))))))
    refine Gd_FT (Gd_FT (Gd_FT (Gd_FT (Gd_FT (Gd_FT (Gd_FT (Gd_FT (Gd_FT (Gd_FT (Gd_FT (Gd_FT (Gd_FT (Gd_FT (Gd_F (Pick_F (Pick_F (If_F (ldA h 6 rfl rfl ?_))))))))))))))))))
    refine ldA h 7 rfl rfl ?_
    exact lfT _ h
 intro w h
 have cc9 := @dd9
 refine cl1 h n_unit_Compare (cc9 h.ext) fun w h => ?_
 refine Ex2 ?_
 by_cases hne : a.u = b.u
 ·have hn4 : Ue a.u b.u := Ue.of hne
  have o1 := cmpO_v v1 v2 hne
  have f1 : cE (cmpO a b) = 0 := by rw [o1]
  refine Bn_eqT (by omega) (ldA h 5 rfl rfl ?_)
  refine ldA h 4 rfl rfl ?_
  refine eqU_t ‹_› ?_
  refine Bn_neB (d := false) ‹_› (by rfl) ?_
  refine Gd_F (Gd_F (Bn_neF (by omega) (Gd_F (Gd_FT (Gd_FT (Gd_F (Pick_F (Pick_F (If_F (iaZ (by decide) (by decide) ?_))))))))))
  refine Eng.ld1 h 8 rfl rfl (iaZ (by decide) (by decide) ?_)
  refine Eng.ld1 h 8 rfl rfl (bdS (PC.cons (by rfl) (PC.cons (by rfl) (PC.cons (by rfl) (PC.cons (by rfl) PC.nil)))) (by rfl) ?_)
  refine cl1 h n_ref05_Made (cc3 h.ext) fun w h => ?_
  refine fdA rfl ?_
  refine faS (stA h 6 rfl rfl rfl rfl fun w h => ?_)
  refine iaZ (by decide) (by decide) ?_
  refine Eng.ld1 h 8 rfl rfl (iaZ (by decide) (by decide) ?_)
  refine Eng.ld1 h 8 rfl rfl (bdS (PC.cons (by rfl) (PC.cons (by rfl) (PC.cons (by rfl) (PC.cons (by rfl) PC.nil)))) (by rfl) ?_)
  refine cl1 h n_ref05_Made (cc4 h.ext) fun w h => ?_
  refine fdA rfl ?_
  refine faS (stA h 7 rfl rfl rfl rfl fun w h => ?_)
  refine Bn_ad (by omega) (by omega) ?_
  dsimp only [List.set] at h
  trace_state
  refine ⟨⟨j + 1, ⟨c0.p, a.u⟩, ⟨d0.p, b.u⟩, _, _, by omega, rfl, val_with vc u1, val_with vd u2, hu, h.pick [6, 7, 8] (by decide) rfl⟩, ?_⟩
  show 2 - ((j : Int) + 1).toNat < 2 - (j : Int).toNat
  omega
 ·have hn4 := u4_ne hne
  have o1 : cmpO a b = none := cmpO_u hne
  have f1 : cE (cmpO a b) = 50 := by rw [o1]
  have f2 : cV (cmpO a b) = 0 := by rw [o1]
  refine Bn_eqF (by omega) (ldA h 5 rfl rfl ?_)
  refine ldA h 4 rfl rfl ?_
  refine eqU_f ‹_› ?_
  refine Bn_neB (d := false) ‹_› (by rfl) ?_
  refine Gd_F (Gd_F (Bn_neT (by omega) (Gd_F (Gd_T (Gd_T (Bn_neF (by omega) (Gd_F (Pick_T (Pick_F (If_F (iaZ (by decide) (by decide) ?_)))))))))))
  refine Eng.ld1 h 8 rfl rfl (iaZ (by decide) (by decide) ?_)
  refine Eng.ld1 h 8 rfl rfl (bdS (PC.cons (by rfl) (PC.cons (by rfl) (PC.cons (by rfl) (PC.cons (by rfl) PC.nil)))) (by rfl) ?_)
  refine cl1 h n_ref05_Made (cc3 h.ext) fun w h => ?_
  refine fdA rfl ?_
  refine faS (stA h 6 rfl rfl rfl rfl fun w h => ?_)
  refine iaZ (by decide) (by decide) ?_
  refine Eng.ld1 h 8 rfl rfl (iaZ (by decide) (by decide) ?_)
  refine Eng.ld1 h 8 rfl rfl (bdS (PC.cons (by rfl) (PC.cons (by rfl) (PC.cons (by rfl) (PC.cons (by rfl) PC.nil)))) (by rfl) ?_)
  refine cl1 h n_ref05_Made (cc4 h.ext) fun w h => ?_
  refine fdA rfl ?_
  refine faS (stA h 7 rfl rfl rfl rfl fun w h => ?_)
  refine Bn_ad (by omega) (by omega) ?_
  dsimp only [List.set] at h
  refine ⟨⟨j + 1, ⟨c0.p, a.u⟩, ⟨d0.p, b.u⟩, _, _, by omega, rfl, val_with vc u1, val_with vd u2, hu, h.pick [6, 7, 8] (by decide) rfl⟩, ?_⟩
  show 2 - ((j : Int) + 1).toNat < 2 - (j : Int).toNat
  omega
end Go.Proofs.YtdbcpkihokagkaaGreatDoor
