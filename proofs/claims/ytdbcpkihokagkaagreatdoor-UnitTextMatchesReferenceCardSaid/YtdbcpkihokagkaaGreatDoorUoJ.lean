/-
  Contracts and plain lemmas. By an AI agent.
-/
import Derived.Test.YtdbcpkihokagkaaGreatDoorUoH
set_option linter.unusedSimpArgs false
set_option linter.unusedVariables false
set_option linter.unusedSectionVars false
namespace Go.Proofs.YtdbcpkihokagkaaGreatDoor
open Go Go.Eng Go.Proofs Go.Num Go.RowKit
set_option maxRecDepth 100000
section
variable {w0 : World} {s z : List UInt8} {k : Nat} (hs : s.length ≤ 1000000) (hk : k ≤ s.length) (hw : z.length ≤ 4)
include hs hk hw
theorem c_begins : Calls Tryz.prog 74 #[str s, .int .i64 (k : Int), str z] w0 (Ret fun r w' => Ext w0 w' ∧ r = .tuple #[.int .i64 (bgN z (s.drop k)), .int .i64 ((k + bgL z (s.drop k) : Nat) : Int)]) := by
 obtain ⟨m, hm⟩ : ∃ m, m = (pcs (s.drop k)).length := ⟨_, rfl⟩
 have hml : m ≤ s.length - k := by
  have := pcs_len (s.drop k)
  rw [List.length_drop] at this; omega
 have hlt : ∀ j, j < m → k + j < s.length ∧ (j = 0 ∨ ∃ b, s[k + j]? = some b ∧ b ≠ 32) := fun j hj => by
  have := pcs_lt (l := s.drop k) (j := j) (by omega)
  rw [List.getElem?_drop] at this
  exact ⟨by omega, this.2⟩
 have hat : k + m < s.length → 0 < m ∧ s[k + m]? = some 32 := fun hj => by
  have := pcs_at (l := s.drop k) (by rw [List.length_drop]; omega)
  rw [List.getElem?_drop, ← hm] at this
  exact this
 have hpc : (s.drop k).take (k + m - k) = pcs (s.drop k) := by
  rw [Nat.add_sub_cancel_left, hm]; exact pcs_take _
 have hfound : ∀ n, (∀ i, e3 i → i ≠ 0 → i < n → pcs (s.drop k) ≠ pT z i) → e3 n → n ≠ 0 → pcs (s.drop k) = pT z n → bgN z (s.drop k) = n ∧ bgL z (s.drop k) = m := by
  intro n hb h3 h0 he
  have hf : bgO z (s.drop k) = some n := by
   unfold bgO
   refine find_some (six_mem.2 ⟨h3, h0⟩) (by simpa using he) fun i hi hp => ?_
   obtain ⟨h3', h0'⟩ := six_mem.1 hi
   exact pT_six h3' h3 ((by simpa using hp : pcs (s.drop k) = pT z i).symm.trans he)
  unfold bgN bgL
  rw [hf, hm]
  exact ⟨rfl, rfl⟩
 have hnone : (∀ i, e3 i → i ≠ 0 → pcs (s.drop k) ≠ pT z i) → bgN z (s.drop k) = 0 ∧ bgL z (s.drop k) = 0 := by
  intro hb
  have hf : bgO z (s.drop k) = none := by
   unfold bgO
   rw [List.find?_eq_none]
   intro n hn he
   obtain ⟨h1, h2⟩ := six_mem.1 hn
   exact hb n h1 h2 (by simpa using he)
  unfold bgN bgL
  rw [hf]
  exact ⟨rfl, rfl⟩
 generalize bgN z (s.drop k) = N at *
 generalize bgL z (s.drop k) = B at *
 generalize pcs (s.drop k) = pc at *
 have cp := fun (n : Int) (hn : e3 n) {W : World} (_ : Ext w0 W) => c_part (w0 := W) (s := z) hw hn
 suffices main : ∀ (R : Ending → World → Prop), (∀ w, Hp [] w0 w [] → R (.returned (.tuple #[.int .i64 N, .int .i64 ((k + B : Nat) : Int)])) w) → s_ref05_begins Tryz.prog (str s) (.int .i64 (k : Int)) (str z) w0 R from
  e_ref05_begins (main _ fun w h => Ret.mk ⟨h.ext, rfl⟩)
 intro R lf9
 unfold s_ref05_begins
 have h := Hp.init [] w0
 refine Lp1.mk (fun i W => ∃ j : Nat, i = .int .i64 ((k + j : Nat) : Int) ∧ j ≤ m ∧ Hp [] w0 W []) (fun i _ => match i with | .int _ i' => s.length - i'.toNat | _ => 0) ⟨0, rfl, by omega, h⟩ ?_
 clear h
 rintro _ W ⟨j, rfl, hj, h⟩
 by_cases hjm : j < m
 ·have hl := (hlt j hjm).1
  refine Or.elim (hlt j hjm).2 (fun h0 => ?_) (fun hb => Exists.elim hb fun b hb => ?_)
  ·refine Bt_lenT ?_
   refine Bn_ltT (by omega) (Gd_T (Gd_T (Gd_T (Bn_eqT (by omega) (Gd_T (Gd_TF (Gd_TF (Gd_TF (Gd_TF (Gd_T (Pick_T (Pick_T (If_T (Bn_ad (by omega) (by omega) ?_))))))))))))))
   refine ⟨⟨j + 1, rfl, by omega, h⟩, ?_⟩
   show s.length - (((k + j : Nat) : Int) + 1).toNat < s.length - ((k + j : Nat) : Int).toNat
   omega
  ·have hb1 := hb.1
   have hb2 : (b.toNat : Int) < 32 ∨ 32 < (b.toNat : Int) := by
    have : b.toNat ≠ 32 := fun e => hb.2 (UInt8.toNat_inj.1 e)
    omega
   by_cases hj0 : j = 0
   ·refine Bt_lenT ?_
    refine Bn_ltT (by omega) (Gd_T (Gd_T (Gd_T (Bn_eqT (by omega) (Gd_T (Gd_TF (Gd_TF (Gd_TF (Gd_TF (Gd_T (Pick_T (Pick_T (If_T (Bn_ad (by omega) (by omega) ?_))))))))))))))
    refine ⟨⟨j + 1, rfl, by omega, h⟩, ?_⟩
    show s.length - (((k + j : Nat) : Int) + 1).toNat < s.length - ((k + j : Nat) : Int).toNat
    omega
   ·refine Bt_lenT ?_
    refine Bn_ltT (by omega) (Gd_T (Gd_T (Gd_T (Bn_eqF (by omega) (Gd_T (Gd_F (Gd_F (Gd_F (Ix_s (by rfl) ‹_› (by first | assumption | omega) ?_)))))))))
    refine Gd_F (Bn_neT (by omega) (Gd_T (Pick_F (Pick_T (If_T (Bn_ad (by omega) (by omega) ?_))))))
    refine ⟨⟨j + 1, rfl, by omega, h⟩, ?_⟩
    show s.length - (((k + j : Nat) : Int) + 1).toNat < s.length - ((k + j : Nat) : Int).toNat
    omega
 have hjm2 : j = m := by omega
 revert h
 revert W
 apply meet
 ·intro w lfT h
  by_cases hend : k + m < s.length
  ·have h32 := (hat hend).2
   have hm0 := (hat hend).1
   rw [← hjm2] at h32
   have hb2 : ((32 : UInt8).toNat : Int) = 32 := rfl
   refine Bt_lenT ?_
   refine Bn_ltT (by omega) (Gd_T (Gd_T (Gd_T (Bn_eqF (by omega) (Gd_T (Gd_F (Gd_F (Gd_F (Ix_s (by rfl) ‹_› (by first | assumption | omega) ?_)))))))))
   refine Gd_F (Bn_neF (by omega) (Gd_T (Pick_F (Pick_T (If_F ?_)))))
   exact lfT _ h
  ·refine Bt_lenT ?_
   refine Bn_ltF (by omega) (Gd_FT (Gd_FT (Gd_FT (Gd_FT (Gd_U (Gd_U (Gd_U (Gd_U (Gd_FT (Pick_F (If_F ?_)))))))))))
   exact lfT _ h
 intro w h
 have hpj : (s.drop k).take (k + j - k) = pc := by rw [hjm2]; exact hpc
 refine Lp1.mk (fun i W => Hp [] w0 W [] ∧ ((i = .int .i64 (-3)) ∨ (i = .int .i64 (-2) ∧ (pc == pT z (-3)) = false) ∨ (i = .int .i64 (-1) ∧ (pc == pT z (-3)) = false ∧ (pc == pT z (-2)) = false) ∨ (i = .int .i64 0 ∧ (pc == pT z (-3)) = false ∧ (pc == pT z (-2)) = false ∧ (pc == pT z (-1)) = false) ∨ (i = .int .i64 1 ∧ (pc == pT z (-3)) = false ∧ (pc == pT z (-2)) = false ∧ (pc == pT z (-1)) = false) ∨ (i = .int .i64 2 ∧ (pc == pT z (-3)) = false ∧ (pc == pT z (-2)) = false ∧ (pc == pT z (-1)) = false ∧ (pc == pT z 1) = false) ∨ (i = .int .i64 3 ∧ (pc == pT z (-3)) = false ∧ (pc == pT z (-2)) = false ∧ (pc == pT z (-1)) = false ∧ (pc == pT z 1) = false ∧ (pc == pT z 2) = false) ∨ (i = .int .i64 4 ∧ (pc == pT z (-3)) = false ∧ (pc == pT z (-2)) = false ∧ (pc == pT z (-1)) = false ∧ (pc == pT z 1) = false ∧ (pc == pT z 2) = false ∧ (pc == pT z 3) = false))) (fun i _ => match i with | .int _ i' => (4 - i').toNat | _ => 0) ⟨h, .inl rfl⟩ ?_
 clear h
 rintro _ w ⟨h, (rfl | ⟨rfl, a1⟩ | ⟨rfl, a1, a2⟩ | ⟨rfl, a1, a2, a3⟩ | ⟨rfl, a1, a2, a3⟩ | ⟨rfl, a1, a2, a3, a5⟩ | ⟨rfl, a1, a2, a3, a5, a6⟩ | ⟨rfl, a1, a2, a3, a5, a6, a7⟩)⟩
 ·have cc1 := fun {W : World} (e : Ext w0 W) => cp (-3) ⟨by decide, by decide⟩ e
  rcases Bool.eq_false_or_eq_true (pc == pT z (-3)) with b | b
  ·have hf := hfound (-3) (fun i h3 h0 hl => by rcases e3_cases h3 with rfl | rfl | rfl | rfl | rfl | rfl | rfl <;> first | (exfalso; omega) | exact beq_eq_false_iff_ne.1 ‹_›) ⟨by decide, by decide⟩ (by decide) (beq_iff_eq.1 b)
   rw [hf.1, hf.2, ← hjm2] at lf9
   refine Bn_leT (by omega) (If_T ?_)
   replace h := h.dr
   refine Dv_neT (by omega) (GdP_T (GdP_T (GdP_T (GdP_T (Dv_tB (a := k) (b := k + j) rfl rfl (by omega) (by omega) hpj ?_)))))
   refine GdP_T (GdP_T (Gd_T (cl1 h n_ref05_part (cc1 h.ext) fun w h => ?_)))
   refine GdP_T (Dv_eqS1 ‹_› ?_)
   refine PickP_T (If_T ?_)
   exact lf9 _ h
  ·refine Bn_leT (by omega) (If_T ?_)
   replace h := h.dr
   refine Dv_neT (by omega) (GdP_T (GdP_T (GdP_T (GdP_T (Dv_tB (a := k) (b := k + j) rfl rfl (by omega) (by omega) hpj ?_)))))
   refine GdP_T (GdP_T (Gd_T (cl1 h n_ref05_part (cc1 h.ext) fun w h => ?_)))
   refine GdP_T (Dv_eqSF ‹_› ?_)
   refine PickP_T (If_F (Bn_ad (by omega) (by omega) ?_))
   refine ⟨?_, ?_⟩
   refine ⟨?_, ?_⟩
   ·exact h
   ·exact .inr (.inl ⟨rfl, b⟩)
   ·decide
 ·have cc1 := fun {W : World} (e : Ext w0 W) => cp (-2) ⟨by decide, by decide⟩ e
  rcases Bool.eq_false_or_eq_true (pc == pT z (-2)) with b | b
  ·have hf := hfound (-2) (fun i h3 h0 hl => by rcases e3_cases h3 with rfl | rfl | rfl | rfl | rfl | rfl | rfl <;> first | (exfalso; omega) | exact beq_eq_false_iff_ne.1 ‹_›) ⟨by decide, by decide⟩ (by decide) (beq_iff_eq.1 b)
   rw [hf.1, hf.2, ← hjm2] at lf9
   refine Bn_leT (by omega) (If_T ?_)
   replace h := h.dr
   refine Dv_neT (by omega) (GdP_T (GdP_T (GdP_T (GdP_T (Dv_tB (a := k) (b := k + j) rfl rfl (by omega) (by omega) hpj ?_)))))
   refine GdP_T (GdP_T (Gd_T (cl1 h n_ref05_part (cc1 h.ext) fun w h => ?_)))
   refine GdP_T (Dv_eqS1 ‹_› ?_)
   refine PickP_T (If_T ?_)
   exact lf9 _ h
  ·refine Bn_leT (by omega) (If_T ?_)
   replace h := h.dr
   refine Dv_neT (by omega) (GdP_T (GdP_T (GdP_T (GdP_T (Dv_tB (a := k) (b := k + j) rfl rfl (by omega) (by omega) hpj ?_)))))
   refine GdP_T (GdP_T (Gd_T (cl1 h n_ref05_part (cc1 h.ext) fun w h => ?_)))
   refine GdP_T (Dv_eqSF ‹_› ?_)
   refine PickP_T (If_F (Bn_ad (by omega) (by omega) ?_))
   refine ⟨?_, ?_⟩
   refine ⟨?_, ?_⟩
   ·exact h
   ·exact .inr (.inr (.inl ⟨rfl, a1, b⟩))
   ·decide
 ·have cc1 := fun {W : World} (e : Ext w0 W) => cp (-1) ⟨by decide, by decide⟩ e
  rcases Bool.eq_false_or_eq_true (pc == pT z (-1)) with b | b
  ·have hf := hfound (-1) (fun i h3 h0 hl => by rcases e3_cases h3 with rfl | rfl | rfl | rfl | rfl | rfl | rfl <;> first | (exfalso; omega) | exact beq_eq_false_iff_ne.1 ‹_›) ⟨by decide, by decide⟩ (by decide) (beq_iff_eq.1 b)
   rw [hf.1, hf.2, ← hjm2] at lf9
   refine Bn_leT (by omega) (If_T ?_)
   replace h := h.dr
   refine Dv_neT (by omega) (GdP_T (GdP_T (GdP_T (GdP_T (Dv_tB (a := k) (b := k + j) rfl rfl (by omega) (by omega) hpj ?_)))))
   refine GdP_T (GdP_T (Gd_T (cl1 h n_ref05_part (cc1 h.ext) fun w h => ?_)))
   refine GdP_T (Dv_eqS1 ‹_› ?_)
   refine PickP_T (If_T ?_)
   exact lf9 _ h
  ·refine Bn_leT (by omega) (If_T ?_)
   replace h := h.dr
   refine Dv_neT (by omega) (GdP_T (GdP_T (GdP_T (GdP_T (Dv_tB (a := k) (b := k + j) rfl rfl (by omega) (by omega) hpj ?_)))))
   refine GdP_T (GdP_T (Gd_T (cl1 h n_ref05_part (cc1 h.ext) fun w h => ?_)))
   refine GdP_T (Dv_eqSF ‹_› ?_)
   refine PickP_T (If_F (Bn_ad (by omega) (by omega) ?_))
   refine ⟨?_, ?_⟩
   refine ⟨?_, ?_⟩
   ·exact h
   ·exact .inr (.inr (.inr (.inl ⟨rfl, a1, a2, b⟩)))
   ·decide
 ·refine Bn_leT (by omega) (If_T ?_)
  replace h := h.dr
  refine Dv_neF (by omega) (GdP_FT (GdP_FT (GdP_FT (GdP_FT (GdP_FT (GdP_FT (Gd_FT (GdP_FT (PickP_F (If_F (Bn_ad (by omega) (by omega) ?_)))))))))))
  refine ⟨?_, ?_⟩
  refine ⟨?_, ?_⟩
  ·exact h
  ·exact .inr (.inr (.inr (.inr (.inl ⟨rfl, a1, a2, a3⟩))))
  ·decide
 ·have cc1 := fun {W : World} (e : Ext w0 W) => cp 1 ⟨by decide, by decide⟩ e
  rcases Bool.eq_false_or_eq_true (pc == pT z 1) with b | b
  ·have hf := hfound 1 (fun i h3 h0 hl => by rcases e3_cases h3 with rfl | rfl | rfl | rfl | rfl | rfl | rfl <;> first | (exfalso; omega) | exact beq_eq_false_iff_ne.1 ‹_›) ⟨by decide, by decide⟩ (by decide) (beq_iff_eq.1 b)
   rw [hf.1, hf.2, ← hjm2] at lf9
   refine Bn_leT (by omega) (If_T ?_)
   replace h := h.dr
   refine Dv_neT (by omega) (GdP_T (GdP_T (GdP_T (GdP_T (Dv_tB (a := k) (b := k + j) rfl rfl (by omega) (by omega) hpj ?_)))))
   refine GdP_T (GdP_T (Gd_T (cl1 h n_ref05_part (cc1 h.ext) fun w h => ?_)))
   refine GdP_T (Dv_eqS1 ‹_› ?_)
   refine PickP_T (If_T ?_)
   exact lf9 _ h
  ·refine Bn_leT (by omega) (If_T ?_)
   replace h := h.dr
   refine Dv_neT (by omega) (GdP_T (GdP_T (GdP_T (GdP_T (Dv_tB (a := k) (b := k + j) rfl rfl (by omega) (by omega) hpj ?_)))))
   refine GdP_T (GdP_T (Gd_T (cl1 h n_ref05_part (cc1 h.ext) fun w h => ?_)))
   refine GdP_T (Dv_eqSF ‹_› ?_)
   refine PickP_T (If_F (Bn_ad (by omega) (by omega) ?_))
   refine ⟨?_, ?_⟩
   refine ⟨?_, ?_⟩
   ·exact h
   ·exact .inr (.inr (.inr (.inr (.inr (.inl ⟨rfl, a1, a2, a3, b⟩)))))
   ·decide
 ·have cc1 := fun {W : World} (e : Ext w0 W) => cp 2 ⟨by decide, by decide⟩ e
  rcases Bool.eq_false_or_eq_true (pc == pT z 2) with b | b
  ·have hf := hfound 2 (fun i h3 h0 hl => by rcases e3_cases h3 with rfl | rfl | rfl | rfl | rfl | rfl | rfl <;> first | (exfalso; omega) | exact beq_eq_false_iff_ne.1 ‹_›) ⟨by decide, by decide⟩ (by decide) (beq_iff_eq.1 b)
   rw [hf.1, hf.2, ← hjm2] at lf9
   refine Bn_leT (by omega) (If_T ?_)
   replace h := h.dr
   refine Dv_neT (by omega) (GdP_T (GdP_T (GdP_T (GdP_T (Dv_tB (a := k) (b := k + j) rfl rfl (by omega) (by omega) hpj ?_)))))
   refine GdP_T (GdP_T (Gd_T (cl1 h n_ref05_part (cc1 h.ext) fun w h => ?_)))
   refine GdP_T (Dv_eqS1 ‹_› ?_)
   refine PickP_T (If_T ?_)
   exact lf9 _ h
  ·refine Bn_leT (by omega) (If_T ?_)
   replace h := h.dr
   refine Dv_neT (by omega) (GdP_T (GdP_T (GdP_T (GdP_T (Dv_tB (a := k) (b := k + j) rfl rfl (by omega) (by omega) hpj ?_)))))
   refine GdP_T (GdP_T (Gd_T (cl1 h n_ref05_part (cc1 h.ext) fun w h => ?_)))
   refine GdP_T (Dv_eqSF ‹_› ?_)
   refine PickP_T (If_F (Bn_ad (by omega) (by omega) ?_))
   refine ⟨?_, ?_⟩
   refine ⟨?_, ?_⟩
   ·exact h
   ·exact .inr (.inr (.inr (.inr (.inr (.inr (.inl ⟨rfl, a1, a2, a3, a5, b⟩))))))
   ·decide
 ·have cc1 := fun {W : World} (e : Ext w0 W) => cp 3 ⟨by decide, by decide⟩ e
  rcases Bool.eq_false_or_eq_true (pc == pT z 3) with b | b
  ·have hf := hfound 3 (fun i h3 h0 hl => by rcases e3_cases h3 with rfl | rfl | rfl | rfl | rfl | rfl | rfl <;> first | (exfalso; omega) | exact beq_eq_false_iff_ne.1 ‹_›) ⟨by decide, by decide⟩ (by decide) (beq_iff_eq.1 b)
   rw [hf.1, hf.2, ← hjm2] at lf9
   refine Bn_leT (by omega) (If_T ?_)
   replace h := h.dr
   refine Dv_neT (by omega) (GdP_T (GdP_T (GdP_T (GdP_T (Dv_tB (a := k) (b := k + j) rfl rfl (by omega) (by omega) hpj ?_)))))
   refine GdP_T (GdP_T (Gd_T (cl1 h n_ref05_part (cc1 h.ext) fun w h => ?_)))
   refine GdP_T (Dv_eqS1 ‹_› ?_)
   refine PickP_T (If_T ?_)
   exact lf9 _ h
  ·refine Bn_leT (by omega) (If_T ?_)
   replace h := h.dr
   refine Dv_neT (by omega) (GdP_T (GdP_T (GdP_T (GdP_T (Dv_tB (a := k) (b := k + j) rfl rfl (by omega) (by omega) hpj ?_)))))
   refine GdP_T (GdP_T (Gd_T (cl1 h n_ref05_part (cc1 h.ext) fun w h => ?_)))
   refine GdP_T (Dv_eqSF ‹_› ?_)
   refine PickP_T (If_F (Bn_ad (by omega) (by omega) ?_))
   refine ⟨?_, ?_⟩
   refine ⟨?_, ?_⟩
   ·exact h
   ·exact .inr (.inr (.inr (.inr (.inr (.inr (.inr (⟨rfl, a1, a2, a3, a5, a6, b⟩)))))))
   ·decide
 ·have hf := hnone (fun i h3 h0 => by rcases e3_cases h3 with rfl | rfl | rfl | rfl | rfl | rfl | rfl <;> first | (exfalso; omega) | exact beq_eq_false_iff_ne.1 ‹_›)
  rw [hf.1, hf.2, Nat.add_zero] at lf9
  refine Bn_leF (by omega) (If_F ?_)
  exact lf9 _ h
end
theorem bgL_le (w l : List UInt8) : bgL w l ≤ l.length := by
 unfold bgL; split
 ·exact pcs_len l
 ·omega
theorem c_fParseQ {w0 : World} {s : List UInt8} (hs : s.length ≤ 400000) : Calls Tryz.prog 32 #[str s] w0 (Ret fun r w' => Ext w0 w' ∧ r = rQ2 (parQ s)) := by
 obtain ⟨z, hB, hz⟩ := parseS_z (s.take (rp0 s))
 obtain ⟨hp1, hp2⟩ := ref_par hz
 have hlp : rp0 s ≤ s.length := by
  unfold rp0
  have := congrArg List.length (List.takeWhile_append_dropWhile (p := fun x : UInt8 => decide (x ≠ 32)) (l := s))
  rw [List.length_append] at this; omega
 have hlt : ∀ j, j < rp0 s → ∃ b, s[j]? = some b ∧ b ≠ 32 := fun j hj => tw_lt hj
 have hat : ∀ b, s[rp0 s]? = some b → b = 32 := fun b hb => tw_at hb
 have d0 : s.drop (rp0 s) = rl0 s := rfl
 have d1 : s.drop (rp0 s + bgL wUs (rl0 s)) = rl1 s := by unfold rl1; rw [← d0, List.drop_drop]
 have d2 : s.drop (rp0 s + bgL wUs (rl0 s) + bgL wBy (rl1 s)) = rl2 s := by unfold rl2; rw [← d1, List.drop_drop]
 have d3 : s.drop (rp0 s + bgL wUs (rl0 s) + bgL wBy (rl1 s) + bgL wCe (rl2 s)) = rl3 s := by unfold rl3; rw [← d2, List.drop_drop]
 have d4 : s.drop (rp0 s + bgL wUs (rl0 s) + bgL wBy (rl1 s) + bgL wCe (rl2 s) + bgL wOn (rl3 s)) = rl4 s := by unfold rl4; rw [← d3, List.drop_drop]
 have q0l : (rl0 s).length = s.length - rp0 s := by rw [← d0, List.length_drop]
 have b0 := bgL_le wUs (rl0 s)
 have q1l : (rl1 s).length = s.length - (rp0 s + bgL wUs (rl0 s)) := by rw [← d1, List.length_drop]
 have b1 := bgL_le wBy (rl1 s)
 have q2l : (rl2 s).length = s.length - (rp0 s + bgL wUs (rl0 s) + bgL wBy (rl1 s)) := by rw [← d2, List.length_drop]
 have b2 := bgL_le wCe (rl2 s)
 have q3l : (rl3 s).length = s.length - (rp0 s + bgL wUs (rl0 s) + bgL wBy (rl1 s) + bgL wCe (rl2 s)) := by rw [← d3, List.length_drop]
 have b3 := bgL_le wOn (rl3 s)
 have q4l : (rl4 s).length = s.length - (rp0 s + bgL wUs (rl0 s) + bgL wBy (rl1 s) + bgL wCe (rl2 s) + bgL wOn (rl3 s)) := by rw [← d4, List.length_drop]
 have cc0 : ∀ {W : World}, Ext w0 W → Calls Tryz.prog 73 #[str (s.take ((rp0 s : Nat) : Int).toNat)] W (Ret fun r w' => Ext W w' ∧ r = .tuple #[ov z, .int .i64 (eE z)]) := fun {W} _ => by
  have := c_fParse (w := W) (s := s.take (rp0 s)) (by rw [List.length_take]; omega)
  rw [hz] at this
  rw [Int.toNat_natCast]
  exact this
 have cc1 := fun {W : World} (_ : Ext w0 W) => c_begins (w0 := W) (s := s) (z := wUs) (k := rp0 s) (by omega) (by omega) (by decide)
 have cc2 := fun {W : World} (_ : Ext w0 W) => c_begins (w0 := W) (s := s) (z := wBy) (k := rp0 s + bgL wUs (rl0 s)) (by omega) (by omega) (by decide)
 have cc3 := fun {W : World} (_ : Ext w0 W) => c_begins (w0 := W) (s := s) (z := wCe) (k := rp0 s + bgL wUs (rl0 s) + bgL wBy (rl1 s)) (by omega) (by omega) (by decide)
 have cc4 := fun {W : World} (_ : Ext w0 W) => c_begins (w0 := W) (s := s) (z := wOn) (k := rp0 s + bgL wUs (rl0 s) + bgL wBy (rl1 s) + bgL wCe (rl2 s)) (by omega) (by omega) (by decide)
 rw [d0] at cc1
 rw [d1] at cc2
 rw [d2] at cc3
 rw [d3] at cc4
 have cc5 := fun {W : World} (_ : Ext w0 W) => c_result (w0 := W) (u := rpU s) hB
 have hcase : (rl4 s ≠ [] ∧ rp0 s + bgL wUs (rl0 s) + bgL wBy (rl1 s) + bgL wCe (rl2 s) + bgL wOn (rl3 s) < s.length) ∨ (rl4 s = [] ∧ rp0 s + bgL wUs (rl0 s) + bgL wBy (rl1 s) + bgL wCe (rl2 s) + bgL wOn (rl3 s) = s.length) := by
  by_cases h4 : rl4 s = []
  ·rw [h4, List.length_nil] at q4l
   exact .inr ⟨h4, by omega⟩
  ·have := List.length_pos_iff.2 h4
   exact .inl ⟨h4, by omega⟩
 have huu : rpU s = (bgN wUs (rl0 s), bgN wBy (rl1 s), bgN wCe (rl2 s), bgN wOn (rl3 s)) := rfl
 rw [huu] at cc5
 rw [huu] at hp2
 suffices main : ∀ (R : Ending → World → Prop), (∀ w, Hp [] w0 w [] → R (.returned (rQ2 (parQ s))) w) → s_ref05_Parse Tryz.prog (str s) w0 R from
  e_ref05_Parse (main _ fun w h => Ret.mk ⟨h.ext, rfl⟩)
 intro R lf9
 clear d0 d1 d2 d3 d4 q0l q1l q2l q3l q4l hz
 unfold s_ref05_Parse
 have h := Hp.init [] w0
 refine alS h fun g1 w h => ?_
 refine Lp1.mk (fun i W => ∃ j : Nat, i = .int .i64 (j : Int) ∧ j ≤ rp0 s ∧ Hp [] w0 W [bx g1 tQy (fQ q0)]) (fun i _ => match i with | .int _ i' => s.length - i'.toNat | _ => 0) ⟨0, rfl, by omega, h⟩ ?_
 clear h
 rintro _ W ⟨j, rfl, hj, h⟩
 by_cases hjm : j < rp0 s
 ·refine Exists.elim (hlt j hjm) fun b hb => ?_
  have hb1 := hb.1
  have hb2 : (b.toNat : Int) < 32 ∨ 32 < (b.toNat : Int) := by
   have : b.toNat ≠ 32 := fun e => hb.2 (UInt8.toNat_inj.1 e)
   omega
  refine Bt_lenT ?_
  refine Bn_ltT (by omega) (Gd_T (Gd_T (Gd_T (Ix_s (by rfl) ‹_› (by first | assumption | omega) ?_))))
  refine Gd_T (Bn_neT (by omega) (Pick_T (If_T (Bn_ad (by omega) (by omega) ?_))))
  refine ⟨⟨j + 1, rfl, by omega, h⟩, ?_⟩
  show s.length - ((j : Int) + 1).toNat < s.length - (j : Int).toNat
  omega
 have hjm2 : j = rp0 s := by omega
 revert h
 revert W
 apply meet
 ·intro w lfT h
  have cc0 := 0
  by_cases hend : j < s.length
  ·have hb0 : ∃ b, s[j]? = some b := ⟨_, List.getElem?_eq_getElem hend⟩
   refine Exists.elim hb0 fun b hb => ?_
   have hb3 : b = 32 := hat b (hjm2 ▸ hb)
   have hb2 : (b.toNat : Int) = 32 := by rw [hb3]; rfl
   refine Bt_lenT ?_
   refine Bn_ltT (by omega) (Gd_T (Gd_T (Gd_T (Ix_s (by rfl) ‹_› (by first | assumption | omega) ?_))))
   refine Gd_T (Bn_neF (by omega) (Pick_T (If_F (Sc_tH (by omega) (by omega) ?_))))
   exact lfT _ h
  ·refine Bt_lenT ?_
   refine Bn_ltF (by omega) (Gd_FT (Gd_FT (Gd_FT (Gd_FT (Pick_F (If_F (Sc_tH (by omega) (by omega) ?_)))))))
   exact lfT _ h
 intro w h
 rw [← hjm2] at cc0 cc1 cc2 cc3 cc4 hcase
 refine Or.elim hcase (fun hA => ?_) (fun hA => ?_)
 ·have hA2 := hA.2
  rw [hp1 hA.1] at lf9
  refine cl1 h n_ref04_Parse (cc0 h.ext) fun w h => ?_
  refine Ex2 (alS h fun g2 w h => ?_)
  refine stA h 0 rfl rfl rfl rfl fun w h => ?_
  refine bdS PC.nil (by rfl) ?_
  refine alS h fun g3 w h => ?_
  refine stA h 0 rfl rfl rfl rfl fun w h => ?_
  refine cl1 h n_ref05_begins (cc1 h.ext) fun w h => ?_
  refine Ex2 (faS (st1 h 0 rfl rfl rfl rfl fun w h => ?_))
  refine cl1 h n_ref05_begins (cc2 h.ext) fun w h => ?_
  refine Ex2 (faS (st1 h 0 rfl rfl rfl rfl fun w h => ?_))
  dsimp only [List.set] at h
  refine cl1 h n_ref05_begins (cc3 h.ext) fun w h => ?_
  refine Ex2 (faS (st1 h 0 rfl rfl rfl rfl fun w h => ?_))
  refine cl1 h n_ref05_begins (cc4 h.ext) fun w h => ?_
  refine Ex2 (faS (st1 h 0 rfl rfl rfl rfl fun w h => ?_))
  refine Bt_lenT ?_
  refine Bn_neT (by omega) (If_T (bdS PC.nil (by rfl) ?_))
  refine stA h 2 rfl rfl rfl rfl fun w h => ?_
  refine rcA h 2 rfl rfl ?_
  exact lf9 _ (h.pick [] (by decide) rfl)
 ·have hA2 := hA.2
  rw [← hp2 hA.1] at lf9
  refine cl1 h n_ref04_Parse (cc0 h.ext) fun w h => ?_
  refine Ex2 (alS h fun g2 w h => ?_)
  refine stA h 0 rfl rfl rfl rfl fun w h => ?_
  refine bdS PC.nil (by rfl) ?_
  refine alS h fun g3 w h => ?_
  refine stA h 0 rfl rfl rfl rfl fun w h => ?_
  refine cl1 h n_ref05_begins (cc1 h.ext) fun w h => ?_
  refine Ex2 (faS (st1 h 0 rfl rfl rfl rfl fun w h => ?_))
  refine cl1 h n_ref05_begins (cc2 h.ext) fun w h => ?_
  refine Ex2 (faS (st1 h 0 rfl rfl rfl rfl fun w h => ?_))
  dsimp only [List.set] at h
  refine cl1 h n_ref05_begins (cc3 h.ext) fun w h => ?_
  refine Ex2 (faS (st1 h 0 rfl rfl rfl rfl fun w h => ?_))
  refine cl1 h n_ref05_begins (cc4 h.ext) fun w h => ?_
  refine Ex2 (faS (st1 h 0 rfl rfl rfl rfl fun w h => ?_))
  refine Bt_lenT ?_
  refine Bn_neF (by omega) (If_F (ldA h 1 rfl rfl ?_))
  refine ldA h 0 rfl rfl ?_
  refine cl1 h n_ref05_result (cc5 h.ext) fun w h => ?_
  refine Ex2 (alS h fun g4 w h => ?_)
  refine stA h 0 rfl rfl rfl rfl fun w h => ?_
  refine ldA h 0 rfl rfl ?_
  refine stA h 3 rfl rfl rfl rfl fun w h => ?_
  dsimp only [List.set] at h
  refine rcA h 3 rfl rfl ?_
  exact lf9 _ (h.pick [] (by decide) rfl)
end Go.Proofs.YtdbcpkihokagkaaGreatDoor
