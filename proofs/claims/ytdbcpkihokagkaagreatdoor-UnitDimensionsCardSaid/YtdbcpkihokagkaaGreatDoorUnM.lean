/-
  Contracts and plain lemmas. By an AI agent.
-/
import Derived.Test.YtdbcpkihokagkaaGreatDoorUnL
set_option linter.unusedSimpArgs false
set_option linter.unusedVariables false
set_option linter.unusedSectionVars false
namespace Go.Proofs.YtdbcpkihokagkaaGreatDoor
open Go Go.Eng Go.Proofs Go.Num Go.RowKit
set_option maxRecDepth 100000
def WV (w : World) : Prop := Blk w 0 74 [str wUs, str wBy, str wCe, str wOn]
theorem WV.ext {w w' : World} (h : WV w) (x : Ext w w') : WV w' := Blk.ext h x
theorem it_len {n : Int} (h : e3 n) : (Lib.itoa n).length ≤ 2 := by
 rcases e3_cases h with rfl | rfl | rfl | rfl | rfl | rfl | rfl <;> simp [Lib.itoa, Lib.decDigits]
theorem pT_0 {w : List UInt8} {n : Int} (h : n = 0) : pT w n = [] := if_pos h
theorem pT_1 {w : List UInt8} {n : Int} (h : n = 1) : pT w n = [32] ++ w := by subst h; rfl
theorem pT_n {w : List UInt8} {n : Int} (h0 : n ≠ 0) (h1 : n ≠ 1) : pT w n = [32] ++ w ++ [94] ++ Lib.itoa n := by
 unfold pT wd
 rw [if_neg h0, if_neg h1]; simp
theorem pT_len {w : List UInt8} {n : Int} (h : e3 n) (hw : w.length ≤ 4) : (pT w n).length ≤ 8 := by
 have := it_len h
 by_cases h0 : n = 0
 ·rw [pT_0 h0]; simp
 ·by_cases h1 : n = 1
  ·rw [pT_1 h1]; simp; omega
  ·rw [pT_n h0 h1]; simp; omega
theorem printS_len {n d : List UInt8} {k m : Nat} (hn : n.length ≤ k) (hd : d.length ≤ m) : (printS n d).length ≤ k + m + 1 := by
 unfold printS
 split
 ·split
  ·omega
  ·simp; omega
 ·simp
section
variable {w0 : World} {q : QT} (hk : QTk q) (hT : Tab w0) (hW : WV w0)
include hk hT hW
theorem c_uPrint : Calls Tryz.prog 29 #[vQ q] w0 (Ret fun r w' => Ext w0 w' ∧ r = str (prQ q)) := by
 rcases hv : (valQ q).isSome with _ | _
 ·have cc1 := fun {W : World} (x : Ext w0 W) => c_ValidQ (w0 := W) hk hv (hT.ext x)
  rw [prQ_n hv]
  apply e_unit_Print
  unfold s_unit_Print
  have h := Hp.init [] w0
  refine bxA h fun g1 w h => ?_
  refine ldA h 0 rfl rfl ?_
  refine cl1 h n_unit_Valid (cc1 h.ext) fun w h => ?_
  refine Un_F (If_T ?_)
  exact Ret.mk ⟨h.ext, rfl⟩
 have cc1 := fun {W : World} (x : Ext w0 W) => c_ValidQ (w0 := W) hk hv (hT.ext x)
 have cc2 := fun {W : World} (x : Ext w0 W) => c_Print (w := W) hk.p1 hk.p2 (hT.ext x)
 have cc3 := fun {W : World} (_ : Ext w0 W) => c_exponents (w := W) (u := q.u)
 obtain ⟨b1, b2, hu⟩ := enc_bd hv
 have hpl := printS_len b1 b2
 have hg : Blk w0 0 74 [str wUs, str wBy, str wCe, str wOn] := hW
 have j0a := hu.1.1
 have j0b := hu.1.2
 have j0l := it_len hu.1
 have j0t := pT_len (w := wUs) hu.1 (by decide)
 have i0 : ∀ {W : World}, Ext w0 W → Calls Tryz.prog 64 #[.int .i64 (q.u.1)] W (Ret fun r w' => Ext W w' ∧ r = str (Lib.itoa (q.u.1))) := fun {W} x => (c_Itoa (w := W) (n := q.u.1) (by omega) (by omega) (hT.ext x)).mono (by rintro _ w' ⟨v, rfl, hr, hx⟩; exact ⟨v, rfl, hx, hr⟩)
 have j1a := hu.2.1.1
 have j1b := hu.2.1.2
 have j1l := it_len hu.2.1
 have j1t := pT_len (w := wBy) hu.2.1 (by decide)
 have i1 : ∀ {W : World}, Ext w0 W → Calls Tryz.prog 64 #[.int .i64 (q.u.2.1)] W (Ret fun r w' => Ext W w' ∧ r = str (Lib.itoa (q.u.2.1))) := fun {W} x => (c_Itoa (w := W) (n := q.u.2.1) (by omega) (by omega) (hT.ext x)).mono (by rintro _ w' ⟨v, rfl, hr, hx⟩; exact ⟨v, rfl, hx, hr⟩)
 have j2a := hu.2.2.1.1
 have j2b := hu.2.2.1.2
 have j2l := it_len hu.2.2.1
 have j2t := pT_len (w := wCe) hu.2.2.1 (by decide)
 have i2 : ∀ {W : World}, Ext w0 W → Calls Tryz.prog 64 #[.int .i64 (q.u.2.2.1)] W (Ret fun r w' => Ext W w' ∧ r = str (Lib.itoa (q.u.2.2.1))) := fun {W} x => (c_Itoa (w := W) (n := q.u.2.2.1) (by omega) (by omega) (hT.ext x)).mono (by rintro _ w' ⟨v, rfl, hr, hx⟩; exact ⟨v, rfl, hx, hr⟩)
 have j3a := hu.2.2.2.1
 have j3b := hu.2.2.2.2
 have j3l := it_len hu.2.2.2
 have j3t := pT_len (w := wOn) hu.2.2.2 (by decide)
 have i3 : ∀ {W : World}, Ext w0 W → Calls Tryz.prog 64 #[.int .i64 (q.u.2.2.2)] W (Ret fun r w' => Ext W w' ∧ r = str (Lib.itoa (q.u.2.2.2))) := fun {W} x => (c_Itoa (w := W) (n := q.u.2.2.2) (by omega) (by omega) (hT.ext x)).mono (by rintro _ w' ⟨v, rfl, hr, hx⟩; exact ⟨v, rfl, hx, hr⟩)
 rw [prQ_y hv]
 generalize printS q.p.1 q.p.2 = p at *
 apply e_unit_Print
 unfold s_unit_Print
 have h := Hp.init [] w0
 refine bxA h fun g1 w h => ?_
 refine ldA h 0 rfl rfl ?_
 refine cl1 h n_unit_Valid (cc1 h.ext) fun w h => ?_
 refine Un_T (If_F (faS (ldA h 0 rfl rfl ?_)))
 refine cl1 h n_rational_Print (cc2 h.ext) fun w h => ?_
 refine faS (ldA h 0 rfl rfl ?_)
 refine cl1 h n_unit_exponents (cc3 h.ext) fun w h => ?_
 refine Lp2.mk (fun a i W => (∃ l : List UInt8, a = str l ∧ ((i = .int .i64 0 ∧ l = p) ∨ (i = .int .i64 1 ∧ l = p ++ pT wUs q.u.1) ∨ (i = .int .i64 2 ∧ l = p ++ pT wUs q.u.1 ++ pT wBy q.u.2.1) ∨ (i = .int .i64 3 ∧ l = p ++ pT wUs q.u.1 ++ pT wBy q.u.2.1 ++ pT wCe q.u.2.2.1) ∨ (i = .int .i64 4 ∧ l = p ++ pT wUs q.u.1 ++ pT wBy q.u.2.1 ++ pT wCe q.u.2.2.1 ++ pT wOn q.u.2.2.2))) ∧ Hp [] w0 W [])
  (fun _ i _ => match i with | .int _ i' => 4 - i'.toNat | _ => 0) ⟨⟨p, rfl, .inl ⟨rfl, rfl⟩⟩, h.drop 1⟩ ?_
 clear h
 rintro _ _ W ⟨⟨l, rfl, (⟨rfl, hl⟩ | ⟨rfl, hl⟩ | ⟨rfl, hl⟩ | ⟨rfl, hl⟩ | ⟨rfl, hl⟩)⟩, h⟩
 ·have hll : l.length ≤ 130 + 8 * 0 := by rw [hl]; (try simp only [List.length_append]); omega
  have cc9 := fun {W : World} (x : Ext w0 W) => i0 x
  by_cases x0 : q.u.1 = 0
  ·refine Bn_ltT (by omega) (If_T (ixU0 ?_))
   refine Bn_eqT (by omega) (If_T (Bn_ad (by omega) (by omega) ?_))
   refine ⟨?_, ?_⟩
   ·exact ⟨⟨_, rfl, .inr (.inl ⟨rfl, by rw [pT_0 x0, List.append_nil]; exact hl⟩)⟩, h⟩
   ·decide
  by_cases x1 : q.u.1 = 1
  ·refine Bn_ltT (by omega) (If_T (ixU0 ?_))
   refine Bn_eqF (by omega) (If_F (Bn_eqT (by omega) (If_T (iaZ (by decide) (by decide) ?_))))
   refine lg1 h ‹_› (by rfl) ?_
   refine Bn_cat (by first | omega | (simp only [List.length_append, List.length_cons, List.length_nil]; omega)) ?_
   refine Bn_cat (by first | omega | (simp only [List.length_append, List.length_cons, List.length_nil]; omega)) ?_
   refine Bn_ad (by omega) (by omega) ?_
   refine ⟨?_, ?_⟩
   ·exact ⟨⟨_, rfl, .inr (.inl ⟨rfl, by rw [pT_1 x1, ← hl]⟩)⟩, h⟩
   ·decide
  ·refine Bn_ltT (by omega) (If_T (ixU0 ?_))
   refine Bn_eqF (by omega) (If_F (Bn_eqF (by omega) (If_F ?_)))
   replace h := h.dr
   refine diZ (by decide) (by decide) ?_
   refine dg1 h ‹_› (by rfl) ?_
   refine Dv_cat (by first | omega | (simp only [List.length_append, List.length_cons, List.length_nil]; omega)) ?_
   refine Dv_cat (by first | omega | (simp only [List.length_append, List.length_cons, List.length_nil]; omega)) ?_
   refine cl1 h n_strconv_Itoa (cc9 h.ext) fun w h => ?_
   refine kg1 h ‹_› (by rfl) ?_
   refine Dv_cat (by first | omega | (simp only [List.length_append, List.length_cons, List.length_nil]; omega)) ?_
   refine Dv_cat (by first | omega | (simp only [List.length_append, List.length_cons, List.length_nil]; omega)) ?_
   refine Bn_ad (by omega) (by omega) ?_
   refine ⟨?_, ?_⟩
   ·exact ⟨⟨_, rfl, .inr (.inl ⟨rfl, by rw [pT_n x0 x1, ← hl]⟩)⟩, h⟩
   ·decide
 ·have hll : l.length ≤ 130 + 8 * 1 := by rw [hl]; (try simp only [List.length_append]); omega
  have cc9 := fun {W : World} (x : Ext w0 W) => i1 x
  by_cases x0 : q.u.2.1 = 0
  ·refine Bn_ltT (by omega) (If_T (ixU1 ?_))
   refine Bn_eqT (by omega) (If_T (Bn_ad (by omega) (by omega) ?_))
   refine ⟨?_, ?_⟩
   ·exact ⟨⟨_, rfl, .inr (.inr (.inl ⟨rfl, by rw [pT_0 x0, List.append_nil]; exact hl⟩))⟩, h⟩
   ·decide
  by_cases x1 : q.u.2.1 = 1
  ·refine Bn_ltT (by omega) (If_T (ixU1 ?_))
   refine Bn_eqF (by omega) (If_F (Bn_eqT (by omega) (If_T (iaZ (by decide) (by decide) ?_))))
   refine lg1 h ‹_› (by rfl) ?_
   refine Bn_cat (by first | omega | (simp only [List.length_append, List.length_cons, List.length_nil]; omega)) ?_
   refine Bn_cat (by first | omega | (simp only [List.length_append, List.length_cons, List.length_nil]; omega)) ?_
   refine Bn_ad (by omega) (by omega) ?_
   refine ⟨?_, ?_⟩
   ·exact ⟨⟨_, rfl, .inr (.inr (.inl ⟨rfl, by rw [pT_1 x1, ← hl]⟩))⟩, h⟩
   ·decide
  ·refine Bn_ltT (by omega) (If_T (ixU1 ?_))
   refine Bn_eqF (by omega) (If_F (Bn_eqF (by omega) (If_F ?_)))
   replace h := h.dr
   refine diZ (by decide) (by decide) ?_
   refine dg1 h ‹_› (by rfl) ?_
   refine Dv_cat (by first | omega | (simp only [List.length_append, List.length_cons, List.length_nil]; omega)) ?_
   refine Dv_cat (by first | omega | (simp only [List.length_append, List.length_cons, List.length_nil]; omega)) ?_
   refine cl1 h n_strconv_Itoa (cc9 h.ext) fun w h => ?_
   refine kg1 h ‹_› (by rfl) ?_
   refine Dv_cat (by first | omega | (simp only [List.length_append, List.length_cons, List.length_nil]; omega)) ?_
   refine Dv_cat (by first | omega | (simp only [List.length_append, List.length_cons, List.length_nil]; omega)) ?_
   refine Bn_ad (by omega) (by omega) ?_
   refine ⟨?_, ?_⟩
   ·exact ⟨⟨_, rfl, .inr (.inr (.inl ⟨rfl, by rw [pT_n x0 x1, ← hl]⟩))⟩, h⟩
   ·decide
 ·have hll : l.length ≤ 130 + 8 * 2 := by rw [hl]; (try simp only [List.length_append]); omega
  have cc9 := fun {W : World} (x : Ext w0 W) => i2 x
  by_cases x0 : q.u.2.2.1 = 0
  ·refine Bn_ltT (by omega) (If_T (ixU2 ?_))
   refine Bn_eqT (by omega) (If_T (Bn_ad (by omega) (by omega) ?_))
   refine ⟨?_, ?_⟩
   ·exact ⟨⟨_, rfl, .inr (.inr (.inr (.inl ⟨rfl, by rw [pT_0 x0, List.append_nil]; exact hl⟩)))⟩, h⟩
   ·decide
  by_cases x1 : q.u.2.2.1 = 1
  ·refine Bn_ltT (by omega) (If_T (ixU2 ?_))
   refine Bn_eqF (by omega) (If_F (Bn_eqT (by omega) (If_T (iaZ (by decide) (by decide) ?_))))
   refine lg1 h ‹_› (by rfl) ?_
   refine Bn_cat (by first | omega | (simp only [List.length_append, List.length_cons, List.length_nil]; omega)) ?_
   refine Bn_cat (by first | omega | (simp only [List.length_append, List.length_cons, List.length_nil]; omega)) ?_
   refine Bn_ad (by omega) (by omega) ?_
   refine ⟨?_, ?_⟩
   ·exact ⟨⟨_, rfl, .inr (.inr (.inr (.inl ⟨rfl, by rw [pT_1 x1, ← hl]⟩)))⟩, h⟩
   ·decide
  ·refine Bn_ltT (by omega) (If_T (ixU2 ?_))
   refine Bn_eqF (by omega) (If_F (Bn_eqF (by omega) (If_F ?_)))
   replace h := h.dr
   refine diZ (by decide) (by decide) ?_
   refine dg1 h ‹_› (by rfl) ?_
   refine Dv_cat (by first | omega | (simp only [List.length_append, List.length_cons, List.length_nil]; omega)) ?_
   refine Dv_cat (by first | omega | (simp only [List.length_append, List.length_cons, List.length_nil]; omega)) ?_
   refine cl1 h n_strconv_Itoa (cc9 h.ext) fun w h => ?_
   refine kg1 h ‹_› (by rfl) ?_
   refine Dv_cat (by first | omega | (simp only [List.length_append, List.length_cons, List.length_nil]; omega)) ?_
   refine Dv_cat (by first | omega | (simp only [List.length_append, List.length_cons, List.length_nil]; omega)) ?_
   refine Bn_ad (by omega) (by omega) ?_
   refine ⟨?_, ?_⟩
   ·exact ⟨⟨_, rfl, .inr (.inr (.inr (.inl ⟨rfl, by rw [pT_n x0 x1, ← hl]⟩)))⟩, h⟩
   ·decide
 ·have hll : l.length ≤ 130 + 8 * 3 := by rw [hl]; (try simp only [List.length_append]); omega
  have cc9 := fun {W : World} (x : Ext w0 W) => i3 x
  by_cases x0 : q.u.2.2.2 = 0
  ·refine Bn_ltT (by omega) (If_T (ixU3 ?_))
   refine Bn_eqT (by omega) (If_T (Bn_ad (by omega) (by omega) ?_))
   refine ⟨?_, ?_⟩
   ·exact ⟨⟨_, rfl, .inr (.inr (.inr (.inr (⟨rfl, by rw [pT_0 x0, List.append_nil]; exact hl⟩))))⟩, h⟩
   ·decide
  by_cases x1 : q.u.2.2.2 = 1
  ·refine Bn_ltT (by omega) (If_T (ixU3 ?_))
   refine Bn_eqF (by omega) (If_F (Bn_eqT (by omega) (If_T (iaZ (by decide) (by decide) ?_))))
   refine lg1 h ‹_› (by rfl) ?_
   refine Bn_cat (by first | omega | (simp only [List.length_append, List.length_cons, List.length_nil]; omega)) ?_
   refine Bn_cat (by first | omega | (simp only [List.length_append, List.length_cons, List.length_nil]; omega)) ?_
   refine Bn_ad (by omega) (by omega) ?_
   refine ⟨?_, ?_⟩
   ·exact ⟨⟨_, rfl, .inr (.inr (.inr (.inr (⟨rfl, by rw [pT_1 x1, ← hl]⟩))))⟩, h⟩
   ·decide
  ·refine Bn_ltT (by omega) (If_T (ixU3 ?_))
   refine Bn_eqF (by omega) (If_F (Bn_eqF (by omega) (If_F ?_)))
   replace h := h.dr
   refine diZ (by decide) (by decide) ?_
   refine dg1 h ‹_› (by rfl) ?_
   refine Dv_cat (by first | omega | (simp only [List.length_append, List.length_cons, List.length_nil]; omega)) ?_
   refine Dv_cat (by first | omega | (simp only [List.length_append, List.length_cons, List.length_nil]; omega)) ?_
   refine cl1 h n_strconv_Itoa (cc9 h.ext) fun w h => ?_
   refine kg1 h ‹_› (by rfl) ?_
   refine Dv_cat (by first | omega | (simp only [List.length_append, List.length_cons, List.length_nil]; omega)) ?_
   refine Dv_cat (by first | omega | (simp only [List.length_append, List.length_cons, List.length_nil]; omega)) ?_
   refine Bn_ad (by omega) (by omega) ?_
   refine ⟨?_, ?_⟩
   ·exact ⟨⟨_, rfl, .inr (.inr (.inr (.inr (⟨rfl, by rw [pT_n x0 x1, ← hl]⟩))))⟩, h⟩
   ·decide
 ·refine Bn_ltF (by omega) (If_F ?_)
  exact Ret.mk ⟨h.ext, by rw [hl]; simp only [prU, List.append_assoc]⟩
end
end Go.Proofs.YtdbcpkihokagkaaGreatDoor
