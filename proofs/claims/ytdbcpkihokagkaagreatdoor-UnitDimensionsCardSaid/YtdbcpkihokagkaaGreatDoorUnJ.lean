/-
  Contracts and plain lemmas. By an AI agent.
-/
import Derived.Test.YtdbcpkihokagkaaGreatDoorUnG
set_option linter.unusedSimpArgs false
set_option linter.unusedVariables false
set_option linter.unusedSectionVars false
namespace Go.Proofs.YtdbcpkihokagkaaGreatDoor
open Go Go.Eng Go.Proofs Go.Num Go.RowKit
set_option maxRecDepth 100000
abbrev tA4 : TypeId := 28
abbrev tOp : TypeId := 68
abbrev fQ (q : QT) : List Value := [str q.p.1, str q.p.2, .int .i64 q.u.1, .int .i64 q.u.2.1, .int .i64 q.u.2.2.1, .int .i64 q.u.2.2.2]
abbrev q0 : QT := ⟨([], []), 0, 0, 0, 0⟩
abbrev qV : Option QT → QT
 | some q => q
 | none => q0
abbrev qE : Option QT → Int
 | some _ => 0
 | none => 50
abbrev rQ2 (o : Option QT) : Value := .tuple #[vQ (qV o), .int .i64 (qE o)]
theorem u4_ne {u v : U4} (h : u ≠ v) : u.1 ≠ v.1 ∨ u.2.1 ≠ v.2.1 ∨ u.2.2.1 ≠ v.2.2.1 ∨ u.2.2.2 ≠ v.2.2.2 := by
 obtain ⟨a, b, c, d⟩ := u
 obtain ⟨a', b', c', d'⟩ := v
 by_cases h1 : a = a'
 ·by_cases h2 : b = b'
  ·by_cases h3 : c = c'
   ·by_cases h4 : d = d'
    ·exact absurd (by rw [h1, h2, h3, h4]) h
    ·exact .inr (.inr (.inr h4))
   ·exact .inr (.inr (.inl h3))
  ·exact .inr (.inl h2)
 ·exact .inl h1
abbrev mpU (g : Int → Int → Int) (u v : U4) : U4 := (g u.1 v.1, g u.2.1 v.2.1, g u.2.2.1 v.2.2.1, g u.2.2.2 v.2.2.2)
theorem neU_e {w : World} {K : Value → World → Prop} {c : Bool} {a b d e a' b' d' e' : Int} (h : a = a' ∧ b = b' ∧ d = d' ∧ e = e') (hk : K (.bool false) w) : Bn Tryz.prog .neq tUn c (.agg #[.int .i64 a, .int .i64 b, .int .i64 d, .int .i64 e]) (.agg #[.int .i64 a', .int .i64 b', .int .i64 d', .int .i64 e']) w K := by
 obtain ⟨rfl, rfl, rfl, rfl⟩ := h
 exact neU_f hk
section
variable {w0 : World} {a b : QT} (hka : QTk a) (hkb : QTk b) (hT : Tab w0)
include hka hkb hT
theorem c_apply {al : Bool} {vf ef : FuncId} {f : Option Rat → Option Rat → Option Rat} {g : Int → Int → Int} (nv : Enters Tryz.prog vf) (ne : Enters Tryz.prog ef)
 (cv : ∀ {W : World} {x y : Rat}, Ext w0 W → RB x → RB y → Calls Tryz.prog vf #[ov (some x), ov (some y)] W (Ret fun r w' => Ext W w' ∧ r = ot (f (some x) (some y))))
 (hB : ∀ x y, RB x → RB y → OB (f (some x) (some y)))
 (ce : ∀ {W : World} {i j : Int}, Ext w0 W → e3 i → e3 j → Calls Tryz.prog ef #[.int .i64 i, .int .i64 j] W (Ret fun r w' => Ext W w' ∧ r = .int .i64 (g i j))) :
 Calls Tryz.prog 44 #[.agg #[.func (.func vf) #[] #[], .func (.func ef) #[] #[], .bool al], vQ a, vQ b] w0 (Ret fun r w' => Ext w0 w' ∧ r = rQ2 (opQ al f g a b)) := by
 by_cases ha : (valQ a).isSome = true
 rotate_left
 ·have ha' : (valQ a).isSome = false := by simpa using ha
  have cc1 := fun {W : World} (x : Ext w0 W) => c_ValidQ (w0 := W) hka ha' (hT.ext x)
  rw [opQ_na ha']
  apply e_unit_apply
  unfold s_unit_apply
  have h := Hp.init [] w0
  refine bxA h fun g1 w h => ?_
  refine bxA h fun g2 w h => ?_
  refine bxA h fun g3 w h => ?_
  refine alS h fun g4 w h => ?_
  refine ldA h 2 rfl rfl ?_
  refine cl1 h n_unit_Valid (cc1 h.ext) fun w h => ?_
  refine Un_F (Gd_TF (Gd_TF (Gd_TF (Pick_T (Gd_TF (Gd_TF (Gd_TF (Gd_U (Gd_U (Gd_U (Gd_U (Gd_U (Gd_TF (Pick_T (If_T (bdS PC.nil (by rfl) ?_))))))))))))))))
  refine stA h 0 rfl rfl rfl rfl fun w h => ?_
  refine rcA h 0 rfl rfl ?_
  dsimp only [List.set] at h
  exact Ret.mk ⟨h.ext, rfl⟩
 have cc1 := fun {W : World} (x : Ext w0 W) => c_ValidQ (w0 := W) hka ha (hT.ext x)
 by_cases hb : (valQ b).isSome = true
 rotate_left
 ·have hb' : (valQ b).isSome = false := by simpa using hb
  have cc2 := fun {W : World} (x : Ext w0 W) => c_ValidQ (w0 := W) hkb hb' (hT.ext x)
  rw [opQ_nb hb']
  apply e_unit_apply
  unfold s_unit_apply
  have h := Hp.init [] w0
  refine bxA h fun g1 w h => ?_
  refine bxA h fun g2 w h => ?_
  refine bxA h fun g3 w h => ?_
  refine alS h fun g4 w h => ?_
  refine ldA h 2 rfl rfl ?_
  refine cl1 h n_unit_Valid (cc1 h.ext) fun w h => ?_
  refine Un_T (Gd_F (ldA h 1 rfl rfl ?_))
  refine Gd_F (cl1 h n_unit_Valid (cc2 h.ext) fun w h => ?_)
  refine Gd_F (Un_F (Pick_F (Gd_TF (Gd_TF (Gd_TF (Gd_U (Gd_U (Gd_U (Gd_U (Gd_U (Gd_TF (Pick_T (If_T (bdS PC.nil (by rfl) ?_))))))))))))))
  refine stA h 0 rfl rfl rfl rfl fun w h => ?_
  refine rcA h 0 rfl rfl ?_
  dsimp only [List.set] at h
  exact Ret.mk ⟨h.ext, rfl⟩
 have cc2 := fun {W : World} (x : Ext w0 W) => c_ValidQ (w0 := W) hkb hb (hT.ext x)
 by_cases hal : al = true ∧ a.u ≠ b.u
 ·obtain ⟨rfl, hu⟩ := hal
  rw [opQ_u hu]
  have hu4 := u4_ne hu
  apply e_unit_apply
  unfold s_unit_apply
  have h := Hp.init [] w0
  refine bxA h fun g1 w h => ?_
  refine bxA h fun g2 w h => ?_
  refine bxA h fun g3 w h => ?_
  refine alS h fun g4 w h => ?_
  refine ldA h 2 rfl rfl ?_
  refine cl1 h n_unit_Valid (cc1 h.ext) fun w h => ?_
  refine Un_T (Gd_F (ldA h 1 rfl rfl ?_))
  refine Gd_F (cl1 h n_unit_Valid (cc2 h.ext) fun w h => ?_)
  refine Gd_F (Un_T (Pick_F (Gd_F (faS (Gd_F (Eng.ld1 h 3 rfl rfl (Gd_F (Gd_T (faS (Gd_T (ldA h 2 rfl rfl ?_)))))))))))
  refine Gd_T (faS (Gd_T (ldA h 1 rfl rfl ?_)))
  refine Gd_T (neU_t ‹_› ?_)
  refine Gd_F (Pick_T (Pick_F (If_T (bdS PC.nil (by rfl) ?_))))
  refine stA h 0 rfl rfl rfl rfl fun w h => ?_
  refine rcA h 0 rfl rfl ?_
  dsimp only [List.set] at h
  exact Ret.mk ⟨h.ext, rfl⟩
 obtain ⟨x, hx⟩ := Option.isSome_iff_exists.1 ha
 obtain ⟨y, hy⟩ := Option.isSome_iff_exists.1 hb
 obtain ⟨ua, pa, ra, fa⟩ := valQ_some hx
 obtain ⟨ub, pb, rb, fb⟩ := valQ_some hy
 have hal' : al = true → a.u = b.u := fun e => Classical.byContradiction fun hc => hal ⟨e, hc⟩
 have e3a1 := ua.1
 have e3a2 := ua.2.1
 have e3a3 := ua.2.2.1
 have e3a4 := ua.2.2.2
 have e3b1 := ub.1
 have e3b2 := ub.2.1
 have e3b3 := ub.2.2.1
 have e3b4 := ub.2.2.2
 have hR := opQ_v (al := al) (f := f) (g := g) hx hy hal'
 have hBz := hB x y ra rb
 have cv' : ∀ {W : World}, Ext w0 W → Calls Tryz.prog vf #[.agg #[str a.p.1, str a.p.2], .agg #[str b.p.1, str b.p.2]] W (Ret fun r w' => Ext W w' ∧ r = ot (f (some x) (some y))) := fun e => by
  have := cv e ra rb
  rw [pa, pb]; exact this
 rw [hR]
 generalize f (some x) (some y) = z at *
 have hkz : QTk ⟨(eN z, eD z), mpU g a.u b.u⟩ := ⟨hBz.len.1, hBz.len.2⟩
 have hc : (eE z = 40 ∧ apO z (mpU g a.u b.u) = none) ∨ (eE z = 0 ∧ (valQ ⟨(eN z, eD z), mpU g a.u b.u⟩).isSome = false ∧ apO z (mpU g a.u b.u) = none) ∨ (eE z = 0 ∧ (valQ ⟨(eN z, eD z), mpU g a.u b.u⟩).isSome = true ∧ apO z (mpU g a.u b.u) = some ⟨(eN z, eD z), mpU g a.u b.u⟩) := by
  rcases z with _ | x
  ·exact .inl ⟨rfl, rfl⟩
  ·rcases hv : (valQ ⟨(eN (some x), eD (some x)), mpU g a.u b.u⟩).isSome with _ | _
   ·refine .inr (.inl ⟨rfl, rfl, ?_⟩)
    show (if (valQ ⟨tx x, mpU g a.u b.u⟩).isSome then some _ else none) = none
    exact if_neg (by rw [show valQ ⟨tx x, mpU g a.u b.u⟩ = valQ ⟨(eN (some x), eD (some x)), mpU g a.u b.u⟩ from rfl, hv]; decide)
   ·refine .inr (.inr ⟨rfl, rfl, ?_⟩)
    show (if (valQ ⟨tx x, mpU g a.u b.u⟩).isSome then some _ else none) = _
    exact if_pos hv
 have main : ∀ (R : Ending → World → Prop), (∀ w, Hp [] w0 w [] → R (.returned (rQ2 (apO z (mpU g a.u b.u)))) w) → s_unit_apply Tryz.prog (.agg #[.func (.func vf) #[] #[], .func (.func ef) #[] #[], .bool al]) (vQ a) (vQ b) w0 R := by
  intro R lf9
  have cc5 := fun {W : World} (_ : Ext w0 W) => c_exponents (w := W) (u := a.u)
  have cc6 := fun {W : World} (_ : Ext w0 W) => c_exponents (w := W) (u := b.u)
  have cc7 := fun {W : World} (_ : Ext w0 W) => c_unit (w := W) (u := mpU g a.u b.u)
  cases al
  rotate_left
  ·have hu4 : a.u.1 = b.u.1 ∧ a.u.2.1 = b.u.2.1 ∧ a.u.2.2.1 = b.u.2.2.1 ∧ a.u.2.2.2 = b.u.2.2.2 := by rw [hal' rfl]; exact ⟨rfl, rfl, rfl, rfl⟩
   unfold s_unit_apply
   have h := Hp.init [] w0
   refine bxA h fun g1 w h => ?_
   refine bxA h fun g2 w h => ?_
   refine bxA h fun g3 w h => ?_
   refine alS h fun g4 w h => ?_
   refine ldA h 2 rfl rfl ?_
   refine cl1 h n_unit_Valid (cc1 h.ext) fun w h => ?_
   refine Un_T (Gd_F (ldA h 1 rfl rfl ?_))
   refine Gd_F (cl1 h n_unit_Valid (cc2 h.ext) fun w h => ?_)
   refine Gd_F (Un_T (Pick_F (Gd_F (faS (Gd_F (Eng.ld1 h 3 rfl rfl (Gd_F (Gd_T (faS (Gd_T (ldA h 2 rfl rfl ?_)))))))))))
   refine Gd_T (faS (Gd_T (ldA h 1 rfl rfl ?_)))
   refine Gd_T (neU_e ‹_› ?_)
   refine Gd_F (Pick_T (Pick_F (If_F (faS (Eng.ld1 h 3 rfl rfl (faS (ldA h 2 rfl rfl ?_)))))))
   refine faS (ldA h 1 rfl rfl ?_)
   refine cw1 h nv (cv' h.ext) fun w h => ?_
   refine Ex2 (alS h fun g5 w h => ?_)
   refine stA h 0 rfl rfl rfl rfl fun w h => ?_
   dsimp only [List.set] at h
   refine Jn2.mk fun K hK => ?_
   have lf1 : ∀ gx gy w, Hp [] w0 w [bx gx tA4 [.int .i64 a.u.1, .int .i64 a.u.2.1, .int .i64 a.u.2.2.1, .int .i64 a.u.2.2.2], bx gy tA4 (fU4 b.u), bx g5 tR [str (eN z), str (eD z)], bx g4 tQy (fQ q0), bx g3 tQy (fQ b), bx g2 tQy (fQ a), bx g1 tOp [.func (.func vf) #[] #[], .func (.func ef) #[] #[], .bool true]] → K (pr gx 0) (pr gy 0) w := by
    clear h
    intro gx gy w h
    refine hK _ _ _ ?_
    clear hK
    refine Lp1.mk (fun i W => (i = .int .i64 0 ∧ Hp [] w0 W [bx gx tA4 [.int .i64 a.u.1, .int .i64 a.u.2.1, .int .i64 a.u.2.2.1, .int .i64 a.u.2.2.2], bx gy tA4 (fU4 b.u), bx g5 tR [str (eN z), str (eD z)], bx g4 tQy (fQ q0), bx g3 tQy (fQ b), bx g2 tQy (fQ a), bx g1 tOp [.func (.func vf) #[] #[], .func (.func ef) #[] #[], .bool true]]) ∨ (i = .int .i64 1 ∧ Hp [] w0 W [bx gx tA4 [.int .i64 (g a.u.1 b.u.1), .int .i64 a.u.2.1, .int .i64 a.u.2.2.1, .int .i64 a.u.2.2.2], bx gy tA4 (fU4 b.u), bx g5 tR [str (eN z), str (eD z)], bx g4 tQy (fQ q0), bx g3 tQy (fQ b), bx g2 tQy (fQ a), bx g1 tOp [.func (.func vf) #[] #[], .func (.func ef) #[] #[], .bool true]]) ∨ (i = .int .i64 2 ∧ Hp [] w0 W [bx gx tA4 [.int .i64 (g a.u.1 b.u.1), .int .i64 (g a.u.2.1 b.u.2.1), .int .i64 a.u.2.2.1, .int .i64 a.u.2.2.2], bx gy tA4 (fU4 b.u), bx g5 tR [str (eN z), str (eD z)], bx g4 tQy (fQ q0), bx g3 tQy (fQ b), bx g2 tQy (fQ a), bx g1 tOp [.func (.func vf) #[] #[], .func (.func ef) #[] #[], .bool true]]) ∨ (i = .int .i64 3 ∧ Hp [] w0 W [bx gx tA4 [.int .i64 (g a.u.1 b.u.1), .int .i64 (g a.u.2.1 b.u.2.1), .int .i64 (g a.u.2.2.1 b.u.2.2.1), .int .i64 a.u.2.2.2], bx gy tA4 (fU4 b.u), bx g5 tR [str (eN z), str (eD z)], bx g4 tQy (fQ q0), bx g3 tQy (fQ b), bx g2 tQy (fQ a), bx g1 tOp [.func (.func vf) #[] #[], .func (.func ef) #[] #[], .bool true]]) ∨ (i = .int .i64 4 ∧ Hp [] w0 W [bx gx tA4 [.int .i64 (g a.u.1 b.u.1), .int .i64 (g a.u.2.1 b.u.2.1), .int .i64 (g a.u.2.2.1 b.u.2.2.1), .int .i64 (g a.u.2.2.2 b.u.2.2.2)], bx gy tA4 (fU4 b.u), bx g5 tR [str (eN z), str (eD z)], bx g4 tQy (fQ q0), bx g3 tQy (fQ b), bx g2 tQy (fQ a), bx g1 tOp [.func (.func vf) #[] #[], .func (.func ef) #[] #[], .bool true]])) (fun i _ => match i with | .int _ i' => 4 - i'.toNat | _ => 0) (.inl ⟨rfl, h⟩) ?_
    clear h
    rintro _ W (⟨rfl, h⟩ | ⟨rfl, h⟩ | ⟨rfl, h⟩ | ⟨rfl, h⟩ | ⟨rfl, h⟩)
    ·refine Bn_ltT (by omega) (If_T ?_)
     replace h := h.dr
     refine dfS (dl1 h 6 rfl rfl (diZ (by decide) (by decide) ?_))
     refine dl1 h 0 rfl rfl (diZ (by decide) (by decide) ?_)
     refine dl1 h 1 rfl rfl (cw1 h ne (ce h.ext e3a1 e3b1) fun w h => ?_)
     refine diZ (by decide) (by decide) ?_
     refine st1 h 0 rfl rfl rfl rfl fun w h => ?_
     refine Bn_ad (by omega) (by omega) ?_
     dsimp only [List.set] at h
     exact ⟨.inr (.inl ⟨rfl, h⟩), by decide⟩
    ·refine Bn_ltT (by omega) (If_T ?_)
     replace h := h.dr
     refine dfS (dl1 h 6 rfl rfl (diZ (by decide) (by decide) ?_))
     refine dl1 h 0 rfl rfl (diZ (by decide) (by decide) ?_)
     refine dl1 h 1 rfl rfl (cw1 h ne (ce h.ext e3a2 e3b2) fun w h => ?_)
     refine diZ (by decide) (by decide) ?_
     refine st1 h 0 rfl rfl rfl rfl fun w h => ?_
     refine Bn_ad (by omega) (by omega) ?_
     dsimp only [List.set] at h
     exact ⟨.inr (.inr (.inl ⟨rfl, h⟩)), by decide⟩
    ·refine Bn_ltT (by omega) (If_T ?_)
     replace h := h.dr
     refine dfS (dl1 h 6 rfl rfl (diZ (by decide) (by decide) ?_))
     refine dl1 h 0 rfl rfl (diZ (by decide) (by decide) ?_)
     refine dl1 h 1 rfl rfl (cw1 h ne (ce h.ext e3a3 e3b3) fun w h => ?_)
     refine diZ (by decide) (by decide) ?_
     refine st1 h 0 rfl rfl rfl rfl fun w h => ?_
     refine Bn_ad (by omega) (by omega) ?_
     dsimp only [List.set] at h
     exact ⟨.inr (.inr (.inr (.inl ⟨rfl, h⟩))), by decide⟩
    ·refine Bn_ltT (by omega) (If_T ?_)
     replace h := h.dr
     refine dfS (dl1 h 6 rfl rfl (diZ (by decide) (by decide) ?_))
     refine dl1 h 0 rfl rfl (diZ (by decide) (by decide) ?_)
     refine dl1 h 1 rfl rfl (cw1 h ne (ce h.ext e3a4 e3b4) fun w h => ?_)
     refine diZ (by decide) (by decide) ?_
     refine st1 h 0 rfl rfl rfl rfl fun w h => ?_
     refine Bn_ad (by omega) (by omega) ?_
     dsimp only [List.set] at h
     exact ⟨.inr (.inr (.inr (.inr (⟨rfl, h⟩)))), by decide⟩
    ·refine Bn_ltF (by omega) (If_F (Jn1.mk fun K2 hK2 => ?_))
     have lf2 : ∀ gz w, Hp [] w0 w [bx gz tQy (fQ ⟨(eN z, eD z), mpU g a.u b.u⟩), bx g4 tQy (fQ q0)] → K2 (pr gz 0) w := by
      clear h
      intro gz w h
      refine hK2 _ _ ?_
      clear hK2
      rcases hc with ⟨hz, ha⟩ | ⟨hz, hv, ha⟩ | ⟨hz, hv, ha⟩
      ·rw [ha] at lf9
       refine Bn_neT (by omega) (Gd_TF (Gd_TF (Gd_TF (Pick_T (If_T (bdS PC.nil (by rfl) ?_))))))
       refine stA h 1 rfl rfl rfl rfl fun w h => ?_
       refine rcA h 1 rfl rfl ?_
       exact lf9 _ (h.pick [] (by decide) rfl)
      ·rw [ha] at lf9
       have cc4 := fun {W : World} (x : Ext w0 W) => c_ValidQ (w0 := W) hkz hv (hT.ext x)
       refine Bn_neF (by omega) (Gd_F (ldA h 0 rfl rfl ?_))
       refine Gd_F (cl1 h n_unit_Valid (cc4 h.ext) fun w h => ?_)
       refine Gd_F (Un_F (Pick_F (If_T (bdS PC.nil (by rfl) ?_))))
       refine stA h 1 rfl rfl rfl rfl fun w h => ?_
       refine rcA h 1 rfl rfl ?_
       exact lf9 _ (h.pick [] (by decide) rfl)
      ·rw [ha] at lf9
       have cc4 := fun {W : World} (x : Ext w0 W) => c_ValidQ (w0 := W) hkz hv (hT.ext x)
       refine Bn_neF (by omega) (Gd_F (ldA h 0 rfl rfl ?_))
       refine Gd_F (cl1 h n_unit_Valid (cc4 h.ext) fun w h => ?_)
       refine Gd_F (Un_T (Pick_F (If_F (ldA h 0 rfl rfl ?_))))
       refine stA h 1 rfl rfl rfl rfl fun w h => ?_
       refine rcA h 1 rfl rfl ?_
       exact lf9 _ (h.pick [] (by decide) rfl)
     clear hK2
     replace h := h.dr
     refine dlA h 2 rfl rfl ?_
     refine dlA h 0 rfl rfl ?_
     refine ⟨?_, ?_⟩
     refine cl1 h n_unit_unit (cc7 h.ext) fun w h => ?_
     refine klA h 2 rfl rfl ?_
     refine dbS (PC.cons (by rfl) (PC.cons (by rfl) PC.nil)) (by rfl) ?_
     refine alS h fun g6 w h => ?_
     refine klA h 3 rfl rfl ?_
     refine klA h 1 rfl rfl ?_
     refine stA h 0 rfl rfl rfl rfl fun w h => ?_
     exact lf2 _ _ (h.pick [0, 4] (by decide) rfl)
     refine alS h fun g6 w h => ?_
     refine klA h 3 rfl rfl ?_
     refine klA h 1 rfl rfl ?_
     refine cl1 h n_unit_unit (cc7 h.ext) fun w h => ?_
     refine klA h 3 rfl rfl ?_
     refine dbS (PC.cons (by rfl) (PC.cons (by rfl) PC.nil)) (by rfl) ?_
     refine stA h 0 rfl rfl rfl rfl fun w h => ?_
     exact lf2 _ _ (h.pick [0, 4] (by decide) rfl)
   clear hK
   replace h := h.dr
   refine dfS (dlA h 3 rfl rfl ?_)
   refine dfS (dlA h 2 rfl rfl ?_)
   refine ⟨?_, ?_⟩
   refine cl1 h n_unit_exponents (cc5 h.ext) fun w h => ?_
   refine klA h 2 rfl rfl ?_
   refine ⟨?_, ?_⟩
   refine cl1 h n_unit_exponents (cc6 h.ext) fun w h => ?_
   refine ⟨?_, ?_⟩
   refine alS h fun g6 w h => ?_
   refine klA h 4 rfl rfl ?_
   refine klA h 3 rfl rfl ?_
   refine alS h fun g7 w h => ?_
   refine klA h 5 rfl rfl ?_
   refine klA h 4 rfl rfl ?_
   refine stA h 1 rfl rfl rfl rfl fun w h => ?_
   refine stA h 0 rfl rfl rfl rfl fun w h => ?_
   exact lf1 _ _ _ (h.pick [1, 0, 2, 3, 4, 5, 6] (by decide) rfl)
   refine alS h fun g6 w h => ?_
   refine klA h 4 rfl rfl ?_
   refine klA h 3 rfl rfl ?_
   refine alS h fun g7 w h => ?_
   refine klA h 5 rfl rfl ?_
   refine klA h 4 rfl rfl ?_
   refine stA h 0 rfl rfl rfl rfl fun w h => ?_
   refine stA h 1 rfl rfl rfl rfl fun w h => ?_
   exact lf1 _ _ _ h
   refine ⟨?_, ?_⟩
   refine alS h fun g6 w h => ?_
   refine klA h 4 rfl rfl ?_
   refine klA h 3 rfl rfl ?_
   refine ⟨?_, ?_⟩
   refine cl1 h n_unit_exponents (cc6 h.ext) fun w h => ?_
   refine alS h fun g7 w h => ?_
   refine klA h 5 rfl rfl ?_
   refine klA h 4 rfl rfl ?_
   refine stA h 1 rfl rfl rfl rfl fun w h => ?_
   refine stA h 0 rfl rfl rfl rfl fun w h => ?_
   exact lf1 _ _ _ (h.pick [1, 0, 2, 3, 4, 5, 6] (by decide) rfl)
   refine alS h fun g7 w h => ?_
   refine klA h 5 rfl rfl ?_
   refine klA h 4 rfl rfl ?_
   refine cl1 h n_unit_exponents (cc6 h.ext) fun w h => ?_
   refine stA h 1 rfl rfl rfl rfl fun w h => ?_
   refine stA h 0 rfl rfl rfl rfl fun w h => ?_
   exact lf1 _ _ _ (h.pick [1, 0, 2, 3, 4, 5, 6] (by decide) rfl)
   refine alS h fun g6 w h => ?_
   refine klA h 4 rfl rfl ?_
   refine klA h 3 rfl rfl ?_
   refine ⟨?_, ?_⟩
   refine cl1 h n_unit_exponents (cc6 h.ext) fun w h => ?_
   refine alS h fun g7 w h => ?_
   refine klA h 5 rfl rfl ?_
   refine klA h 4 rfl rfl ?_
   refine stA h 0 rfl rfl rfl rfl fun w h => ?_
   refine stA h 1 rfl rfl rfl rfl fun w h => ?_
   exact lf1 _ _ _ h
   refine alS h fun g7 w h => ?_
   refine klA h 5 rfl rfl ?_
   refine klA h 4 rfl rfl ?_
   refine cl1 h n_unit_exponents (cc6 h.ext) fun w h => ?_
   refine stA h 0 rfl rfl rfl rfl fun w h => ?_
   refine stA h 1 rfl rfl rfl rfl fun w h => ?_
   exact lf1 _ _ _ h
   refine ⟨?_, ?_⟩
   refine alS h fun g6 w h => ?_
   refine klA h 4 rfl rfl ?_
   refine klA h 3 rfl rfl ?_
   refine ⟨?_, ?_⟩
   refine cl1 h n_unit_exponents (cc5 h.ext) fun w h => ?_
   refine klA h 3 rfl rfl ?_
   refine ⟨?_, ?_⟩
   refine cl1 h n_unit_exponents (cc6 h.ext) fun w h => ?_
   refine alS h fun g7 w h => ?_
   refine klA h 5 rfl rfl ?_
   refine klA h 4 rfl rfl ?_
   refine stA h 1 rfl rfl rfl rfl fun w h => ?_
   refine stA h 0 rfl rfl rfl rfl fun w h => ?_
   exact lf1 _ _ _ (h.pick [1, 0, 2, 3, 4, 5, 6] (by decide) rfl)
   refine alS h fun g7 w h => ?_
   refine klA h 5 rfl rfl ?_
   refine klA h 4 rfl rfl ?_
   refine cl1 h n_unit_exponents (cc6 h.ext) fun w h => ?_
   refine stA h 1 rfl rfl rfl rfl fun w h => ?_
   refine stA h 0 rfl rfl rfl rfl fun w h => ?_
   exact lf1 _ _ _ (h.pick [1, 0, 2, 3, 4, 5, 6] (by decide) rfl)
   refine alS h fun g7 w h => ?_
   refine klA h 5 rfl rfl ?_
   refine klA h 4 rfl rfl ?_
   refine cl1 h n_unit_exponents (cc5 h.ext) fun w h => ?_
   refine klA h 4 rfl rfl ?_
   refine cl1 h n_unit_exponents (cc6 h.ext) fun w h => ?_
   refine stA h 1 rfl rfl rfl rfl fun w h => ?_
   refine stA h 0 rfl rfl rfl rfl fun w h => ?_
   exact lf1 _ _ _ (h.pick [1, 0, 2, 3, 4, 5, 6] (by decide) rfl)
   refine alS h fun g6 w h => ?_
   refine klA h 4 rfl rfl ?_
   refine klA h 3 rfl rfl ?_
   refine ⟨?_, ?_⟩
   refine cl1 h n_unit_exponents (cc5 h.ext) fun w h => ?_
   refine klA h 3 rfl rfl ?_
   refine ⟨?_, ?_⟩
   refine cl1 h n_unit_exponents (cc6 h.ext) fun w h => ?_
   refine alS h fun g7 w h => ?_
   refine klA h 5 rfl rfl ?_
   refine klA h 4 rfl rfl ?_
   refine stA h 0 rfl rfl rfl rfl fun w h => ?_
   refine stA h 1 rfl rfl rfl rfl fun w h => ?_
   exact lf1 _ _ _ h
   refine alS h fun g7 w h => ?_
   refine klA h 5 rfl rfl ?_
   refine klA h 4 rfl rfl ?_
   refine cl1 h n_unit_exponents (cc6 h.ext) fun w h => ?_
   refine stA h 0 rfl rfl rfl rfl fun w h => ?_
   refine stA h 1 rfl rfl rfl rfl fun w h => ?_
   exact lf1 _ _ _ h
   refine alS h fun g7 w h => ?_
   refine klA h 5 rfl rfl ?_
   refine klA h 4 rfl rfl ?_
   refine cl1 h n_unit_exponents (cc5 h.ext) fun w h => ?_
   refine klA h 4 rfl rfl ?_
   refine cl1 h n_unit_exponents (cc6 h.ext) fun w h => ?_
   refine stA h 0 rfl rfl rfl rfl fun w h => ?_
   refine stA h 1 rfl rfl rfl rfl fun w h => ?_
   exact lf1 _ _ _ h
  unfold s_unit_apply
  have h := Hp.init [] w0
  refine bxA h fun g1 w h => ?_
  refine bxA h fun g2 w h => ?_
  refine bxA h fun g3 w h => ?_
  refine alS h fun g4 w h => ?_
  refine ldA h 2 rfl rfl ?_
  refine cl1 h n_unit_Valid (cc1 h.ext) fun w h => ?_
  refine Un_T (Gd_F (ldA h 1 rfl rfl ?_))
  refine Gd_F (cl1 h n_unit_Valid (cc2 h.ext) fun w h => ?_)
  refine Gd_F (Un_T (Pick_F (Gd_F (faS (Gd_F (Eng.ld1 h 3 rfl rfl (Gd_F (Gd_FT (Gd_FT (Gd_FT (Gd_FT (Gd_FT (Gd_F (Pick_F (Pick_F (If_F (faS (Eng.ld1 h 3 rfl rfl (faS (ldA h 2 rfl rfl ?_))))))))))))))))))))
  refine faS (ldA h 1 rfl rfl ?_)
  refine cw1 h nv (cv' h.ext) fun w h => ?_
  refine Ex2 (alS h fun g5 w h => ?_)
  refine stA h 0 rfl rfl rfl rfl fun w h => ?_
  dsimp only [List.set] at h
  refine Jn2.mk fun K hK => ?_
  have lf1 : ∀ gx gy w, Hp [] w0 w [bx gx tA4 [.int .i64 a.u.1, .int .i64 a.u.2.1, .int .i64 a.u.2.2.1, .int .i64 a.u.2.2.2], bx gy tA4 (fU4 b.u), bx g5 tR [str (eN z), str (eD z)], bx g4 tQy (fQ q0), bx g3 tQy (fQ b), bx g2 tQy (fQ a), bx g1 tOp [.func (.func vf) #[] #[], .func (.func ef) #[] #[], .bool false]] → K (pr gx 0) (pr gy 0) w := by
   clear h
   intro gx gy w h
   refine hK _ _ _ ?_
   clear hK
   refine Lp1.mk (fun i W => (i = .int .i64 0 ∧ Hp [] w0 W [bx gx tA4 [.int .i64 a.u.1, .int .i64 a.u.2.1, .int .i64 a.u.2.2.1, .int .i64 a.u.2.2.2], bx gy tA4 (fU4 b.u), bx g5 tR [str (eN z), str (eD z)], bx g4 tQy (fQ q0), bx g3 tQy (fQ b), bx g2 tQy (fQ a), bx g1 tOp [.func (.func vf) #[] #[], .func (.func ef) #[] #[], .bool false]]) ∨ (i = .int .i64 1 ∧ Hp [] w0 W [bx gx tA4 [.int .i64 (g a.u.1 b.u.1), .int .i64 a.u.2.1, .int .i64 a.u.2.2.1, .int .i64 a.u.2.2.2], bx gy tA4 (fU4 b.u), bx g5 tR [str (eN z), str (eD z)], bx g4 tQy (fQ q0), bx g3 tQy (fQ b), bx g2 tQy (fQ a), bx g1 tOp [.func (.func vf) #[] #[], .func (.func ef) #[] #[], .bool false]]) ∨ (i = .int .i64 2 ∧ Hp [] w0 W [bx gx tA4 [.int .i64 (g a.u.1 b.u.1), .int .i64 (g a.u.2.1 b.u.2.1), .int .i64 a.u.2.2.1, .int .i64 a.u.2.2.2], bx gy tA4 (fU4 b.u), bx g5 tR [str (eN z), str (eD z)], bx g4 tQy (fQ q0), bx g3 tQy (fQ b), bx g2 tQy (fQ a), bx g1 tOp [.func (.func vf) #[] #[], .func (.func ef) #[] #[], .bool false]]) ∨ (i = .int .i64 3 ∧ Hp [] w0 W [bx gx tA4 [.int .i64 (g a.u.1 b.u.1), .int .i64 (g a.u.2.1 b.u.2.1), .int .i64 (g a.u.2.2.1 b.u.2.2.1), .int .i64 a.u.2.2.2], bx gy tA4 (fU4 b.u), bx g5 tR [str (eN z), str (eD z)], bx g4 tQy (fQ q0), bx g3 tQy (fQ b), bx g2 tQy (fQ a), bx g1 tOp [.func (.func vf) #[] #[], .func (.func ef) #[] #[], .bool false]]) ∨ (i = .int .i64 4 ∧ Hp [] w0 W [bx gx tA4 [.int .i64 (g a.u.1 b.u.1), .int .i64 (g a.u.2.1 b.u.2.1), .int .i64 (g a.u.2.2.1 b.u.2.2.1), .int .i64 (g a.u.2.2.2 b.u.2.2.2)], bx gy tA4 (fU4 b.u), bx g5 tR [str (eN z), str (eD z)], bx g4 tQy (fQ q0), bx g3 tQy (fQ b), bx g2 tQy (fQ a), bx g1 tOp [.func (.func vf) #[] #[], .func (.func ef) #[] #[], .bool false]])) (fun i _ => match i with | .int _ i' => 4 - i'.toNat | _ => 0) (.inl ⟨rfl, h⟩) ?_
   clear h
   rintro _ W (⟨rfl, h⟩ | ⟨rfl, h⟩ | ⟨rfl, h⟩ | ⟨rfl, h⟩ | ⟨rfl, h⟩)
   ·refine Bn_ltT (by omega) (If_T ?_)
    replace h := h.dr
    refine dfS (dl1 h 6 rfl rfl (diZ (by decide) (by decide) ?_))
    refine dl1 h 0 rfl rfl (diZ (by decide) (by decide) ?_)
    refine dl1 h 1 rfl rfl (cw1 h ne (ce h.ext e3a1 e3b1) fun w h => ?_)
    refine diZ (by decide) (by decide) ?_
    refine st1 h 0 rfl rfl rfl rfl fun w h => ?_
    refine Bn_ad (by omega) (by omega) ?_
    dsimp only [List.set] at h
    exact ⟨.inr (.inl ⟨rfl, h⟩), by decide⟩
   ·refine Bn_ltT (by omega) (If_T ?_)
    replace h := h.dr
    refine dfS (dl1 h 6 rfl rfl (diZ (by decide) (by decide) ?_))
    refine dl1 h 0 rfl rfl (diZ (by decide) (by decide) ?_)
    refine dl1 h 1 rfl rfl (cw1 h ne (ce h.ext e3a2 e3b2) fun w h => ?_)
    refine diZ (by decide) (by decide) ?_
    refine st1 h 0 rfl rfl rfl rfl fun w h => ?_
    refine Bn_ad (by omega) (by omega) ?_
    dsimp only [List.set] at h
    exact ⟨.inr (.inr (.inl ⟨rfl, h⟩)), by decide⟩
   ·refine Bn_ltT (by omega) (If_T ?_)
    replace h := h.dr
    refine dfS (dl1 h 6 rfl rfl (diZ (by decide) (by decide) ?_))
    refine dl1 h 0 rfl rfl (diZ (by decide) (by decide) ?_)
    refine dl1 h 1 rfl rfl (cw1 h ne (ce h.ext e3a3 e3b3) fun w h => ?_)
    refine diZ (by decide) (by decide) ?_
    refine st1 h 0 rfl rfl rfl rfl fun w h => ?_
    refine Bn_ad (by omega) (by omega) ?_
    dsimp only [List.set] at h
    exact ⟨.inr (.inr (.inr (.inl ⟨rfl, h⟩))), by decide⟩
   ·refine Bn_ltT (by omega) (If_T ?_)
    replace h := h.dr
    refine dfS (dl1 h 6 rfl rfl (diZ (by decide) (by decide) ?_))
    refine dl1 h 0 rfl rfl (diZ (by decide) (by decide) ?_)
    refine dl1 h 1 rfl rfl (cw1 h ne (ce h.ext e3a4 e3b4) fun w h => ?_)
    refine diZ (by decide) (by decide) ?_
    refine st1 h 0 rfl rfl rfl rfl fun w h => ?_
    refine Bn_ad (by omega) (by omega) ?_
    dsimp only [List.set] at h
    exact ⟨.inr (.inr (.inr (.inr (⟨rfl, h⟩)))), by decide⟩
   ·refine Bn_ltF (by omega) (If_F (Jn1.mk fun K2 hK2 => ?_))
    have lf2 : ∀ gz w, Hp [] w0 w [bx gz tQy (fQ ⟨(eN z, eD z), mpU g a.u b.u⟩), bx g4 tQy (fQ q0)] → K2 (pr gz 0) w := by
     clear h
     intro gz w h
     refine hK2 _ _ ?_
     clear hK2
     rcases hc with ⟨hz, ha⟩ | ⟨hz, hv, ha⟩ | ⟨hz, hv, ha⟩
     ·rw [ha] at lf9
      refine Bn_neT (by omega) (Gd_TF (Gd_TF (Gd_TF (Pick_T (If_T (bdS PC.nil (by rfl) ?_))))))
      refine stA h 1 rfl rfl rfl rfl fun w h => ?_
      refine rcA h 1 rfl rfl ?_
      exact lf9 _ (h.pick [] (by decide) rfl)
     ·rw [ha] at lf9
      have cc4 := fun {W : World} (x : Ext w0 W) => c_ValidQ (w0 := W) hkz hv (hT.ext x)
      refine Bn_neF (by omega) (Gd_F (ldA h 0 rfl rfl ?_))
      refine Gd_F (cl1 h n_unit_Valid (cc4 h.ext) fun w h => ?_)
      refine Gd_F (Un_F (Pick_F (If_T (bdS PC.nil (by rfl) ?_))))
      refine stA h 1 rfl rfl rfl rfl fun w h => ?_
      refine rcA h 1 rfl rfl ?_
      exact lf9 _ (h.pick [] (by decide) rfl)
     ·rw [ha] at lf9
      have cc4 := fun {W : World} (x : Ext w0 W) => c_ValidQ (w0 := W) hkz hv (hT.ext x)
      refine Bn_neF (by omega) (Gd_F (ldA h 0 rfl rfl ?_))
      refine Gd_F (cl1 h n_unit_Valid (cc4 h.ext) fun w h => ?_)
      refine Gd_F (Un_T (Pick_F (If_F (ldA h 0 rfl rfl ?_))))
      refine stA h 1 rfl rfl rfl rfl fun w h => ?_
      refine rcA h 1 rfl rfl ?_
      exact lf9 _ (h.pick [] (by decide) rfl)
    clear hK2
    replace h := h.dr
    refine dlA h 2 rfl rfl ?_
    refine dlA h 0 rfl rfl ?_
    refine ⟨?_, ?_⟩
    refine cl1 h n_unit_unit (cc7 h.ext) fun w h => ?_
    refine klA h 2 rfl rfl ?_
    refine dbS (PC.cons (by rfl) (PC.cons (by rfl) PC.nil)) (by rfl) ?_
    refine alS h fun g6 w h => ?_
    refine klA h 3 rfl rfl ?_
    refine klA h 1 rfl rfl ?_
    refine stA h 0 rfl rfl rfl rfl fun w h => ?_
    exact lf2 _ _ (h.pick [0, 4] (by decide) rfl)
    refine alS h fun g6 w h => ?_
    refine klA h 3 rfl rfl ?_
    refine klA h 1 rfl rfl ?_
    refine cl1 h n_unit_unit (cc7 h.ext) fun w h => ?_
    refine klA h 3 rfl rfl ?_
    refine dbS (PC.cons (by rfl) (PC.cons (by rfl) PC.nil)) (by rfl) ?_
    refine stA h 0 rfl rfl rfl rfl fun w h => ?_
    exact lf2 _ _ (h.pick [0, 4] (by decide) rfl)
  clear hK
  replace h := h.dr
  refine dfS (dlA h 3 rfl rfl ?_)
  refine dfS (dlA h 2 rfl rfl ?_)
  refine ⟨?_, ?_⟩
  refine cl1 h n_unit_exponents (cc5 h.ext) fun w h => ?_
  refine klA h 2 rfl rfl ?_
  refine ⟨?_, ?_⟩
  refine cl1 h n_unit_exponents (cc6 h.ext) fun w h => ?_
  refine ⟨?_, ?_⟩
  refine alS h fun g6 w h => ?_
  refine klA h 4 rfl rfl ?_
  refine klA h 3 rfl rfl ?_
  refine alS h fun g7 w h => ?_
  refine klA h 5 rfl rfl ?_
  refine klA h 4 rfl rfl ?_
  refine stA h 1 rfl rfl rfl rfl fun w h => ?_
  refine stA h 0 rfl rfl rfl rfl fun w h => ?_
  exact lf1 _ _ _ (h.pick [1, 0, 2, 3, 4, 5, 6] (by decide) rfl)
  refine alS h fun g6 w h => ?_
  refine klA h 4 rfl rfl ?_
  refine klA h 3 rfl rfl ?_
  refine alS h fun g7 w h => ?_
  refine klA h 5 rfl rfl ?_
  refine klA h 4 rfl rfl ?_
  refine stA h 0 rfl rfl rfl rfl fun w h => ?_
  refine stA h 1 rfl rfl rfl rfl fun w h => ?_
  exact lf1 _ _ _ h
  refine ⟨?_, ?_⟩
  refine alS h fun g6 w h => ?_
  refine klA h 4 rfl rfl ?_
  refine klA h 3 rfl rfl ?_
  refine ⟨?_, ?_⟩
  refine cl1 h n_unit_exponents (cc6 h.ext) fun w h => ?_
  refine alS h fun g7 w h => ?_
  refine klA h 5 rfl rfl ?_
  refine klA h 4 rfl rfl ?_
  refine stA h 1 rfl rfl rfl rfl fun w h => ?_
  refine stA h 0 rfl rfl rfl rfl fun w h => ?_
  exact lf1 _ _ _ (h.pick [1, 0, 2, 3, 4, 5, 6] (by decide) rfl)
  refine alS h fun g7 w h => ?_
  refine klA h 5 rfl rfl ?_
  refine klA h 4 rfl rfl ?_
  refine cl1 h n_unit_exponents (cc6 h.ext) fun w h => ?_
  refine stA h 1 rfl rfl rfl rfl fun w h => ?_
  refine stA h 0 rfl rfl rfl rfl fun w h => ?_
  exact lf1 _ _ _ (h.pick [1, 0, 2, 3, 4, 5, 6] (by decide) rfl)
  refine alS h fun g6 w h => ?_
  refine klA h 4 rfl rfl ?_
  refine klA h 3 rfl rfl ?_
  refine ⟨?_, ?_⟩
  refine cl1 h n_unit_exponents (cc6 h.ext) fun w h => ?_
  refine alS h fun g7 w h => ?_
  refine klA h 5 rfl rfl ?_
  refine klA h 4 rfl rfl ?_
  refine stA h 0 rfl rfl rfl rfl fun w h => ?_
  refine stA h 1 rfl rfl rfl rfl fun w h => ?_
  exact lf1 _ _ _ h
  refine alS h fun g7 w h => ?_
  refine klA h 5 rfl rfl ?_
  refine klA h 4 rfl rfl ?_
  refine cl1 h n_unit_exponents (cc6 h.ext) fun w h => ?_
  refine stA h 0 rfl rfl rfl rfl fun w h => ?_
  refine stA h 1 rfl rfl rfl rfl fun w h => ?_
  exact lf1 _ _ _ h
  refine ⟨?_, ?_⟩
  refine alS h fun g6 w h => ?_
  refine klA h 4 rfl rfl ?_
  refine klA h 3 rfl rfl ?_
  refine ⟨?_, ?_⟩
  refine cl1 h n_unit_exponents (cc5 h.ext) fun w h => ?_
  refine klA h 3 rfl rfl ?_
  refine ⟨?_, ?_⟩
  refine cl1 h n_unit_exponents (cc6 h.ext) fun w h => ?_
  refine alS h fun g7 w h => ?_
  refine klA h 5 rfl rfl ?_
  refine klA h 4 rfl rfl ?_
  refine stA h 1 rfl rfl rfl rfl fun w h => ?_
  refine stA h 0 rfl rfl rfl rfl fun w h => ?_
  exact lf1 _ _ _ (h.pick [1, 0, 2, 3, 4, 5, 6] (by decide) rfl)
  refine alS h fun g7 w h => ?_
  refine klA h 5 rfl rfl ?_
  refine klA h 4 rfl rfl ?_
  refine cl1 h n_unit_exponents (cc6 h.ext) fun w h => ?_
  refine stA h 1 rfl rfl rfl rfl fun w h => ?_
  refine stA h 0 rfl rfl rfl rfl fun w h => ?_
  exact lf1 _ _ _ (h.pick [1, 0, 2, 3, 4, 5, 6] (by decide) rfl)
  refine alS h fun g7 w h => ?_
  refine klA h 5 rfl rfl ?_
  refine klA h 4 rfl rfl ?_
  refine cl1 h n_unit_exponents (cc5 h.ext) fun w h => ?_
  refine klA h 4 rfl rfl ?_
  refine cl1 h n_unit_exponents (cc6 h.ext) fun w h => ?_
  refine stA h 1 rfl rfl rfl rfl fun w h => ?_
  refine stA h 0 rfl rfl rfl rfl fun w h => ?_
  exact lf1 _ _ _ (h.pick [1, 0, 2, 3, 4, 5, 6] (by decide) rfl)
  refine alS h fun g6 w h => ?_
  refine klA h 4 rfl rfl ?_
  refine klA h 3 rfl rfl ?_
  refine ⟨?_, ?_⟩
  refine cl1 h n_unit_exponents (cc5 h.ext) fun w h => ?_
  refine klA h 3 rfl rfl ?_
  refine ⟨?_, ?_⟩
  refine cl1 h n_unit_exponents (cc6 h.ext) fun w h => ?_
  refine alS h fun g7 w h => ?_
  refine klA h 5 rfl rfl ?_
  refine klA h 4 rfl rfl ?_
  refine stA h 0 rfl rfl rfl rfl fun w h => ?_
  refine stA h 1 rfl rfl rfl rfl fun w h => ?_
  exact lf1 _ _ _ h
  refine alS h fun g7 w h => ?_
  refine klA h 5 rfl rfl ?_
  refine klA h 4 rfl rfl ?_
  refine cl1 h n_unit_exponents (cc6 h.ext) fun w h => ?_
  refine stA h 0 rfl rfl rfl rfl fun w h => ?_
  refine stA h 1 rfl rfl rfl rfl fun w h => ?_
  exact lf1 _ _ _ h
  refine alS h fun g7 w h => ?_
  refine klA h 5 rfl rfl ?_
  refine klA h 4 rfl rfl ?_
  refine cl1 h n_unit_exponents (cc5 h.ext) fun w h => ?_
  refine klA h 4 rfl rfl ?_
  refine cl1 h n_unit_exponents (cc6 h.ext) fun w h => ?_
  refine stA h 0 rfl rfl rfl rfl fun w h => ?_
  refine stA h 1 rfl rfl rfl rfl fun w h => ?_
  exact lf1 _ _ _ h
 exact e_unit_apply (main _ fun w h => Ret.mk ⟨h.ext, rfl⟩)
end
theorem c_first {w : World} {i j : Int} : Calls Tryz.prog 46 #[.int .i64 i, .int .i64 j] w (Ret fun r w' => Ext w w' ∧ r = .int .i64 i) := by
 apply e_unit_first_int
 unfold s_unit_first_int
 exact Ret.mk ⟨.refl _, rfl⟩
theorem c_mul1 {w : World} {i j : Int} (hi : e3 i) (hj : e3 j) : Calls Tryz.prog 52 #[.int .i64 i, .int .i64 j] w (Ret fun r w' => Ext w w' ∧ r = .int .i64 (i + j)) := by
 apply e_unit_Mul_1
 unfold s_unit_Mul_1
 have h := Hp.init [] w
 have := hi.1
 have := hi.2
 have := hj.1
 have := hj.2
 refine Bn_ad (by omega) (by omega) ?_
 exact Ret.mk ⟨.refl _, rfl⟩
theorem c_div1 {w : World} {i j : Int} (hi : e3 i) (hj : e3 j) : Calls Tryz.prog 56 #[.int .i64 i, .int .i64 j] w (Ret fun r w' => Ext w w' ∧ r = .int .i64 (i - j)) := by
 apply e_unit_Div_1
 unfold s_unit_Div_1
 have h := Hp.init [] w
 have := hi.1
 have := hi.2
 have := hj.1
 have := hj.2
 refine Bn_su (by omega) (by omega) ?_
 exact Ret.mk ⟨.refl _, rfl⟩
section
variable {w0 : World} {a b : QT} (hka : QTk a) (hkb : QTk b) (hT : Tab w0)
include hka hkb hT
theorem c_uAdd : Calls Tryz.prog 17 #[vQ a, vQ b] w0 (Ret fun r w' => Ext w0 w' ∧ r = rQ2 (addO a b)) := by
 have cc1 : ∀ {W : World}, Ext w0 W → Calls Tryz.prog 44 #[.agg #[.func (.func 45) #[] #[], .func (.func 46) #[] #[], .bool true], vQ a, vQ b] W (Ret fun r w' => Ext W w' ∧ r = rQ2 (addO a b)) := fun {W} e =>
  c_apply (w0 := W) hka hkb (hT.ext e) n_rational_Add n_unit_first_int (fun e' hx hy => o_add (.some hx) (.some hy) ((hT.ext e).ext e')) (fun x y _ _ => oBin_B fit_add (some x) (some y)) (fun _ _ _ => c_first)
 apply e_unit_Add
 unfold s_unit_Add
 have h := Hp.init [] w0
 refine bxA h fun g1 w h => ?_
 refine bxA h fun g2 w h => ?_
 refine alS h fun g3 w h => ?_
 refine bdS (PC.cons (by rfl) (PC.cons (by rfl) (PC.cons (by rfl) PC.nil))) (by rfl) ?_
 refine ldA h 2 rfl rfl ?_
 refine ldA h 1 rfl rfl ?_
 refine cl1 h n_unit_apply (cc1 h.ext) fun w h => ?_
 refine Ex2 (stA h 0 rfl rfl rfl rfl fun w h => ?_)
 refine rcA h 0 rfl rfl ?_
 dsimp only [List.set] at h
 exact Ret.mk ⟨h.ext, rfl⟩
theorem c_uSub : Calls Tryz.prog 19 #[vQ a, vQ b] w0 (Ret fun r w' => Ext w0 w' ∧ r = rQ2 (subO a b)) := by
 have cc1 : ∀ {W : World}, Ext w0 W → Calls Tryz.prog 44 #[.agg #[.func (.func 49) #[] #[], .func (.func 46) #[] #[], .bool true], vQ a, vQ b] W (Ret fun r w' => Ext W w' ∧ r = rQ2 (subO a b)) := fun {W} e =>
  c_apply (w0 := W) hka hkb (hT.ext e) n_rational_Sub n_unit_first_int (fun e' hx hy => o_sub (.some hx) (.some hy) ((hT.ext e).ext e')) (fun x y _ _ => oBin_B fit_sub (some x) (some y)) (fun _ _ _ => c_first)
 apply e_unit_Sub
 unfold s_unit_Sub
 have h := Hp.init [] w0
 refine bxA h fun g1 w h => ?_
 refine bxA h fun g2 w h => ?_
 refine alS h fun g3 w h => ?_
 refine bdS (PC.cons (by rfl) (PC.cons (by rfl) (PC.cons (by rfl) PC.nil))) (by rfl) ?_
 refine ldA h 2 rfl rfl ?_
 refine ldA h 1 rfl rfl ?_
 refine cl1 h n_unit_apply (cc1 h.ext) fun w h => ?_
 refine Ex2 (stA h 0 rfl rfl rfl rfl fun w h => ?_)
 refine rcA h 0 rfl rfl ?_
 dsimp only [List.set] at h
 exact Ret.mk ⟨h.ext, rfl⟩
theorem c_uMul : Calls Tryz.prog 21 #[vQ a, vQ b] w0 (Ret fun r w' => Ext w0 w' ∧ r = rQ2 (mulO a b)) := by
 have cc1 : ∀ {W : World}, Ext w0 W → Calls Tryz.prog 44 #[.agg #[.func (.func 51) #[] #[], .func (.func 52) #[] #[], .bool false], vQ a, vQ b] W (Ret fun r w' => Ext W w' ∧ r = rQ2 (mulO a b)) := fun {W} e =>
  c_apply (w0 := W) hka hkb (hT.ext e) n_rational_Mul n_unit_Mul_1 (fun e' hx hy => o_mul (.some hx) (.some hy) ((hT.ext e).ext e')) (fun x y _ _ => oBin_B fit_mul (some x) (some y)) (fun _ hi hj => c_mul1 hi hj)
 apply e_unit_Mul
 unfold s_unit_Mul
 have h := Hp.init [] w0
 refine bxA h fun g1 w h => ?_
 refine bxA h fun g2 w h => ?_
 refine alS h fun g3 w h => ?_
 refine bdS (PC.cons (by rfl) (PC.cons (by rfl) (PC.cons (by rfl) PC.nil))) (by rfl) ?_
 refine ldA h 2 rfl rfl ?_
 refine ldA h 1 rfl rfl ?_
 refine cl1 h n_unit_apply (cc1 h.ext) fun w h => ?_
 refine Ex2 (stA h 0 rfl rfl rfl rfl fun w h => ?_)
 refine rcA h 0 rfl rfl ?_
 dsimp only [List.set] at h
 exact Ret.mk ⟨h.ext, rfl⟩
theorem c_uDiv : Calls Tryz.prog 23 #[vQ a, vQ b] w0 (Ret fun r w' => Ext w0 w' ∧ r = rQ2 (divO a b)) := by
 have cc1 : ∀ {W : World}, Ext w0 W → Calls Tryz.prog 44 #[.agg #[.func (.func 55) #[] #[], .func (.func 56) #[] #[], .bool false], vQ a, vQ b] W (Ret fun r w' => Ext W w' ∧ r = rQ2 (divO a b)) := fun {W} e =>
  c_apply (w0 := W) hka hkb (hT.ext e) n_rational_Div n_unit_Div_1 (fun e' hx hy => o_div (.some hx) (.some hy) ((hT.ext e).ext e')) (fun x y _ _ => oBin_B fit_div (some x) (some y)) (fun _ hi hj => c_div1 hi hj)
 apply e_unit_Div
 unfold s_unit_Div
 have h := Hp.init [] w0
 refine bxA h fun g1 w h => ?_
 refine bxA h fun g2 w h => ?_
 refine alS h fun g3 w h => ?_
 refine bdS (PC.cons (by rfl) (PC.cons (by rfl) (PC.cons (by rfl) PC.nil))) (by rfl) ?_
 refine ldA h 2 rfl rfl ?_
 refine ldA h 1 rfl rfl ?_
 refine cl1 h n_unit_apply (cc1 h.ext) fun w h => ?_
 refine Ex2 (stA h 0 rfl rfl rfl rfl fun w h => ?_)
 refine rcA h 0 rfl rfl ?_
 dsimp only [List.set] at h
 exact Ret.mk ⟨h.ext, rfl⟩
end
abbrev cV : Option Int → Int
 | some c => c
 | none => 0
abbrev cE : Option Int → Int
 | some _ => 0
 | none => 50
theorem two_cases (a b : QT) : (valQ a).isSome = false ∨ ((valQ a).isSome = true ∧ (valQ b).isSome = false) ∨ ((valQ a).isSome = true ∧ (valQ b).isSome = true ∧ a.u ≠ b.u) ∨ ∃ x y, valQ a = some x ∧ valQ b = some y ∧ a.u = b.u := by
 by_cases ha : (valQ a).isSome = true
 ·by_cases hb : (valQ b).isSome = true
  ·by_cases hu : a.u = b.u
   ·obtain ⟨x, hx⟩ := Option.isSome_iff_exists.1 ha
    obtain ⟨y, hy⟩ := Option.isSome_iff_exists.1 hb
    exact .inr (.inr (.inr ⟨x, y, hx, hy, hu⟩))
   ·exact .inr (.inr (.inl ⟨ha, hb, hu⟩))
  ·exact .inr (.inl ⟨ha, by simpa using hb⟩)
 ·exact .inl (by simpa using ha)
theorem cmpO_v {a b : QT} {x y : Rat} (ha : valQ a = some x) (hb : valQ b = some y) (hu : a.u = b.u) : cmpO a b = some (cmpQ x y) := by
 unfold cmpO; rw [if_neg (fun h => h hu), ha, hb]
theorem cmpO_u {a b : QT} (h : a.u ≠ b.u) : cmpO a b = none := by
 unfold cmpO; rw [if_pos h]
theorem cmpO_na {a b : QT} (h : (valQ a).isSome = false) : cmpO a b = none := by
 have : valQ a = none := by simpa using h
 unfold cmpO; rw [this]; split <;> rfl
theorem cmpO_nb {a b : QT} (h : (valQ b).isSome = false) : cmpO a b = none := by
 have : valQ b = none := by simpa using h
 unfold cmpO; rw [this]; split
 ·rfl
 ·split <;> first | rfl | (next h => cases h)
section
variable {w0 : World} {a b : QT} (hka : QTk a) (hkb : QTk b) (hT : Tab w0)
include hka hkb hT
theorem c_uCmp : Calls Tryz.prog 25 #[vQ a, vQ b] w0 (Ret fun r w' => Ext w0 w' ∧ r = .tuple #[.int .i64 (cV (cmpO a b)), .int .i64 (cE (cmpO a b))]) := by
 rcases two_cases a b with ha | ⟨ha, hb⟩ | ⟨ha, hb, hu⟩ | ⟨x, y, ha, hb, hu⟩
 ·have cc1 := fun {W : World} (e : Ext w0 W) => c_ValidQ (w0 := W) hka ha (hT.ext e)
  rw [cmpO_na ha]
  apply e_unit_Compare
  unfold s_unit_Compare
  have h := Hp.init [] w0
  refine bxA h fun g1 w h => ?_
  refine bxA h fun g2 w h => ?_
  refine ldA h 1 rfl rfl ?_
  refine cl1 h n_unit_Valid (cc1 h.ext) fun w h => ?_
  refine Un_F (Gd_TF (Gd_TF (Gd_TF (Pick_T (Gd_TF (Gd_TF (Gd_TF (Gd_TF (Gd_TF (Pick_T (If_T ?_)))))))))))
  exact Ret.mk ⟨h.ext, rfl⟩
 ·have cc1 := fun {W : World} (e : Ext w0 W) => c_ValidQ (w0 := W) hka ha (hT.ext e)
  have cc2 := fun {W : World} (e : Ext w0 W) => c_ValidQ (w0 := W) hkb hb (hT.ext e)
  rw [cmpO_nb hb]
  apply e_unit_Compare
  unfold s_unit_Compare
  have h := Hp.init [] w0
  refine bxA h fun g1 w h => ?_
  refine bxA h fun g2 w h => ?_
  refine ldA h 1 rfl rfl ?_
  refine cl1 h n_unit_Valid (cc1 h.ext) fun w h => ?_
  refine Un_T (Gd_F (ldA h 0 rfl rfl ?_))
  refine Gd_F (cl1 h n_unit_Valid (cc2 h.ext) fun w h => ?_)
  refine Gd_F (Un_F (Pick_F (Gd_TF (Gd_TF (Gd_TF (Gd_TF (Gd_TF (Pick_T (If_T ?_)))))))))
  exact Ret.mk ⟨h.ext, rfl⟩
 ·have cc1 := fun {W : World} (e : Ext w0 W) => c_ValidQ (w0 := W) hka ha (hT.ext e)
  have cc2 := fun {W : World} (e : Ext w0 W) => c_ValidQ (w0 := W) hkb hb (hT.ext e)
  have hu4 := u4_ne hu
  rw [cmpO_u hu]
  apply e_unit_Compare
  unfold s_unit_Compare
  have h := Hp.init [] w0
  refine bxA h fun g1 w h => ?_
  refine bxA h fun g2 w h => ?_
  refine ldA h 1 rfl rfl ?_
  refine cl1 h n_unit_Valid (cc1 h.ext) fun w h => ?_
  refine Un_T (Gd_F (ldA h 0 rfl rfl ?_))
  refine Gd_F (cl1 h n_unit_Valid (cc2 h.ext) fun w h => ?_)
  refine Gd_F (Un_T (Pick_F (Gd_F (faS (Gd_F (ldA h 1 rfl rfl ?_))))))
  refine Gd_F (faS (Gd_F (ldA h 0 rfl rfl ?_)))
  refine Gd_F (neU_t ‹_› ?_)
  refine Pick_F (If_T ?_)
  exact Ret.mk ⟨h.ext, rfl⟩
 ·have cc1 := fun {W : World} (e : Ext w0 W) => c_ValidQ (w0 := W) hka (b := true) (by rw [ha]; rfl) (hT.ext e)
  have cc2 := fun {W : World} (e : Ext w0 W) => c_ValidQ (w0 := W) hkb (b := true) (by rw [hb]; rfl) (hT.ext e)
  obtain ⟨_, pa, ra, _⟩ := valQ_some ha
  obtain ⟨_, pb, rb, _⟩ := valQ_some hb
  have hu4 : a.u.1 = b.u.1 ∧ a.u.2.1 = b.u.2.1 ∧ a.u.2.2.1 = b.u.2.2.1 ∧ a.u.2.2.2 = b.u.2.2.2 := by rw [hu]; exact ⟨rfl, rfl, rfl, rfl⟩
  have cc3 : ∀ {W : World}, Ext w0 W → Calls Tryz.prog 35 #[.agg #[str a.p.1, str a.p.2], .agg #[str b.p.1, str b.p.2]] W (Ret fun r w' => Ext W w' ∧ r = .int .i64 (cmpQ x y)) := fun e => by
   rw [pa, pb]
   have := c_qCmp (w := _) (itoa_ok ra.n) (itoa_ok ra.d) (itoa_ok rb.n) (itoa_ok rb.d) (hT.ext e)
   rw [ans2_ok ra rb] at this
   exact this
  rw [cmpO_v ha hb hu]
  apply e_unit_Compare
  unfold s_unit_Compare
  have h := Hp.init [] w0
  refine bxA h fun g1 w h => ?_
  refine bxA h fun g2 w h => ?_
  refine ldA h 1 rfl rfl ?_
  refine cl1 h n_unit_Valid (cc1 h.ext) fun w h => ?_
  refine Un_T (Gd_F (ldA h 0 rfl rfl ?_))
  refine Gd_F (cl1 h n_unit_Valid (cc2 h.ext) fun w h => ?_)
  refine Gd_F (Un_T (Pick_F (Gd_F (faS (Gd_F (ldA h 1 rfl rfl ?_))))))
  refine Gd_F (faS (Gd_F (ldA h 0 rfl rfl ?_)))
  refine Gd_F (neU_e ‹_› ?_)
  refine Pick_F (If_F (faS (ldA h 1 rfl rfl ?_)))
  refine faS (ldA h 0 rfl rfl ?_)
  refine cl1 h n_rational_Compare (cc3 h.ext) fun w h => ?_
  exact Ret.mk ⟨h.ext, rfl⟩
end
end Go.Proofs.YtdbcpkihokagkaaGreatDoor
