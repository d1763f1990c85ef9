/-
  Contracts and plain lemmas. By an AI agent.
-/
import Derived.Test.YtjmdnjnjepinoaaGreatDoorCoJ
set_option linter.unusedSimpArgs false
set_option linter.unusedVariables false
set_option linter.unusedSectionVars false
namespace Go.Proofs.YtjmdnjnjepinoaaGreatDoor
open Go Go.Eng Go.Proofs Go.Num Go.RowKit
set_option maxRecDepth 100000
open Classical in
noncomputable def givL (L : List Nat) (n t : Nat) : List Bool := (List.range n).map fun i => decide (i ∈ L.take t)
theorem givL_len {L : List Nat} {n t : Nat} : (givL L n t).length = n := by unfold givL; simp
theorem givL_T {L : List Nat} {n t i : Nat} (hi : i < n) (h : i ∈ L.take t) : (givL L n t)[i]? = some true := by
 unfold givL; rw [List.getElem?_map, List.getElem?_range hi]; simp [h]
theorem givL_F {L : List Nat} {n t i : Nat} (hi : i < n) (h : i ∉ L.take t) : (givL L n t)[i]? = some false := by
 unfold givL; rw [List.getElem?_map, List.getElem?_range hi]; simp [h]
theorem givL_step {L : List Nat} {n t i : Nat} (h : L[t]? = some i) : (givL L n t).set i true = givL L n (t + 1) := by
 apply List.ext_getElem?
 intro k
 rw [List.getElem?_set]
 by_cases hki : i = k
 ·subst hki
  rw [if_pos rfl]
  by_cases hl : i < n
  ·rw [if_pos (by rw [givL_len]; exact hl), givL_T hl (by rw [take_snoc h]; simp)]
  ·rw [if_neg (by rw [givL_len]; exact hl), List.getElem?_eq_none (by rw [givL_len]; omega)]
 ·rw [if_neg hki]
  by_cases hl : k < n
  ·by_cases hm : k ∈ L.take t
   ·rw [givL_T hl hm, givL_T hl (by rw [take_snoc h]; simp [hm])]
   ·rw [givL_F hl hm, givL_F hl (by rw [take_snoc h]; simp [hm]; exact fun e => hki e.symm)]
  ·rw [List.getElem?_eq_none (by rw [givL_len]; omega), List.getElem?_eq_none (by rw [givL_len]; omega)]
theorem givL_0 {L : List Nat} {n : Nat} : List.replicate n false = givL L n 0 := by
 apply List.ext_getElem?
 intro k
 by_cases hl : k < n
 ·rw [givL_F hl (by simp), List.getElem?_replicate, if_pos hl]
 ·rw [List.getElem?_eq_none (by simp; omega), List.getElem?_eq_none (by rw [givL_len]; omega)]
abbrev vBl (b : Bool) : Value := .bool b
section
variable {w0 : World} {v : Value} {l : List RS} {a : Int} (hv : SlR w0 v l) (hk : RSok l) (hll : l.length ≤ 9223372036854775807) (haI : I64 a)
include hv hk hll haI
set_option maxHeartbeats 16000000 in
theorem c_fSplit : Calls Tryz.prog 25 #[.int .i64 a, v] w0 (Ret (PenR w0 (splO a l))) := by
 have hv' := hv
 have hv : SlC w0 2 v l.length (l.flatMap fR) := hv
 rcases hs : sumO l with _ | s
 ·have e : splO a l = none := by unfold splO; rw [hs]; rfl
  rw [e]
  apply e_ref26_Split
  unfold s_ref26_Split
  have h := Hp.init [] w0
  refine Cl_i n_ref26_Sum (c_fsum_n hv' hk hll haI hs) ?_
  rintro _ w' ⟨x, q, rfl⟩
  have h := h.x x
  refine Ex2 (alS h fun g1 w h => ?_)
  refine stA h 0 rfl rfl rfl rfl fun w h => ?_
  refine Un_F (Gd_TF (Gd_TF (Gd_TF (Pick_T (If_T ?_)))))
  dsimp only [List.set] at h
  exact Ret.mk ⟨rfl, h.ext⟩
 by_cases ha : 0 ≤ a ∧ a ≤ 1000000000
 rotate_left
 ·have e : splO a l = none := by unfold splO; rw [hs]; simp only [Option.bind_some]; rw [if_neg ha]
  have cc1 := fun {W : World} (_ : Ext w0 W) => c_finF (w := W) ha
  rw [e]
  apply e_ref26_Split
  unfold s_ref26_Split
  have h := Hp.init [] w0
  refine Cl_i n_ref26_Sum (c_fsum_y hv' hk hll haI hs) ?_
  rintro _ w' ⟨x, rfl⟩
  have h := h.x x
  refine Ex2 (alS h fun g1 w h => ?_)
  refine stA h 0 rfl rfl rfl rfl fun w h => ?_
  refine Un_T (Gd_F (Gd_F (cl1 h n_ref26_in (cc1 h.ext) fun w h => ?_)))
  refine Gd_F (Un_F (Pick_F (If_T ?_)))
  dsimp only [List.set] at h
  exact Ret.mk ⟨rfl, h.ext⟩
 obtain ⟨hn, hsv, hs0, hsB, hall⟩ := sumO_some hs
 have ha0 := ha.1
 have ha1 := ha.2
 have cc1 := fun {W : World} (_ : Ext w0 W) => c_finT (w := W) ha
 obtain ⟨o, ho⟩ : ∃ o, splO a l = o := ⟨_, rfl⟩
 rw [ho]
 apply e_ref26_Split
 unfold s_ref26_Split
 have h := Hp.init [] w0
 refine Cl_i n_ref26_Sum (c_fsum_y hv' hk hll haI hs) ?_
 rintro _ w' ⟨x, rfl⟩
 have h := h.x x
 refine Ex2 (alS h fun g1 w h => ?_)
 refine stA h 0 rfl rfl rfl rfl fun w h => ?_
 refine Un_T (Gd_F (Gd_F (cl1 h n_ref26_in (cc1 h.ext) fun w h => ?_)))
 refine Gd_F (Un_T (Pick_F (If_F ?_)))
 dsimp only [List.set] at h
 refine Lp5.mkK (fun u vr g b i W => ∃ (j : Nat) (E : List (Rat × Rat)), j ≤ l.length ∧ b = .int .i64 (a - wsum a E) ∧ i = .int .i64 j ∧ allO (elO a s) (l.take j) = some E ∧ (∀ e ∈ E, 0 ≤ e.1) ∧
  Hp [] w0 W [ro 4 1 g j ((List.replicate j false).map vBl), ro tR 2 vr j (E.flatMap fE2), ro tI 1 u j (E.flatMap (fW a)), bx g1 tR (fO (some s))])
  (fun _ _ _ _ i _ => match i with | .int _ i' => l.length - i'.toNat | _ => 0) ⟨0, [], by omega, by show _ = Value.int .i64 (a - 0); rw [Int.sub_zero], rfl, rfl, by simp, ((h.nil tI 1).nil tR 2).nil 4 1⟩ ?_
 clear h
 rintro u vr g _ _ W ⟨j, E, hj, rfl, rfl, hE, hEn, h⟩ K hK
 have hEl := allO_len hE
 rw [take_len hj] at hEl
 have hwb := wsum_bd ha0 hEn
 have hw2 : (E.length : Int) * a ≤ 12 * 1000000000 := Int.mul_le_mul (by omega) ha1 ha0 (by decide)
 have hw1 := hwb.1
 have hw3 := hwb.2
 by_cases hjl : j < l.length
 ·refine Exists.elim (p := fun x => l[j]? = some x) ⟨_, List.getElem?_eq_getElem hjl⟩ fun r hr => ?_
  have sr : Seg (l.flatMap fR) (j * 2) (fR r) := flat_seg (f := fR) (fun _ => rfl) hr
  have hrm := List.mem_of_getElem? hr
  refine Exists.elim (hall r hrm) fun x hx => ?_
  have hrx := (shR_some hx).1
  have hxB := (shR_some hx).2.1
  have hxv := xv_of hx
  have aB : RB (qI a) := rb_int haI
  have cc2 := fun {W : World} (_ : Ext w0 W) => c_fOf1 (w := W) (n := a) haI
  have ccM : ∀ {W : World}, Ext w0 W → Calls Tryz.prog 42 #[ov (some (qI a)), .agg #[str r.1, str r.2]] W (Ret fun r w' => Ext W w' ∧ r = ot (oMul (some (qI a)) (some x))) := fun {W} e => by
   have := o_fmul (w := W) (o := some (qI a)) (p := some x) (.some aB) (.some hxB)
   rw [hrx]; exact this
  refine (oc (oMul (some (qI a)) (some x))).elim (fun h1 => ?_) fun hy => Exists.elim hy fun y h1 => ?_
  ·have hno : o = none := ho ▸ splO_none hs ha hrm (elO_n1 hxv h1)
   rw [h1] at ccM
   have cc3 : ∀ {W : World}, Ext w0 W → Calls Tryz.prog 42 #[ov (some (qI a)), .agg #[str r.1, str r.2]] W (Ret fun r w' => Ext W w' ∧ r = .tuple #[ov none, .int .i64 40]) := ccM
   clear ccM cc1
   refine leS (hv.hp h) ?_
   refine Bn_ltT (by omega) (If_T ?_)
   refine Jn2.lfb tR (fO none) (.int .i64 40) h (fun K lf1 => ?_) (fun gx w h => ?_)
   ·replace h := h.dr
    refine diH h ‹_› (by omega) fun zb zo zk zv zc => ?_
    refine dhA h ‹_› ‹_› (by rfl) ?_
    refine ⟨?_, ?_⟩
    refine cl1 h n_ref26_Of (cc2 h.ext) fun w h => ?_
    refine khA h ‹_› ‹_› (by rfl) ?_
    refine ⟨?_, ?_⟩
    refine cl1 h n_ref04_Mul (cc3 h.ext) fun w h => ?_
    refine ExP2 (alS h fun g2 w h => ?_)
    refine khA h ‹_› ‹_› (by rfl) ?_
    refine stA h 0 rfl rfl rfl rfl fun w h => ?_
    exact lf1 _ _ h
    refine alS h fun g2 w h => ?_
    refine khA h ‹_› ‹_› (by rfl) ?_
    refine cl1 h n_ref04_Mul (cc3 h.ext) fun w h => ?_
    refine ExP2 (stA h 0 rfl rfl rfl rfl fun w h => ?_)
    exact lf1 _ _ h
    refine alS h fun g2 w h => ?_
    refine khA h ‹_› ‹_› (by rfl) ?_
    refine cl1 h n_ref26_Of (cc2 h.ext) fun w h => ?_
    refine khA h ‹_› ‹_› (by rfl) ?_
    refine cl1 h n_ref04_Mul (cc3 h.ext) fun w h => ?_
    refine ExP2 (stA h 0 rfl rfl rfl rfl fun w h => ?_)
    exact lf1 _ _ h
   refine Bn_neT (by omega) (If_T ?_)
   exact Ret.mk (by rw [hno]; exact ⟨rfl, h.ext⟩)
  rw [h1] at ccM
  have cc3 : ∀ {W : World}, Ext w0 W → Calls Tryz.prog 42 #[ov (some (qI a)), .agg #[str r.1, str r.2]] W (Ret fun r w' => Ext W w' ∧ r = .tuple #[ov (some y), .int .i64 0]) := ccM
  clear ccM
  have yB := (h1 ▸ oBin_B fit_mul (some (qI a)) (some x) : OB (some y)).get
  have ccD : ∀ {W : World}, Ext w0 W → Calls Tryz.prog 55 #[ov (some y), ov (some s)] W (Ret fun r w' => Ext W w' ∧ r = ot (oDiv (some y) (some s))) := fun {W} e => o_fdiv (.some yB) (.some hsB)
  refine (oc (oDiv (some y) (some s))).elim (fun h2 => ?_) fun hy => Exists.elim hy fun p h2 => ?_
  ·have hno : o = none := ho ▸ splO_none hs ha hrm (elO_n2 hxv h1 h2)
   rw [h2] at ccD
   have cc4 : ∀ {W : World}, Ext w0 W → Calls Tryz.prog 55 #[ov (some y), ov (some s)] W (Ret fun r w' => Ext W w' ∧ r = .tuple #[ov none, .int .i64 40]) := ccD
   clear ccD cc1
   refine leS (hv.hp h) ?_
   refine Bn_ltT (by omega) (If_T ?_)
   refine Jn2.lfb tR (fO (some y)) (.int .i64 0) h (fun K lf1 => ?_) (fun gx w h => ?_)
   ·replace h := h.dr
    refine diH h ‹_› (by omega) fun zb zo zk zv zc => ?_
    refine dhA h ‹_› ‹_› (by rfl) ?_
    refine ⟨?_, ?_⟩
    refine cl1 h n_ref26_Of (cc2 h.ext) fun w h => ?_
    refine khA h ‹_› ‹_› (by rfl) ?_
    refine ⟨?_, ?_⟩
    refine cl1 h n_ref04_Mul (cc3 h.ext) fun w h => ?_
    refine ExP2 (alS h fun g2 w h => ?_)
    refine khA h ‹_› ‹_› (by rfl) ?_
    refine stA h 0 rfl rfl rfl rfl fun w h => ?_
    exact lf1 _ _ h
    refine alS h fun g2 w h => ?_
    refine khA h ‹_› ‹_› (by rfl) ?_
    refine cl1 h n_ref04_Mul (cc3 h.ext) fun w h => ?_
    refine ExP2 (stA h 0 rfl rfl rfl rfl fun w h => ?_)
    exact lf1 _ _ h
    refine alS h fun g2 w h => ?_
    refine khA h ‹_› ‹_› (by rfl) ?_
    refine cl1 h n_ref26_Of (cc2 h.ext) fun w h => ?_
    refine khA h ‹_› ‹_› (by rfl) ?_
    refine cl1 h n_ref04_Mul (cc3 h.ext) fun w h => ?_
    refine ExP2 (stA h 0 rfl rfl rfl rfl fun w h => ?_)
    exact lf1 _ _ h
   refine Bn_neF (by omega) (If_F (ldA h 0 rfl rfl ?_))
   refine ldA h 4 rfl rfl ?_
   refine cl1 h n_ref04_Div (cc4 h.ext) fun w h => ?_
   refine Ex2 (alS h fun g2 w h => ?_)
   refine stA h 0 rfl rfl rfl rfl fun w h => ?_
   refine Bn_neT (by omega) (If_T ?_)
   dsimp only [List.set] at h
   exact Ret.mk (by rw [hno]; exact ⟨rfl, h.ext⟩)
  rw [h2] at ccD
  have cc4 : ∀ {W : World}, Ext w0 W → Calls Tryz.prog 55 #[ov (some y), ov (some s)] W (Ret fun r w' => Ext W w' ∧ r = .tuple #[ov (some p), .int .i64 0]) := ccD
  clear ccD
  have pB := (h2 ▸ oBin_B fit_div (some y) (some s) : OB (some p)).get
  have hp0 : 0 ≤ p := by
   have v1 := oBin_val h1
   have v2 := oBin_val h2
   have hsp : 0 < s := by
    have h0 : 0 ≤ s := by
     rw [hsv]
     exact lsum_nn fun r hr => by
      obtain ⟨x, hx⟩ := hall r hr
      rw [xv_of hx]; exact (shR_some hx).2.2.1
    grind
   have haq : (0 : Rat) ≤ qI a := by show (0 : Rat) ≤ (a : Rat); exact_mod_cast ha0
   have h3 : 0 ≤ qI a * x := Rat.mul_nonneg haq (shR_some hx).2.2.1
   rw [v2, v1]
   refine Rat.not_lt.1 fun h => ?_
   have := (Rat.div_lt_iff hsp).1 h
   rw [Rat.zero_mul] at this
   grind
  have hwz := whZ_bd hp0 ha0
  have hwz1 := hwz.1
  have hwz2 := hwz.2
  have cc5 : ∀ {W : World}, Ext w0 W → Calls Tryz.prog 43 #[ov (some p), .int .i64 a] W (Ret fun r w' => Ext W w' ∧ r = .int .i64 (whZ p a)) := fun {W} e => c_Floor (w0 := W) pB hp0 ha
  have cc6 := fun {W : World} (x : Ext w0 W) => c_fOf1 (w := W) (n := whZ p a) (by omega)
  have ccS : ∀ {W : World}, Ext w0 W → Calls Tryz.prog 56 #[ov (some p), ov (some (qI (whZ p a)))] W (Ret fun r w' => Ext W w' ∧ r = ot (oSub (some p) (some (qI (whZ p a))))) := fun {W} e => o_fsub (.some pB) (.some (rb_int (by omega)))
  refine (oc (oSub (some p) (some (qI (whZ p a))))).elim (fun h3 => ?_) fun hy => Exists.elim hy fun q h3 => ?_
  ·have hno : o = none := ho ▸ splO_none hs ha hrm (elO_n3 hxv h1 h2 h3)
   rw [h3] at ccS
   have cc7 : ∀ {W : World}, Ext w0 W → Calls Tryz.prog 56 #[ov (some p), ov (some (qI (whZ p a)))] W (Ret fun r w' => Ext W w' ∧ r = .tuple #[ov none, .int .i64 40]) := ccS
   clear ccS cc1
   refine leS (hv.hp h) ?_
   refine Bn_ltT (by omega) (If_T ?_)
   refine Jn2.lfb tR (fO (some y)) (.int .i64 0) h (fun K lf1 => ?_) (fun gx w h => ?_)
   ·replace h := h.dr
    refine diH h ‹_› (by omega) fun zb zo zk zv zc => ?_
    refine dhA h ‹_› ‹_› (by rfl) ?_
    refine ⟨?_, ?_⟩
    refine cl1 h n_ref26_Of (cc2 h.ext) fun w h => ?_
    refine khA h ‹_› ‹_› (by rfl) ?_
    refine ⟨?_, ?_⟩
    refine cl1 h n_ref04_Mul (cc3 h.ext) fun w h => ?_
    refine ExP2 (alS h fun g2 w h => ?_)
    refine khA h ‹_› ‹_› (by rfl) ?_
    refine stA h 0 rfl rfl rfl rfl fun w h => ?_
    exact lf1 _ _ h
    refine alS h fun g2 w h => ?_
    refine khA h ‹_› ‹_› (by rfl) ?_
    refine cl1 h n_ref04_Mul (cc3 h.ext) fun w h => ?_
    refine ExP2 (stA h 0 rfl rfl rfl rfl fun w h => ?_)
    exact lf1 _ _ h
    refine alS h fun g2 w h => ?_
    refine khA h ‹_› ‹_› (by rfl) ?_
    refine cl1 h n_ref26_Of (cc2 h.ext) fun w h => ?_
    refine khA h ‹_› ‹_› (by rfl) ?_
    refine cl1 h n_ref04_Mul (cc3 h.ext) fun w h => ?_
    refine ExP2 (stA h 0 rfl rfl rfl rfl fun w h => ?_)
    exact lf1 _ _ h
   refine Bn_neF (by omega) (If_F (ldA h 0 rfl rfl ?_))
   refine ldA h 4 rfl rfl ?_
   refine cl1 h n_ref04_Div (cc4 h.ext) fun w h => ?_
   refine Ex2 (alS h fun g2 w h => ?_)
   refine stA h 0 rfl rfl rfl rfl fun w h => ?_
   refine Bn_neF (by omega) (If_F (ldA h 0 rfl rfl ?_))
   refine cl1 h n_ref26_Floor (cc5 h.ext) fun w h => ?_
   dsimp only [List.set] at h
   refine Jn2.lfb tR (fO none) (.int .i64 40) h (fun K lf1 => ?_) (fun gx w h => ?_)
   ·replace h := h.dr
    refine dlA h 0 rfl rfl ?_
    refine ⟨?_, ?_⟩
    refine cl1 h n_ref26_Of (cc6 h.ext) fun w h => ?_
    refine klA h 0 rfl rfl ?_
    refine ⟨?_, ?_⟩
    refine cl1 h n_ref04_Sub (cc7 h.ext) fun w h => ?_
    refine ExP2 (alS h fun g3 w h => ?_)
    refine klA h 1 rfl rfl ?_
    refine stA h 0 rfl rfl rfl rfl fun w h => ?_
    exact lf1 _ _ h
    refine alS h fun g3 w h => ?_
    refine klA h 1 rfl rfl ?_
    refine cl1 h n_ref04_Sub (cc7 h.ext) fun w h => ?_
    refine ExP2 (stA h 0 rfl rfl rfl rfl fun w h => ?_)
    exact lf1 _ _ h
    refine alS h fun g3 w h => ?_
    refine klA h 1 rfl rfl ?_
    refine cl1 h n_ref26_Of (cc6 h.ext) fun w h => ?_
    refine klA h 1 rfl rfl ?_
    refine cl1 h n_ref04_Sub (cc7 h.ext) fun w h => ?_
    refine ExP2 (stA h 0 rfl rfl rfl rfl fun w h => ?_)
    exact lf1 _ _ h
   refine Bn_neT (by omega) (If_T ?_)
   exact Ret.mk (by rw [hno]; exact ⟨rfl, h.ext⟩)
  rw [h3] at ccS
  have cc7 : ∀ {W : World}, Ext w0 W → Calls Tryz.prog 56 #[ov (some p), ov (some (qI (whZ p a)))] W (Ret fun r w' => Ext W w' ∧ r = .tuple #[ov (some q), .int .i64 0]) := ccS
  clear ccS cc1
  have hEs := allO_snoc hE (elO_y hxv h1 h2 h3)
  rw [← take_snoc hr] at hEs
  have hEn' : ∀ e ∈ E ++ [(p, q)], 0 ≤ e.1 := fun e he => by
   rcases List.mem_append.1 he with he | he
   ·exact hEn e he
   ·simp at he; subst he; exact hp0
  refine leS (hv.hp h) ?_
  refine Bn_ltT (by omega) (If_T ?_)
  refine Jn2.lfb tR (fO (some y)) (.int .i64 0) h (fun K lf1 => ?_) (fun gx w h => ?_)
  ·replace h := h.dr
   refine diH h ‹_› (by omega) fun zb zo zk zv zc => ?_
   refine dhA h ‹_› ‹_› (by rfl) ?_
   refine ⟨?_, ?_⟩
   refine cl1 h n_ref26_Of (cc2 h.ext) fun w h => ?_
   refine khA h ‹_› ‹_› (by rfl) ?_
   refine ⟨?_, ?_⟩
   refine cl1 h n_ref04_Mul (cc3 h.ext) fun w h => ?_
   refine ExP2 (alS h fun g2 w h => ?_)
   refine khA h ‹_› ‹_› (by rfl) ?_
   refine stA h 0 rfl rfl rfl rfl fun w h => ?_
   exact lf1 _ _ h
   refine alS h fun g2 w h => ?_
   refine khA h ‹_› ‹_› (by rfl) ?_
   refine cl1 h n_ref04_Mul (cc3 h.ext) fun w h => ?_
   refine ExP2 (stA h 0 rfl rfl rfl rfl fun w h => ?_)
   exact lf1 _ _ h
   refine alS h fun g2 w h => ?_
   refine khA h ‹_› ‹_› (by rfl) ?_
   refine cl1 h n_ref26_Of (cc2 h.ext) fun w h => ?_
   refine khA h ‹_› ‹_› (by rfl) ?_
   refine cl1 h n_ref04_Mul (cc3 h.ext) fun w h => ?_
   refine ExP2 (stA h 0 rfl rfl rfl rfl fun w h => ?_)
   exact lf1 _ _ h
  refine Bn_neF (by omega) (If_F (ldA h 0 rfl rfl ?_))
  refine ldA h 4 rfl rfl ?_
  refine cl1 h n_ref04_Div (cc4 h.ext) fun w h => ?_
  refine Ex2 (alS h fun g2 w h => ?_)
  refine stA h 0 rfl rfl rfl rfl fun w h => ?_
  refine Bn_neF (by omega) (If_F (ldA h 0 rfl rfl ?_))
  refine cl1 h n_ref26_Floor (cc5 h.ext) fun w h => ?_
  dsimp only [List.set] at h
  refine Jn2.lfb tR (fO (some q)) (.int .i64 0) h (fun K lf1 => ?_) (fun gx w h => ?_)
  ·replace h := h.dr
   refine dlA h 0 rfl rfl ?_
   refine ⟨?_, ?_⟩
   refine cl1 h n_ref26_Of (cc6 h.ext) fun w h => ?_
   refine klA h 0 rfl rfl ?_
   refine ⟨?_, ?_⟩
   refine cl1 h n_ref04_Sub (cc7 h.ext) fun w h => ?_
   refine ExP2 (alS h fun g3 w h => ?_)
   refine klA h 1 rfl rfl ?_
   refine stA h 0 rfl rfl rfl rfl fun w h => ?_
   exact lf1 _ _ h
   refine alS h fun g3 w h => ?_
   refine klA h 1 rfl rfl ?_
   refine cl1 h n_ref04_Sub (cc7 h.ext) fun w h => ?_
   refine ExP2 (stA h 0 rfl rfl rfl rfl fun w h => ?_)
   exact lf1 _ _ h
   refine alS h fun g3 w h => ?_
   refine klA h 1 rfl rfl ?_
   refine cl1 h n_ref26_Of (cc6 h.ext) fun w h => ?_
   refine klA h 1 rfl rfl ?_
   refine cl1 h n_ref04_Sub (cc7 h.ext) fun w h => ?_
   refine ExP2 (stA h 0 rfl rfl rfl rfl fun w h => ?_)
   exact lf1 _ _ h
  refine Bn_neF (by omega) (If_F (Bn_su (by omega) (by omega) (bs1A h (by rfl) (by decide) (by rfl) (by decide) fun v1 w h => ?_)))
  refine apR (by rfl) (by decide) h 6 rfl (qZ 0 h rfl) (by first | rfl | assumption) (by omega) fun v2 w h => ?_
  refine ldA h 1 rfl rfl ?_
  refine bs1A h (by rfl) (by decide) (by rfl) (by decide) fun v3 w h => ?_
  refine apR (by rfl) (by decide) h 6 rfl (qZ 0 h rfl) (by first | rfl | assumption) (by omega) fun v4 w h => ?_
  refine bs1A h (by rfl) (by decide) (by rfl) (by decide) fun v5 w h => ?_
  refine apR (by rfl) (by decide) h 6 rfl (qZ 0 h rfl) (by first | rfl | assumption) (by omega) fun v6 w h => ?_
  refine Bn_ad (by omega) (by omega) ?_
  dsimp only [List.set] at h
  refine hK _ _ _ _ _ _ ⟨j + 1, E ++ [(p, q)], by omega, by rw [wsum_snoc, show a - (wsum a E + whZ (p, q).1 a) = a - wsum a E - whZ p a by show a - (wsum a E + whZ p a) = _; omega], rfl, hEs, hEn', ?_⟩ (by show l.length - ((j : Int) + 1).toNat < l.length - (j : Int).toNat; omega)
  rw [List.replicate_succ', List.map_append, List.flatMap_append, List.flatMap_append]
  exact h.pick [6, 7, 8, 9] (by decide) rfl
 have hjl' : j = l.length := by omega
 subst hjl'
 rw [List.take_length] at hE
 have hS := spl_of hs ha0 hE
 have hou := splO_some hs ha hE
 rw [ho] at hou
 have hSp := hS.spl
 refine Exists.elim (p := fun P => E.map (·.1) = P) ⟨_, rfl⟩ fun P hP => ?_
 refine Exists.elim (p := fun Q => E.map (·.2) = Q) ⟨_, rfl⟩ fun Q hQ => ?_
 have hPl : P.length = l.length := by rw [← hP, List.length_map]; exact hEl
 have hQl : Q.length = l.length := by rw [← hQ, List.length_map]; exact hEl
 have hRR : Rof Q = rsA P := funext fun i => by rw [← hQ, ← hP]; exact hS.R
 have hQB : ∀ q ∈ Q, RB q := fun q hq => by
  rw [← hQ] at hq
  obtain ⟨e, he', rfl⟩ := List.mem_map.1 hq
  obtain ⟨r, _, hr⟩ := allO_mem hE he'
  exact (elO_some hr).2.2.2
 have hws := wsum_fl (a := a) (E := E) hS.wh
 have ho0 := outL_0 (a := a) (E := E) (L := ordL (Rof Q) Q.length) hS.wh
 rw [hP] at hSp hou hws ho0
 have hle := hSp.left_le
 have hl0 := hSp.left0
 have hlw : a - wsum a E = leftA P a := by rw [hws]; rfl
 have e1 : E.flatMap fE2 = Q.flatMap fQ := by rw [← hQ, List.flatMap_map]
 have hOrd := ordL_ord (Rof Q) Q.length
 have hLl := hOrd.len
 have hLn := hOrd.nd
 refine Exists.elim (p := fun L => ordL (Rof Q) Q.length = L) ⟨_, rfl⟩ fun L hL => ?_
 rw [flat_fW, ho0, e1, ← hQl, givL_0 (L := L), hL] at h
 rw [hL] at hOrd hLl hLn ho0
 have hfin : outL P L (a - wsum a E).toNat = partsL P a := by rw [hlw, ← hL, hRR, show Q.length = P.length by omega]; rfl
 refine leS (hv.hp h) ?_
 refine Bn_ltF (by omega) (If_F ?_)
 have htn : (a - wsum a E).toNat ≤ Q.length := by rw [hlw]; omega
 refine Lp1.mk (fun i W => ∃ q : Nat, q ≤ (a - wsum a E).toNat ∧ i = .int .i64 (a - wsum a E - (q : Int)) ∧ Hp [] w0 W [ro 4 1 g Q.length ((givL L Q.length q).map vBl), ro tR 2 vr Q.length (Q.flatMap fQ), ro tI 1 u Q.length ((outL P L q).map vZ)])
  (fun i _ => match i with | .int _ i' => i'.toNat | _ => 0) ⟨0, by omega, by show _ = Value.int .i64 (a - wsum a E - 0); rw [Int.sub_zero], h.pick [0, 1, 2] (by decide) rfl⟩ ?_
 clear h
 rintro _ W ⟨q, hq, rfl, h⟩
 by_cases hqt : q < (a - wsum a E).toNat
 rotate_left
 ·have hqt' : q = (a - wsum a E).toNat := by omega
  have hl00 : a - wsum a E - (q : Int) = 0 := by omega
  rw [hqt', hfin] at h
  refine Bn_gtF (by omega) (If_F (Ret.mk ?_))
  rw [hou]
  refine ⟨u, rfl, ?_⟩
  have hpl : (partsL P a).length = Q.length := by unfold partsL; simp; omega
  rw [flat_fI, hpl]
  exact h.pick [2] (by decide) rfl
 have hqn : q < Q.length := by omega
 refine Bn_gtT (by omega) (If_T ?_)
 refine Lp2.mk (fun b i W => ∃ j : Nat, j ≤ Q.length ∧ i = .int .i64 j ∧ ((b = .int .i64 (-1) ∧ ∀ k, k < j → k ∈ L.take q) ∨ ∃ c : Nat, b = .int .i64 c ∧ c < j ∧ c ∉ L.take q ∧ ∀ k, k < j → k ∉ L.take q → k ≠ c → Bts (Rof Q) c k) ∧
  Hp [] w0 W [ro 4 1 g Q.length ((givL L Q.length q).map vBl), ro tR 2 vr Q.length (Q.flatMap fQ), ro tI 1 u Q.length ((outL P L q).map vZ)])
  (fun _ i _ => match i with | .int _ i' => Q.length - i'.toNat | _ => 0) ⟨0, by omega, rfl, .inl ⟨rfl, by omega⟩, h⟩ ?_
 clear h
 rintro _ _ W ⟨j, hj, rfl, hb, h⟩
 by_cases hjn : j < Q.length
 ·refine Exists.elim (p := fun x => Q[j]? = some x) ⟨_, List.getElem?_eq_getElem hjn⟩ fun x hx => ?_
  have sx : Seg (Q.flatMap fQ) (j * 2) (fQ x) := flat_seg (f := fQ) (fun _ => rfl) hx
  have rx : Rof Q j = x := by unfold Rof; rw [List.getD_eq_getElem?_getD, hx]; rfl
  by_cases hg : j ∈ L.take q
  ·have sg : Seg ((givL L Q.length q).map vBl) (j * 1) [.bool true] := seg_one (by rw [List.getElem?_map, givL_T hjn hg]; rfl)
   refine hb.elim (fun hb => ?_) fun hb => Exists.elim hb fun c hc => ?_
   ·have hb1 := hb.1
    subst hb1
    refine leS (qZ 2 h rfl) ?_
    refine Bn_ltT (by omega) (If_T (iaR h 0 rfl (by omega) fun zg zk zv => ?_))
    refine lr0 h 0 rfl ‹_› ‹_› (by rfl) ?_
    refine If_T (Bn_ad (by omega) (by omega) ?_)
    exact ⟨⟨j + 1, by omega, rfl, .inl ⟨rfl, fun k hk => by
     rcases Nat.lt_or_eq_of_le (Nat.le_of_lt_succ hk) with h1 | rfl
     ·exact hb.2 k h1
     ·exact hg⟩, h⟩, by show Q.length - ((j : Int) + 1).toNat < Q.length - (j : Int).toNat; omega⟩
   ·have hb1 := hc.1
    subst hb1
    refine leS (qZ 2 h rfl) ?_
    refine Bn_ltT (by omega) (If_T (iaR h 0 rfl (by omega) fun zg zk zv => ?_))
    refine lr0 h 0 rfl ‹_› ‹_› (by rfl) ?_
    refine If_T (Bn_ad (by omega) (by omega) ?_)
    exact ⟨⟨j + 1, by omega, rfl, .inr ⟨c, rfl, by omega, hc.2.2.1, fun k hk h1 h2 => by
     rcases Nat.lt_or_eq_of_le (Nat.le_of_lt_succ hk) with h3 | rfl
     ·exact hc.2.2.2 k h3 h1 h2
     ·exact absurd hg h1⟩, h⟩, by show Q.length - ((j : Int) + 1).toNat < Q.length - (j : Int).toNat; omega⟩
  ·have sg : Seg ((givL L Q.length q).map vBl) (j * 1) [.bool false] := seg_one (by rw [List.getElem?_map, givL_F hjn hg]; rfl)
   refine hb.elim (fun hb => ?_) fun hb => Exists.elim hb fun c hc => ?_
   ·have hb1 := hb.1
    subst hb1
    refine leS (qZ 2 h rfl) ?_
    refine Bn_ltT (by omega) (If_T (iaR h 0 rfl (by omega) fun zg zk zv => ?_))
    refine lr0 h 0 rfl ‹_› ‹_› (by rfl) ?_
    refine If_F (Bn_ltT (by omega) (If_T (Bn_ad (by omega) (by omega) ?_)))
    exact ⟨⟨j + 1, by omega, rfl, .inr ⟨j, rfl, by omega, hg, fun k hk h1 h2 => by
     rcases Nat.lt_or_eq_of_le (Nat.le_of_lt_succ hk) with h3 | rfl
     ·exact absurd (hb.2 k h3) h1
     ·exact absurd rfl h2⟩, h⟩, by show Q.length - ((j : Int) + 1).toNat < Q.length - (j : Int).toNat; omega⟩
   ·have hb1 := hc.1
    subst hb1
    have hcj := hc.2.1
    refine Exists.elim (p := fun x => Q[c]? = some x) ⟨_, List.getElem?_eq_getElem (by omega)⟩ fun y hy => ?_
    have sy : Seg (Q.flatMap fQ) (c * 2) (fQ y) := flat_seg (f := fQ) (fun _ => rfl) hy
    have ry : Rof Q c = y := by unfold Rof; rw [List.getD_eq_getElem?_getD, hy]; rfl
    have cc1 : ∀ {W : World}, Ext w0 W → Calls Tryz.prog 57 #[ov (some x), ov (some y)] W (Ret fun r w' => Ext W w' ∧ r = .int .i64 (cmpQ x y)) := fun _ => o_fcmp (hQB x (List.mem_of_getElem? hx)) (hQB y (List.mem_of_getElem? hy))
    have hcb := cmp_bd x y
    by_cases hgt : 0 < cmpQ x y
    ·have hlt : y < x := Rat.not_le.1 fun h => by have := (cmp_le x y).2 h; omega
     have hbt : Bts (Rof Q) j c := .inl (by rw [rx, ry]; exact hlt)
     refine leS (qZ 2 h rfl) ?_
     refine Bn_ltT (by omega) (If_T (iaR h 0 rfl (by omega) fun zg zk zv => ?_))
     refine lr0 h 0 rfl ‹_› ‹_› (by rfl) ?_
     refine If_F (Bn_ltF (by omega) (If_F ?_))
     replace h := h.dr
     refine diR h 1 rfl (by omega) fun zg zk zv => ?_
     refine drA h 1 rfl ‹_› ‹_› (by rfl) ?_
     refine diR h 1 rfl (by omega) fun zg zk zv => ?_
     refine drA h 1 rfl ‹_› ‹_› (by rfl) ?_
     refine cl1 h n_ref04_Compare (cc1 h.ext) fun w h => ?_
     refine Bn_gtT (by omega) (If_T (Bn_ad (by omega) (by omega) ?_))
     exact ⟨⟨j + 1, by omega, rfl, .inr ⟨j, rfl, by omega, hg, fun k hk h1 h2 => by
      by_cases hkc : k = c
      ·rw [hkc]; exact hbt
      ·rcases Nat.lt_or_eq_of_le (Nat.le_of_lt_succ hk) with h3 | rfl
       ·exact hbt.trans (hc.2.2.2 k h3 h1 hkc)
       ·exact absurd rfl h2⟩, h⟩, by show Q.length - ((j : Int) + 1).toNat < Q.length - (j : Int).toNat; omega⟩
    ·have hle : x ≤ y := (cmp_le x y).1 (by omega)
     have hbt : Bts (Rof Q) c j := by
      by_cases he : x = y
      ·exact .inr ⟨by rw [rx, ry, he], hcj⟩
      ·exact .inl (by rw [rx, ry]; grind)
     refine leS (qZ 2 h rfl) ?_
     refine Bn_ltT (by omega) (If_T (iaR h 0 rfl (by omega) fun zg zk zv => ?_))
     refine lr0 h 0 rfl ‹_› ‹_› (by rfl) ?_
     refine If_F (Bn_ltF (by omega) (If_F ?_))
     replace h := h.dr
     refine diR h 1 rfl (by omega) fun zg zk zv => ?_
     refine drA h 1 rfl ‹_› ‹_› (by rfl) ?_
     refine diR h 1 rfl (by omega) fun zg zk zv => ?_
     refine drA h 1 rfl ‹_› ‹_› (by rfl) ?_
     refine cl1 h n_ref04_Compare (cc1 h.ext) fun w h => ?_
     refine Bn_gtF (by omega) (If_F (Bn_ad (by omega) (by omega) ?_))
     exact ⟨⟨j + 1, by omega, rfl, .inr ⟨c, rfl, by omega, hc.2.2.1, fun k hk h1 h2 => by
      rcases Nat.lt_or_eq_of_le (Nat.le_of_lt_succ hk) with h3 | rfl
      ·exact hc.2.2.2 k h3 h1 h2
      ·exact hbt⟩, h⟩, by show Q.length - ((j : Int) + 1).toNat < Q.length - (j : Int).toNat; omega⟩
 have hjn' : j = Q.length := by omega
 subst hjn'
 have hbe : ∃ c : Nat, _ ∧ c < Q.length ∧ c ∉ L.take q ∧ ∀ k, k < Q.length → k ∉ L.take q → k ≠ c → Bts (Rof Q) c k := hb.resolve_left fun hb => by
  have h1 : L[q]? = some (L[q]'(by omega)) := List.getElem?_eq_getElem (by omega)
  have h2 := (hOrd.lt (i := L[q]'(by omega))).1 (List.getElem_mem _)
  have h3 := hb.2 _ h2
  have h4 : (L.take (q + 1)).Nodup := hLn.sublist (List.take_sublist _ _)
  rw [take_snoc h1] at h4
  exact (List.nodup_append.1 h4).2.2 _ h3 _ (by simp) rfl
 refine Exists.elim hbe fun c hc => ?_
 have hb1 := hc.1
 subst hb1
 have hcQ := hc.2.1
 have hLq := hOrd.next hqn hcQ hc.2.2.1 hc.2.2.2
 have hcP : c < P.length := by omega
 have hfl := hSp.fl0 hcP
 have hfa : flA P c ≤ a := by
  have h1 : (outL P L 0)[c]? = some (flA P c + ext1 L 0 c) := outL_get hcP
  have h2 := List.mem_of_getElem? h1
  rw [← ho0] at h2
  obtain ⟨e, he', h3⟩ := List.mem_map.1 h2
  have h4 := whZ_bd (hS.wh e he').2 ha0
  have h5 : ext1 L 0 c = 0 := by unfold ext1; simp
  omega
 have hx1 : 0 ≤ ext1 L q c ∧ ext1 L q c ≤ 1 := by unfold ext1; split <;> decide
 have su : Seg ((outL P L q).map vZ) (c * 1) [.int .i64 (flA P c + ext1 L q c)] := seg_one (by rw [List.getElem?_map, outL_get hcP]; rfl)
 have hst := outL_step hLn hLq (P := P)
 have hgs := givL_step (n := Q.length) hLq
 refine leS (qZ 2 h rfl) ?_
 refine Bn_ltF (by omega) (If_F (iaR h 2 rfl (by omega) fun zg zk zv => ?_))
 refine lr0 h 2 rfl ‹_› ‹_› (by rfl) ?_
 refine Bn_ad (by omega) (by omega) (iaR h 2 rfl (by omega) fun zg zk zv => ?_)
 refine stR1 h 2 rfl ‹_› (by rfl) (by rfl) (by omega) fun w h => ?_
 refine iaR h 0 rfl (by omega) fun zg zk zv => ?_
 refine stR1 h 0 rfl ‹_› (by rfl) (by rfl) (by omega) fun w h => ?_
 refine Bn_su (by omega) (by omega) ?_
 dsimp only [List.set] at h
 have e2 : ((outL P L q).map vZ).set (0 + c * 1) (.int .i64 (flA P c + ext1 L q c + 1)) = (outL P L (q + 1)).map vZ := by
  rw [← hst, List.map_set, Nat.zero_add, Nat.mul_one]
 have e3 : ((givL L Q.length q).map vBl).set (0 + c * 1) (.bool true) = (givL L Q.length (q + 1)).map vBl := by
  rw [← hgs, List.map_set, Nat.zero_add, Nat.mul_one]
 rw [e2, e3] at h
 exact ⟨⟨q + 1, by omega, by rw [show a - wsum a E - ((q + 1 : Nat) : Int) = a - wsum a E - (q : Int) - 1 by omega], h⟩, by show (a - wsum a E - (q : Int) - 1).toNat < (a - wsum a E - (q : Int)).toNat; omega⟩
end
end Go.Proofs.YtjmdnjnjepinoaaGreatDoor
