/-
  Contracts and plain lemmas. By an AI agent.
-/
import Derived.Test.YtjmdnjnjepinoaaGreatDoorCoE
import Derived.Test.YtjmdnjnjepinoaaGreatDoorPlain
set_option linter.unusedSimpArgs false
set_option linter.unusedVariables false
set_option linter.unusedSectionVars false
namespace Go.Proofs.YtjmdnjnjepinoaaGreatDoor
open Go Go.Eng Go.Proofs Go.Num Go.RowKit
set_option maxRecDepth 100000
section
variable {w0 : World} {v : Value} {l : List RS} (hv : SlR w0 v l) (hk : RSok l) (hll : l.length ≤ 9223372036854775807)
include hv hk hll
set_option maxHeartbeats 4000000 in
theorem c_fSumS : Calls Tryz.prog 54 #[v] w0 (Ret (SumR w0 l)) := by
 have hv : SlC w0 2 v l.length (l.flatMap fR) := hv
 have cc1 := fun {W : World} (_ : Ext w0 W) => c_fOf1 (w := W) (n := 0) (by decide)
 by_cases hn : (1 : Int) ≤ (l.length : Int) ∧ (l.length : Int) ≤ 12
 rotate_left
 ·have cc2 := fun {W : World} (_ : Ext w0 W) => c_finF (w := W) hn
  have hno : sumO l = none := by
   unfold sumO
   rw [if_neg (by omega)]
  apply e_ref26_Sum
  unfold s_ref26_Sum
  have h := Hp.init [] w0
  refine alS h fun g1 w h => ?_
  refine cl1 h n_ref26_Of (cc1 h.ext) fun w h => ?_
  refine alS h fun g2 w h => ?_
  refine stA h 0 rfl rfl rfl rfl fun w h => ?_
  refine leS (hv.hp h) ?_
  refine cl1 h n_ref26_in (cc2 h.ext) fun w h => ?_
  refine Un_F (If_T (ldA h 0 rfl rfl ?_))
  refine stA h 1 rfl rfl rfl rfl fun w h => ?_
  refine rcA h 1 rfl rfl ?_
  dsimp only [List.set] at h
  exact Ret.mk ⟨h.ext, 0, by rw [hno]; rfl, fun x hx => by rw [hno] at hx; cases hx⟩
 have cc2 := fun {W : World} (_ : Ext w0 W) => c_finT (w := W) hn
 apply e_ref26_Sum
 unfold s_ref26_Sum
 have h := Hp.init [] w0
 refine alS h fun g1 w h => ?_
 refine cl1 h n_ref26_Of (cc1 h.ext) fun w h => ?_
 refine alS h fun g2 w h => ?_
 refine stA h 0 rfl rfl rfl rfl fun w h => ?_
 refine leS (hv.hp h) ?_
 refine cl1 h n_ref26_in (cc2 h.ext) fun w h => ?_
 refine Un_T (If_F ?_)
 dsimp only [List.set] at h
 refine Lp1.mk (fun i W => ∃ (j : Nat) (y : Rat), j ≤ l.length ∧ i = .int .i64 j ∧ sumP (l.take j) = some y ∧ Hp [] w0 W [bx g2 tR (fO (some y)), bx g1 tR [str [], str []]])
  (fun i _ => match i with | .int _ i' => l.length - i'.toNat | _ => 0) ⟨0, 0, by omega, rfl, rfl, h⟩ ?_
 clear h cc1 cc2
 rintro _ W ⟨j, y, hj, rfl, hs, h⟩
 by_cases hjl : j < l.length
 ·refine Exists.elim (p := fun x => l[j]? = some x) ⟨_, List.getElem?_eq_getElem hjl⟩ fun r hr => ?_
  have sr : Seg (l.flatMap fR) (j * 2) (fR r) := flat_seg (f := fR) (fun _ => rfl) hr
  have hrk := hk r (List.mem_of_getElem? hr)
  have hyB : RB y := (hs ▸ sumP_B (l.take j)).get
  have hsn := sumP_snoc (l.take j) r
  rw [← take_snoc hr, hs] at hsn
  have hsh := fun {W : World} (x : Ext w0 W) => c_fshort (w := W) (p := r) (D := 40) hrk.1 hrk.2 (by decide)
  rcases hq : shR 40 r with _ | x
  ·rw [hq] at hsn
   have hno : sumO l = none := by
    unfold sumO
    split
    ·rw [sumP_take hsn]; rfl
    ·rfl
   have cc2 : ∀ {W : World}, Ext w0 W → Calls Tryz.prog 46 #[.agg #[str r.1, str r.2], .int .i64 40] W (Ret fun r w' => Ext W w' ∧ r = .bool false) := fun x => by
    have := hsh x
    rw [hq] at this; exact this
   refine leS (hv.hp h) ?_
   refine Bn_ltT (by omega) (If_T (iaH h ‹_› (by omega) fun zb zo zk zv zc => ?_))
   refine lhA h ‹_› ‹_› (by rfl) ?_
   refine cl1 h n_ref26_short (cc2 h.ext) fun w h => ?_
   refine Un_F (If_T (ldA h 0 rfl rfl ?_))
   refine stA h 1 rfl rfl rfl rfl fun w h => ?_
   refine rcA h 1 rfl rfl ?_
   dsimp only [List.set] at h
   exact Ret.mk ⟨h.ext, y, by rw [hno]; rfl, fun x hx => by rw [hno] at hx; cases hx⟩
  obtain ⟨hrx, hxB, _⟩ := shR_some hq
  have hsn' : sumP (l.take (j + 1)) = oAdd (some y) (some x) := by rw [hsn, hq]; rfl
  have cc1 : ∀ {W : World}, Ext w0 W → Calls Tryz.prog 79 #[ov (some y), .agg #[str r.1, str r.2]] W (Ret fun r w' => Ext W w' ∧ r = .tuple #[ov (oAdd (some y) (some x)), .int .i64 (eE (oAdd (some y) (some x)))]) := fun {W} e => by
   have := o_fadd (w := W) (o := some y) (p := some x) (.some hyB) (.some hxB)
   rw [hrx]; exact this
  have cc2 : ∀ {W : World}, Ext w0 W → Calls Tryz.prog 46 #[.agg #[str r.1, str r.2], .int .i64 40] W (Ret fun r w' => Ext W w' ∧ r = .bool true) := fun x => by
   have := hsh x
   rw [hq] at this; exact this
  rcases hadd : oAdd (some y) (some x) with _ | s
  ·rw [hadd] at hsn'
   have hno : sumO l = none := by
    unfold sumO
    split
    ·rw [sumP_take hsn']; rfl
    ·rfl
   rw [hadd] at cc1
   have cc1 : ∀ {W : World}, Ext w0 W → Calls Tryz.prog 79 #[ov (some y), .agg #[str r.1, str r.2]] W (Ret fun r w' => Ext W w' ∧ r = .tuple #[ov none, .int .i64 40]) := cc1
   refine leS (hv.hp h) ?_
   refine Bn_ltT (by omega) (If_T (iaH h ‹_› (by omega) fun zb zo zk zv zc => ?_))
   refine lhA h ‹_› ‹_› (by rfl) ?_
   refine cl1 h n_ref26_short (cc2 h.ext) fun w h => ?_
   refine Un_T (If_F ?_)
   refine Jn2.lfb tR (fO none) (.int .i64 40) h (fun K lf1 => ?_) (fun gx w h => ?_)
   ·replace h := h.dr
    refine dlA h 0 rfl rfl ?_
    refine diH h ‹_› (by omega) fun zb zo zk zv zc => ?_
    refine dhA h ‹_› ‹_› (by rfl) ?_
    refine ⟨?_, ?_⟩
    refine cl1 h n_ref04_Add (cc1 h.ext) fun w h => ?_
    refine ExP2 (alS h fun g3 w h => ?_)
    refine klA h 1 rfl rfl ?_
    refine khA h ‹_› ‹_› (by rfl) ?_
    refine stA h 0 rfl rfl rfl rfl fun w h => ?_
    exact lf1 _ _ h
    refine alS h fun g3 w h => ?_
    refine klA h 1 rfl rfl ?_
    refine khA h ‹_› ‹_› (by rfl) ?_
    refine cl1 h n_ref04_Add (cc1 h.ext) fun w h => ?_
    refine ExP2 (stA h 0 rfl rfl rfl rfl fun w h => ?_)
    exact lf1 _ _ h
   refine Bn_neT (by omega) (If_T (ldA h 1 rfl rfl ?_))
   refine stA h 2 rfl rfl rfl rfl fun w h => ?_
   refine rcA h 2 rfl rfl ?_
   dsimp only [List.set] at h
   exact Ret.mk ⟨h.ext, y, by rw [hno]; rfl, fun x hx => by rw [hno] at hx; cases hx⟩
  ·rw [hadd] at hsn' cc1
   have cc1 : ∀ {W : World}, Ext w0 W → Calls Tryz.prog 79 #[ov (some y), .agg #[str r.1, str r.2]] W (Ret fun r w' => Ext W w' ∧ r = .tuple #[ov (some s), .int .i64 0]) := cc1
   refine leS (hv.hp h) ?_
   refine Bn_ltT (by omega) (If_T (iaH h ‹_› (by omega) fun zb zo zk zv zc => ?_))
   refine lhA h ‹_› ‹_› (by rfl) ?_
   refine cl1 h n_ref26_short (cc2 h.ext) fun w h => ?_
   refine Un_T (If_F ?_)
   refine Jn2.lfb tR (fO (some s)) (.int .i64 0) h (fun K lf1 => ?_) (fun gx w h => ?_)
   ·replace h := h.dr
    refine dlA h 0 rfl rfl ?_
    refine diH h ‹_› (by omega) fun zb zo zk zv zc => ?_
    refine dhA h ‹_› ‹_› (by rfl) ?_
    refine ⟨?_, ?_⟩
    refine cl1 h n_ref04_Add (cc1 h.ext) fun w h => ?_
    refine ExP2 (alS h fun g3 w h => ?_)
    refine klA h 1 rfl rfl ?_
    refine khA h ‹_› ‹_› (by rfl) ?_
    refine stA h 0 rfl rfl rfl rfl fun w h => ?_
    exact lf1 _ _ h
    refine alS h fun g3 w h => ?_
    refine klA h 1 rfl rfl ?_
    refine khA h ‹_› ‹_› (by rfl) ?_
    refine cl1 h n_ref04_Add (cc1 h.ext) fun w h => ?_
    refine ExP2 (stA h 0 rfl rfl rfl rfl fun w h => ?_)
    exact lf1 _ _ h
   refine Bn_neF (by omega) (If_F (ldA h 0 rfl rfl ?_))
   refine stA h 1 rfl rfl rfl rfl fun w h => ?_
   refine Bn_ad (by omega) (by omega) ?_
   dsimp only [List.set] at h
   exact ⟨⟨j + 1, s, by omega, rfl, hsn', h.pick [1, 2] (by decide) rfl⟩, by show l.length - ((j : Int) + 1).toNat < l.length - (j : Int).toNat; omega⟩
 rw [List.take_of_length_le (by omega)] at hs
 by_cases hy0 : y = 0
 ·have hno : sumO l = none := by
   unfold sumO
   rw [if_pos (by omega), hs]; simp [hy0]
  subst hy0
  have h : Hp [] w0 W [bx g2 tR [str (eN (some 0)), str (eD (some 0))], bx g1 tR [str [], str []]] := h
  rw [eN0] at h
  refine leS (hv.hp h) ?_
  refine Bn_ltF (by omega) (If_F ?_)
  replace h := h.dr
  refine dlA h 0 rfl rfl ?_
  refine dfS (dl1 h 0 rfl rfl (Dv_neST (stA h 1 rfl rfl rfl rfl fun w h => ?_)))
  refine kl1 h 0 rfl rfl (rcA h 1 rfl rfl ?_)
  dsimp only [List.set] at h
  exact Ret.mk ⟨h.ext, 0, by rw [hno]; show _ = Value.tuple #[.agg #[str (eN (some 0)), str (eD (some 0))], _]; rw [eN0]; rfl, fun x hx => by rw [hno] at hx; cases hx⟩
 ·have hno : sumO l = some y := by
   unfold sumO
   rw [if_pos (by omega), hs]; simp [hy0]
  have q1 := eN_ne0 hy0
  refine leS (hv.hp h) ?_
  refine Bn_ltF (by omega) (If_F ?_)
  replace h := h.dr
  refine dlA h 0 rfl rfl ?_
  refine dfS (dl1 h 0 rfl rfl (Dv_neSF ‹_› ?_))
  refine stA h 1 rfl rfl rfl rfl fun w h => ?_
  refine kl1 h 0 rfl rfl (rcA h 1 rfl rfl ?_)
  dsimp only [List.set] at h
  exact Ret.mk ⟨h.ext, y, by rw [hno]; rfl, fun x hx => by rw [hno] at hx; cases hx; rfl⟩
end
def allO {α β : Type} (f : α → Option β) : List α → Option (List β)
 | [] => some []
 | a :: l => match f a, allO f l with
  | some e, some r => some (e :: r)
  | _, _ => none
theorem allO_snoc {α β : Type} {f : α → Option β} : ∀ {l : List α} {r : List β} {a : α} {e : β}, allO f l = some r → f a = some e → allO f (l ++ [a]) = some (r ++ [e])
 | [], r, a, e, h, he => by cases h; simp [allO, he]
 | x :: l, r, a, e, h, he => by
  unfold allO at h
  split at h
  ·next e' r' h1 h2 =>
   cases h
   simp only [List.cons_append]
   unfold allO
   rw [h1, allO_snoc h2 he]
  ·cases h
theorem allO_bad {α β : Type} {f : α → Option β} : ∀ {l : List α} {a : α}, a ∈ l → f a = none → allO f l = none
 | x :: l, a, h, he => by
  unfold allO
  rcases List.mem_cons.1 h with rfl | h
  ·rw [he]
  ·rw [allO_bad h he]; split <;> simp_all
theorem allO_len {α β : Type} {f : α → Option β} : ∀ {l : List α} {r : List β}, allO f l = some r → r.length = l.length
 | [], r, h => by cases h; rfl
 | x :: l, r, h => by
  unfold allO at h
  split at h
  ·next e' r' h1 h2 => cases h; simp [allO_len h2]
  ·cases h
theorem allO_get {α β : Type} {f : α → Option β} : ∀ {l : List α} {r : List β}, allO f l = some r → ∀ (j : Nat) (a : α), l[j]? = some a → ∃ e, r[j]? = some e ∧ f a = some e
 | [], r, h, j, a, hj => by simp at hj
 | x :: l, r, h, j, a, hj => by
  unfold allO at h
  split at h
  ·next e' r' h1 h2 =>
   cases h
   rcases j with _ | j
   ·simp at hj; subst hj; exact ⟨e', rfl, h1⟩
   ·exact allO_get h2 j a (by simpa using hj)
  ·cases h
noncomputable def xv (r : RS) : Rat := (shR 40 r).getD 0
noncomputable def elO (a : Int) (s : Rat) (r : RS) : Option (Rat × Rat) :=
 ((oMul (some (qI a)) (some (xv r))).bind fun y => oDiv (some y) (some s)).bind fun p => (oSub (some p) (some (qI (whZ p a)))).map fun q => (p, q)
noncomputable def splO (a : Int) (l : List RS) : Option (List Int) :=
 (sumO l).bind fun s => if 0 ≤ a ∧ a ≤ 1000000000 then (allO (elO a s) l).map fun E => partsL (E.map (·.1)) a else none
theorem seg_one {xs : List Value} {j : Nat} {v : Value} (h : xs[j]? = some v) : Seg xs (j * 1) [v] := fun k u hk => by
 rcases k with _ | k
 ·cases hk; rw [Nat.mul_one]; exact h
 ·simp at hk
abbrev vI (i : Nat) : Value := .int .i64 (i : Int)
abbrev fQ (q : Rat) : List Value := [str (eN (some q)), str (eD (some q))]
abbrev tRs : TypeId := 28
def Rof (Q : List Rat) (i : Nat) : Rat := Q.getD i 0
theorem swp {A T : List Nat} {x y : Nat} : ((A ++ y :: x :: T).set (A.length + 1) y).set A.length x = A ++ x :: y :: T := by
 simp [List.set_append]
section
variable {w0 w : World} {E : List Et} {vo vr : Value} {gr n : Nat} {xs : List Value} {Q : List Rat} (he : En w0) (hQ : ∀ q ∈ Q, RB q) (hn : Q.length ≤ 1000)
include he hQ hn
set_option maxHeartbeats 2000000 in
theorem c_Split1 {i k : Nat} {a b : Rat} (hi : Q[i]? = some a) (hk : Q[k]? = some b) (h : Hp [] w0 w (ro tI 1 vo n xs :: bx gr tRs [vr] :: ro tR 2 vr Q.length (Q.flatMap fQ) :: E)) :
 Calls Tryz.prog 53 #[.int .i64 (i : Int), .int .i64 (k : Int), pr gr 0] w (Ret fun r w' => r = .int .i64 (cmpQ b a) ∧ Hp [] w0 w' (ro tI 1 vo n xs :: bx gr tRs [vr] :: ro tR 2 vr Q.length (Q.flatMap fQ) :: E)) := by
 have hil := (List.getElem?_eq_some_iff.1 hi).1
 have hkl := (List.getElem?_eq_some_iff.1 hk).1
 have si : Seg (Q.flatMap fQ) (i * 2) (fQ a) := flat_seg (f := fQ) (fun _ => rfl) hi
 have sk : Seg (Q.flatMap fQ) (k * 2) (fQ b) := flat_seg (f := fQ) (fun _ => rfl) hk
 have cc1 : ∀ {W : World}, Ext w0 W → Calls Tryz.prog 32 #[ov (some b), ov (some a)] W (Ret fun r w' => Ext W w' ∧ r = .int .i64 (cmpQ b a)) := fun x => o_cmp (hQ b (List.mem_of_getElem? hk)) (hQ a (List.mem_of_getElem? hi)) (he.hT.ext x)
 apply e_contract_Split_1
 unfold s_contract_Split_1
 replace h := h.dr
 refine dl1 h 1 rfl rfl (diR h 2 rfl (by omega) fun zg zk zv => ?_)
 refine drA h 2 rfl ‹_› ‹_› (by rfl) ?_
 refine dl1 h 1 rfl rfl (diR h 2 rfl (by omega) fun zg zk zv => ?_)
 refine drA h 2 rfl ‹_› ‹_› (by rfl) ?_
 refine cl1 h n_rational_Compare (cc1 h.ext) fun w h => ?_
 exact Ret.mk ⟨rfl, h⟩
set_option maxHeartbeats 8000000 in
theorem c_insort {D : List Nat} (hD : D = List.range Q.length) (hn1 : 1 ≤ Q.length) (h : Hp [] w0 w (ro tI 1 vo Q.length (D.map vI) :: bx gr tRs [vr] :: ro tR 2 vr Q.length (Q.flatMap fQ) :: E)) :
 Calls Tryz.prog 109 #[vo, .int .i64 0, .int .i64 (Q.length : Int), .func (.func 53) #[] #[pr gr 0]] w (Ret fun r w' => Hp [] w0 w' (ro tI 1 vo Q.length ((ordL (Rof Q) Q.length).map vI) :: bx gr tRs [vr] :: ro tR 2 vr Q.length (Q.flatMap fQ) :: E)) := by
 apply e_slices_insertionSortCmpFunc_int
 unfold s_slices_insertionSortCmpFunc_int
 refine Bn_ad (by omega) (by omega) ?_
 refine Lp1.mk (fun i W => ∃ (k : Nat) (S : List Nat), 1 ≤ k ∧ k ≤ Q.length ∧ i = .int .i64 (k : Int) ∧ IsOrd (Rof Q) k S ∧ Hp [] w0 W (ro tI 1 vo Q.length ((S ++ List.range' k (Q.length - k)).map vI) :: bx gr tRs [vr] :: ro tR 2 vr Q.length (Q.flatMap fQ) :: E))
  (fun i _ => match i with | .int _ i' => Q.length - i'.toNat | _ => 0) ⟨1, [0], by omega, by omega, rfl, ⟨List.Perm.refl _, List.pairwise_singleton _ _⟩, ?_⟩ ?_
 ·have : D = [0] ++ List.range' 1 (Q.length - 1) := by
   rw [hD, List.range_eq_range']
   obtain ⟨m, hm⟩ : ∃ m, Q.length = m + 1 := ⟨Q.length - 1, by omega⟩
   rw [hm, List.range'_succ]; rfl
  rw [← this]; exact h
 clear h
 rintro _ W ⟨k, S, hk1, hkn, rfl, hS, h⟩
 by_cases hkq : k < Q.length
 rotate_left
 ·have hkq' : k = Q.length := by omega
  subst hkq'
  rw [Nat.sub_self, hS.eq] at h
  have h : Hp [] w0 W (ro tI 1 vo Q.length ((ordL (Rof Q) Q.length ++ []).map vI) :: bx gr tRs [vr] :: ro tR 2 vr Q.length (Q.flatMap fQ) :: E) := h
  rw [List.append_nil] at h
  refine Bn_ltF (by omega) (If_F ?_)
  exact Ret.mk h
 have hsl := hS.len
 have hT : List.range' k (Q.length - k) = k :: List.range' (k + 1) (Q.length - (k + 1)) := by
  obtain ⟨m, hm⟩ : ∃ m, Q.length - k = m + 1 := ⟨Q.length - k - 1, by omega⟩
  rw [hm, List.range'_succ, show Q.length - (k + 1) = m by omega]
 refine Exists.elim (p := fun T => List.range' (k + 1) (Q.length - (k + 1)) = T) ⟨_, rfl⟩ fun T hTT => ?_
 rw [hT, hTT] at h
 have hTl : T.length = Q.length - (k + 1) := by rw [← hTT, List.length_range']
 refine Bn_ltT (by omega) (If_T ?_)
 refine Lp1.mk (fun i W => ∃ (A B : List Nat) (j : Nat), j = A.length ∧ i = .int .i64 (j : Int) ∧ S = A ++ B ∧ (∀ b ∈ B, Bts (Rof Q) k b) ∧ Hp [] w0 W (ro tI 1 vo Q.length ((A ++ k :: (B ++ T)).map vI) :: bx gr tRs [vr] :: ro tR 2 vr Q.length (Q.flatMap fQ) :: E))
  (fun i _ => match i with | .int _ i' => i'.toNat | _ => 0) ⟨S, [], k, hsl.symm, rfl, by simp, by simp, h⟩ ?_
 clear h
 rintro _ W ⟨A, B, j, hj, rfl, hAB, hB, h⟩
 have hall : ∀ a ∈ S, a < k := fun a ha => hS.lt.1 ha
 have fin : (∀ a ∈ A, Bts (Rof Q) a k) → IsOrd (Rof Q) (k + 1) (A ++ k :: B) := fun hA => by
  have hpw := hS.2
  rw [hAB] at hpw
  refine ⟨?_, ord_put hpw hB hA⟩
  rw [List.range_succ]
  have h1 : (A ++ k :: B).Perm (k :: (A ++ B)) := List.perm_middle
  have h2 : (A ++ B).Perm (List.range k) := hAB ▸ hS.1
  exact h1.trans ((h2.cons k).trans (List.perm_append_singleton k (List.range k)).symm)
 have hnext : ∀ {w1 : World}, Hp [] w0 w1 (ro tI 1 vo Q.length ((A ++ k :: (B ++ T)).map vI) :: bx gr tRs [vr] :: ro tR 2 vr Q.length (Q.flatMap fQ) :: E) → Hp [] w0 w1 (ro tI 1 vo Q.length (((A ++ k :: B) ++ List.range' (k + 1) (Q.length - (k + 1))).map vI) :: bx gr tRs [vr] :: ro tR 2 vr Q.length (Q.flatMap fQ) :: E) := fun h => by
  rw [hTT, List.append_assoc]; exact h
 rcases List.eq_nil_or_concat A with rfl | ⟨A', y, rfl⟩
 ·have hA0 : j = 0 := hj
  replace h := h.dr
  refine Dv_gtF (by omega) (GdP_FT (GdP_FT (GdP_FT (GdP_FT (GdP_FT (GdP_FT (GdP_FT (GdP_FT (GdP_FT (GdP_FT (Gd_FT (GdP_FT (PickP_F (If_F (Bn_ad (by omega) (by omega) ?_)))))))))))))))
  exact ⟨⟨k + 1, _, by omega, by omega, rfl, fin (by simp), hnext h⟩, by show Q.length - ((k : Int) + 1).toNat < Q.length - (k : Int).toNat; omega⟩
 rw [List.concat_eq_append] at *
 have hal : (A' ++ [y]).length = A'.length + 1 := by simp
 have hyk : y < k := hall y (by rw [hAB]; simp)
 have hlen : S.length = A'.length + 1 + B.length := by rw [hAB]; simp; omega
 refine Exists.elim (p := fun a => Q[k]? = some a) ⟨_, List.getElem?_eq_getElem hkq⟩ fun a hka => ?_
 refine Exists.elim (p := fun a => Q[y]? = some a) ⟨_, List.getElem?_eq_getElem (by omega)⟩ fun b hyb => ?_
 have ra : Rof Q k = a := by unfold Rof; rw [List.getD_eq_getElem?_getD, hka]; rfl
 have rb : Rof Q y = b := by unfold Rof; rw [List.getD_eq_getElem?_getD, hyb]; rfl
 have hj1 : j = A'.length + 1 := by omega
 have s1 : Seg ((A' ++ [y] ++ k :: (B ++ T)).map vI) (j * 1) [vI k] := seg_one (by rw [hj1, List.getElem?_map]; simp)
 have s2 : Seg ((A' ++ [y] ++ k :: (B ++ T)).map vI) (((j : Int) - 1).toNat * 1) [vI y] := seg_one (by rw [hj1, List.getElem?_map, show (((A'.length + 1 : Nat) : Int) - 1).toNat = A'.length by omega]; simp)
 have hb3 := cmp_bd b a
 by_cases hlt : cmpQ b a < 0
 ·have hba := (cmp_lt _ _).1 hlt
  have hby : Bts (Rof Q) k y := .inl (by rw [ra, rb]; exact hba)
  replace h := h.dr
  refine Dv_gtT (by omega) (GdP_T (GdP_T (GdP_T (GdP_T (diR h 0 rfl (by omega) fun zg zk zv => ?_)))))
  refine GdP_T (dr0 h 0 rfl ‹_› ‹_› (by rfl) ?_)
  refine GdP_T (GdP_T (GdP_T (Dv_su (by omega) (by omega) (GdP_T (diRz h 0 rfl (by omega) (by omega) fun zg zk zv => ?_)))))
  refine GdP_T (dr0 h 0 rfl ‹_› ‹_› (by rfl) ?_)
  refine Gd_T (Cw_i n_contract_Split_1 (c_Split1 he hQ hn hka hyb h) ?_)
  rintro _ w' ⟨rfl, h⟩
  refine GdP_T (Dv_ltT (by omega) (PickP_T (If_T ?_)))
  replace h := h.dr
  refine Dv_su (by omega) (by omega) (Dv_su (by omega) (by omega) (diRz h 0 rfl (by omega) (by omega) fun zg zk zv => ?_))
  refine dr0 h 0 rfl ‹_› ‹_› (by rfl) ?_
  refine diR h 0 rfl (by omega) fun zg zk zv => ?_
  refine dr0 h 0 rfl ‹_› ‹_› (by rfl) ?_
  refine diR h 0 rfl (by omega) fun zg zk zv => ?_
  refine stR1 h 0 rfl ‹_› (by rfl) (by rfl) (by omega) fun w h => ?_
  refine diRz h 0 rfl (by omega) (by omega) fun zg zk zv => ?_
  refine stR1 h 0 rfl ‹_› (by rfl) (by rfl) (by omega) fun w h => ?_
  refine Bn_su (by omega) (by omega) ?_
  dsimp only [List.set] at h
  have hset : (((A' ++ [y] ++ k :: (B ++ T)).map vI).set (0 + j * 1) (vI y)).set (0 + ((j : Int) - 1).toNat * 1) (vI k) = (A' ++ k :: ((y :: B) ++ T)).map vI := by
   rw [show 0 + j * 1 = A'.length + 1 by omega, show 0 + ((j : Int) - 1).toNat * 1 = A'.length by omega, ← List.map_set, ← List.map_set]
   have := swp (A := A') (T := B ++ T) (x := k) (y := y)
   rw [show A' ++ [y] ++ k :: (B ++ T) = A' ++ y :: k :: (B ++ T) by simp, this]; rfl
  rw [hset] at h
  refine ⟨⟨A', y :: B, j - 1, by omega, by rw [show ((j - 1 : Nat) : Int) = (j : Int) - 1 by omega], by rw [hAB]; simp, fun c hc => ?_, h⟩, by show ((j : Int) - 1).toNat < (j : Int).toNat; omega⟩
  rcases List.mem_cons.1 hc with rfl | hc
  ·exact hby
  ·exact hB c hc
 ·have hba := Rat.not_lt.1 (fun h => hlt ((cmp_lt _ _).2 h))
  have hyb2 : Bts (Rof Q) y k := by
   by_cases he : a = b
   ·exact .inr ⟨by rw [ra, rb, he], hyk⟩
   ·exact .inl (by rw [ra, rb]; grind)
  have hpw := hS.2
  rw [hAB] at hpw
  have hA : ∀ c ∈ A' ++ [y], Bts (Rof Q) c k := ord_last (List.pairwise_append.1 hpw).1 hyb2
  replace h := h.dr
  refine Dv_gtT (by omega) (GdP_T (GdP_T (GdP_T (GdP_T (diR h 0 rfl (by omega) fun zg zk zv => ?_)))))
  refine GdP_T (dr0 h 0 rfl ‹_› ‹_› (by rfl) ?_)
  refine GdP_T (GdP_T (GdP_T (Dv_su (by omega) (by omega) (GdP_T (diRz h 0 rfl (by omega) (by omega) fun zg zk zv => ?_)))))
  refine GdP_T (dr0 h 0 rfl ‹_› ‹_› (by rfl) ?_)
  refine Gd_T (Cw_i n_contract_Split_1 (c_Split1 he hQ hn hka hyb h) ?_)
  rintro _ w' ⟨rfl, h⟩
  refine GdP_T (Dv_ltF (by omega) (PickP_T (If_F (Bn_ad (by omega) (by omega) ?_))))
  exact ⟨⟨k + 1, _, by omega, by omega, rfl, fin hA, hnext h⟩, by show Q.length - ((k : Int) + 1).toNat < Q.length - (k : Int).toNat; omega⟩
set_option maxHeartbeats 4000000 in
theorem c_sort (h12 : Q.length ≤ 12) (hn1 : 1 ≤ Q.length) (h : Hp [] w0 w (ro tI 1 vo Q.length ((List.range Q.length).map vI) :: bx gr tRs [vr] :: ro tR 2 vr Q.length (Q.flatMap fQ) :: E)) :
 Calls Tryz.prog 52 #[vo, .func (.func 53) #[] #[pr gr 0]] w (Ret fun r w' => r = .tuple #[] ∧ Hp [] w0 w' (ro tI 1 vo Q.length ((ordL (Rof Q) Q.length).map vI) :: bx gr tRs [vr] :: ro tR 2 vr Q.length (Q.flatMap fQ) :: E)) := by
 apply e_slices_SortStableFunc_int_int
 unfold s_slices_SortStableFunc_int_int
 refine leS (qZ 0 h rfl) ?_
 refine Cl_i n_slices_stableCmpFunc_int (e_slices_stableCmpFunc_int (R := Ret fun r w' => Hp [] w0 w' (ro tI 1 vo Q.length ((ordL (Rof Q) Q.length).map vI) :: bx gr tRs [vr] :: ro tR 2 vr Q.length (Q.flatMap fQ) :: E)) ?_) ?_
 rotate_left
 ·rintro _ w' h
  skip
  exact Ret.mk ⟨rfl, h⟩
 unfold s_slices_stableCmpFunc_int
 refine Lp2.mk (fun a b W => a = .int .i64 0 ∧ b = .int .i64 20 ∧ Hp [] w0 W (ro tI 1 vo Q.length ((List.range Q.length).map vI) :: bx gr tRs [vr] :: ro tR 2 vr Q.length (Q.flatMap fQ) :: E)) (fun _ _ _ => 0) ⟨rfl, rfl, h⟩ ?_
 clear h
 rintro _ _ W ⟨rfl, rfl, h⟩
 refine Bn_leF (by omega) (If_F (Cl_i n_slices_insertionSortCmpFunc_int (c_insort he hQ hn rfl hn1 h) ?_))
 rintro _ w' h
 refine Lp1.mk (fun a W => a = .int .i64 20 ∧ Hp [] w0 W (ro tI 1 vo Q.length ((ordL (Rof Q) Q.length).map vI) :: bx gr tRs [vr] :: ro tR 2 vr Q.length (Q.flatMap fQ) :: E)) (fun _ _ => 0) ⟨rfl, h⟩ ?_
 clear h
 rintro _ W ⟨rfl, h⟩
 refine Bn_ltF (by omega) (If_F ?_)
 exact Ret.mk h
end
theorem oBin_val {f : Rat → Rat → R3} {g : Rat → Rat → Rat} {x y z : Rat} (h : oBin f g (some x) (some y) = some z) : z = g x y := by
 have e : oBin f g (some x) (some y) = if (f x y).2.2 = 0 then some (g x y) else none := rfl
 rw [e] at h
 split at h
 ·cases h; rfl
 ·cases h
def lsum {α : Type} (g : α → Rat) : List α → Rat
 | [] => 0
 | a :: l => g a + lsum g l
theorem gQ_map (f : Nat → Rat) (k : Nat → Nat) : ∀ l, gQ f (l.map k) = gQ (fun i => f (k i)) l
 | [] => rfl
 | i :: l => by show f (k i) + _ = f (k i) + _; rw [gQ_map f k l]
theorem gQ_getD : ∀ (P : List Rat), gQ (fun i => P.getD i 0) (List.range P.length) = lsum (fun x => x) P
 | [] => rfl
 | x :: P => by
  rw [List.length_cons, List.range_succ_eq_map]
  show x + gQ _ ((List.range P.length).map Nat.succ) = x + lsum _ P
  rw [gQ_map]
  congr 1
  exact gQ_getD P
theorem lsum_map {α : Type} (g : α → Rat) : ∀ l : List α, lsum (fun x => x) (l.map g) = lsum g l
 | [] => rfl
 | a :: l => by show g a + _ = g a + _; rw [lsum_map g l]
theorem lsum_mul {α : Type} (g : α → Rat) (c : Rat) : ∀ l : List α, lsum (fun a => c * g a) l = c * lsum g l
 | [] => by show (0 : Rat) = c * 0; rw [Rat.mul_zero]
 | a :: l => by show c * g a + _ = c * (g a + _); rw [lsum_mul g c l]; grind
theorem lsum_nn {α : Type} {g : α → Rat} : ∀ {l : List α}, (∀ a ∈ l, 0 ≤ g a) → 0 ≤ lsum g l
 | [], _ => Rat.le_refl
 | a :: l, h => by
  have h1 := h a (by simp)
  have h2 := lsum_nn (l := l) fun b hb => h b (by simp [hb])
  show 0 ≤ g a + lsum g l
  grind
theorem lsum_le {α : Type} {g : α → Rat} : ∀ {l : List α}, (∀ a ∈ l, 0 ≤ g a) → ∀ a ∈ l, g a ≤ lsum g l
 | x :: l, h, a, ha => by
  have h1 := h x (by simp)
  have h2 := lsum_nn (l := l) fun b hb => h b (by simp [hb])
  show g a ≤ g x + lsum g l
  rcases List.mem_cons.1 ha with rfl | ha
  ·grind
  ·have := lsum_le (l := l) (fun b hb => h b (by simp [hb])) a ha
   grind
theorem fold_none : ∀ l : List RS, l.foldl (fun (a : Option Rat) r => a.bind fun y => (shR 40 r).bind fun x => oAdd (some y) (some x)) none = none
 | [] => rfl
 | r :: l => fold_none l
theorem fold_sum : ∀ (l : List RS) (a s : Rat), l.foldl (fun (a : Option Rat) r => a.bind fun y => (shR 40 r).bind fun x => oAdd (some y) (some x)) (some a) = some s → s = a + lsum xv l ∧ ∀ r ∈ l, ∃ x, shR 40 r = some x
 | [], a, s, h => by
  have : s = a := by cases h; rfl
  exact ⟨by rw [this]; show a = a + 0; rw [Rat.add_zero], by simp⟩
 | r :: l, a, s, h => by
  rw [List.foldl_cons] at h
  rcases hq : shR 40 r with _ | x
  ·rw [hq] at h
   have h' : l.foldl (fun (a : Option Rat) r => a.bind fun y => (shR 40 r).bind fun x => oAdd (some y) (some x)) none = some s := h
   rw [fold_none] at h'; cases h'
  ·rw [hq] at h
   have h' : l.foldl (fun (a : Option Rat) r => a.bind fun y => (shR 40 r).bind fun x => oAdd (some y) (some x)) (oAdd (some a) (some x)) = some s := h
   rcases hb : oAdd (some a) (some x) with _ | b
   ·rw [hb, fold_none] at h'; cases h'
   ·rw [hb] at h'
    obtain ⟨h1, h2⟩ := fold_sum l b s h'
    have hbv := oBin_val hb
    have hx : xv r = x := by unfold xv; rw [hq]; rfl
    refine ⟨?_, fun r' hr' => ?_⟩
    ·show s = a + (xv r + lsum xv l)
     rw [h1, hbv, hx]; grind
    ·rcases List.mem_cons.1 hr' with rfl | hr'
     ·exact ⟨x, hq⟩
     ·exact h2 r' hr'
theorem sumO_some {l : List RS} {s : Rat} (h : sumO l = some s) : (1 ≤ l.length ∧ l.length ≤ 12) ∧ s = lsum xv l ∧ s ≠ 0 ∧ RB s ∧ ∀ r ∈ l, ∃ x, shR 40 r = some x := by
 unfold sumO at h
 split at h
 ·next hn =>
  rcases hs : sumP l with _ | y
  ·rw [hs] at h; cases h
  ·have hB := (hs ▸ sumP_B l).get
   rw [hs] at h
   by_cases hy : y = 0
   ·simp [hy] at h
   ·simp [hy] at h
    subst h
    obtain ⟨h1, h2⟩ := fold_sum l 0 y hs
    exact ⟨hn, by rw [h1, Rat.zero_add], hy, hB, h2⟩
 ·cases h
theorem xv_of {r : RS} {x : Rat} (h : shR 40 r = some x) : xv r = x := by unfold xv; rw [h]; rfl
theorem elO_some {a : Int} {s : Rat} {r : RS} {e : Rat × Rat} (h : elO a s r = some e) : e.1 = qI a * xv r / s ∧ e.2 = e.1 - qI (whZ e.1 a) ∧ RB e.1 ∧ RB e.2 := by
 unfold elO at h
 rcases h1 : oMul (some (qI a)) (some (xv r)) with _ | y
 ·rw [h1] at h; cases h
 rw [h1] at h
 rcases h2 : oDiv (some y) (some s) with _ | p
 ·simp [h2] at h
 simp only [Option.bind_some, h2] at h
 rcases h3 : oSub (some p) (some (qI (whZ p a))) with _ | q
 ·rw [h3] at h; cases h
 rw [h3] at h
 cases h
 have b2 := (h2 ▸ oBin_B fit_div (some y) (some s) : OB (some p)).get
 have b3 := (h3 ▸ oBin_B fit_sub (some p) (some (qI (whZ p a))) : OB (some q)).get
 have v1 := oBin_val h1
 have v2 := oBin_val h2
 have v3 := oBin_val h3
 exact ⟨by simp only; rw [v2, v1], v3, b2, b3⟩
theorem allO_map {α β γ : Type} {f : α → Option β} {g : α → γ} {k : β → γ} (hg : ∀ a e, f a = some e → k e = g a) : ∀ {l : List α} {E : List β}, allO f l = some E → E.map k = l.map g
 | [], E, h => by cases h; rfl
 | x :: l, E, h => by
  unfold allO at h
  split at h
  ·next e' r' h1 h2 =>
   cases h
   rw [List.map_cons, List.map_cons, hg _ _ h1, allO_map hg h2]
  ·cases h
structure SplK (a : Int) (l : List RS) (s : Rat) (E : List (Rat × Rat)) : Prop where
 spl : Spl (E.map (·.1)) a
 wh : ∀ e ∈ E, whZ e.1 a = e.1.floor ∧ 0 ≤ e.1
 q : E.map (·.2) = E.map fun e => e.1 - qI e.1.floor
theorem spl_of {a : Int} {l : List RS} {s : Rat} {E : List (Rat × Rat)} (hs : sumO l = some s) (ha : 0 ≤ a) (hE : allO (elO a s) l = some E) : SplK a l s E := by
 obtain ⟨hn, hsv, hs0, _, hall⟩ := sumO_some hs
 have hx0 : ∀ r ∈ l, 0 ≤ xv r := fun r hr => by
  obtain ⟨x, hx⟩ := hall r hr
  rw [xv_of hx]; exact (shR_some hx).2.2.1
 have hsp : 0 < s := by
  have : 0 ≤ s := by rw [hsv]; exact lsum_nn hx0
  grind
 have haq : (0 : Rat) ≤ qI a := by show (0 : Rat) ≤ (a : Rat); exact_mod_cast ha
 have hP : E.map (·.1) = l.map fun r => qI a * xv r / s := allO_map (fun r e h => (elO_some h).1) hE
 have hmem : ∀ e ∈ E, ∃ r ∈ l, e.1 = qI a * xv r / s ∧ elO a s r = some e := fun e he => by
  obtain ⟨j, hj⟩ := List.getElem?_of_mem he
  have hjl := (List.getElem?_eq_some_iff.1 hj).1
  rw [allO_len hE] at hjl
  obtain ⟨e', h1, h2⟩ := allO_get hE j _ (List.getElem?_eq_getElem hjl)
  rw [hj] at h1
  cases h1
  exact ⟨_, List.getElem_mem hjl, (elO_some h2).1, h2⟩
 have hnn : ∀ r ∈ l, 0 ≤ qI a * xv r / s := fun r hr => by
  have h1 : 0 ≤ qI a * xv r := Rat.mul_nonneg haq (hx0 r hr)
  refine Rat.not_lt.1 fun h => ?_
  have := (Rat.div_lt_iff hsp).1 h
  rw [Rat.zero_mul] at this
  grind
 have hle : ∀ r ∈ l, qI a * xv r / s ≤ qI a := fun r hr => by
  refine Rat.not_lt.1 fun h => ?_
  have h1 := (Rat.lt_div_iff hsp).1 h
  have h2 : xv r ≤ s := by rw [hsv]; exact lsum_le hx0 r hr
  have h3 := Rat.mul_le_mul_of_nonneg_left h2 haq
  grind
 have hwh : ∀ e ∈ E, whZ e.1 a = e.1.floor ∧ 0 ≤ e.1 := fun e he => by
  obtain ⟨r, hr, h1, _⟩ := hmem e he
  refine ⟨?_, h1 ▸ hnn r hr⟩
  have h2 : qI e.1.floor ≤ qI a := Rat.le_trans (Rat.floor_le e.1) (h1 ▸ hle r hr)
  have h3 : e.1.floor ≤ a := by
   have : ((e.1.floor : Int) : Rat) ≤ ((a : Int) : Rat) := h2
   exact_mod_cast this
  unfold whZ; omega
 refine ⟨⟨fun i hi => ?_, ?_⟩, hwh, ?_⟩
 ·unfold pA
  rw [List.length_map] at hi
  rw [List.getD_eq_getElem?_getD, List.getElem?_map, List.getElem?_eq_getElem hi]
  exact (hwh _ (List.getElem_mem hi)).2
 ·have h1 := gQ_getD (E.map (·.1))
  show gQ (fun i => (E.map (·.1)).getD i 0) _ = _
  rw [h1, hP, lsum_map]
  have h2 : lsum (fun r => qI a * xv r / s) l = (qI a / s) * lsum xv l := by
   rw [← lsum_mul]
   congr 1
   funext r; grind
  rw [h2, ← hsv]
  show qI a / s * s = qI a
  grind
 ·refine List.map_congr_left fun e he => ?_
  obtain ⟨r, hr, _, h2⟩ := hmem e he
  have := (elO_some h2).2.1
  rw [(hwh e he).1] at this
  exact this
theorem SplK.R {a : Int} {l : List RS} {s : Rat} {E : List (Rat × Rat)} (h : SplK a l s E) {i : Nat} : Rof (E.map (·.2)) i = rsA (E.map (·.1)) i := by
 unfold Rof rsA flA pA
 rw [h.q, List.getD_eq_getElem?_getD, List.getD_eq_getElem?_getD, List.getElem?_map, List.getElem?_map]
 rcases E[i]? with _ | e
 ·show (0 : Rat) = 0 - (((0 : Rat).floor : Int) : Rat)
  have : (((0 : Rat).floor : Int) : Rat) = 0 := rfl
  rw [this]; grind
 ·rfl
end Go.Proofs.YtjmdnjnjepinoaaGreatDoor
