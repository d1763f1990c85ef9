/-
  Contracts and plain lemmas. By an AI agent.
-/
import Derived.Test.YtjmdnjnjepinoaaGreatDoorCoK
set_option linter.unusedSimpArgs false
set_option linter.unusedVariables false
set_option linter.unusedSectionVars false
namespace Go.Proofs.YtjmdnjnjepinoaaGreatDoor
open Go Go.Eng Go.Proofs Go.Num Go.RowKit
set_option maxRecDepth 100000
abbrev Du := Int × Int × Int
abbrev fU (d : Du) : List Value := [.int .i64 d.1, .int .i64 d.2.1, .int .i64 d.2.2]
abbrev tD : TypeId := 67
def DuI (d : Du) : Prop := I64 d.1 ∧ I64 d.2.1 ∧ I64 d.2.2
abbrev duOk (d : Du) : Prop := (0 ≤ d.2.1 ∧ d.2.1 ≤ 3) ∧ (0 ≤ d.2.2 ∧ d.2.2 ≤ 1000000000)
def addT (T : List Int) (d : Du) : List Int := T.set d.2.1.toNat (T.getD d.2.1.toNat 0 + d.2.2)
def totL (l : List Du) : List Int := l.foldl addT [0, 0, 0, 0]
theorem totL_snoc (l : List Du) (d : Du) : totL (l ++ [d]) = addT (totL l) d := by unfold totL; rw [List.foldl_append]; rfl
theorem addT_len (T : List Int) (d : Du) : (addT T d).length = T.length := by unfold addT; simp
theorem fold_len : ∀ (l : List Du) (T : List Int), (l.foldl addT T).length = T.length
 | [], T => rfl
 | d :: l, T => by rw [List.foldl_cons, fold_len l, addT_len]
theorem totL_len (l : List Du) : (totL l).length = 4 := fold_len l _
theorem addT_bd {T : List Int} {d : Du} {B : Int} (h : ∀ x ∈ T, 0 ≤ x ∧ x ≤ B) (hd : duOk d) : ∀ x ∈ addT T d, 0 ≤ x ∧ x ≤ B + 1000000000 := fun x hx => by
 have hd1 := hd.2.1
 have hd2 := hd.2.2
 unfold addT at hx
 rcases List.mem_or_eq_of_mem_set hx with h1 | rfl
 ·have := h x h1; omega
 ·by_cases hl : d.2.1.toNat < T.length
  ·have h2 : T.getD d.2.1.toNat 0 = T[d.2.1.toNat] := by rw [List.getD_eq_getElem?_getD, List.getElem?_eq_getElem hl]; rfl
   have h3 := h _ (List.getElem_mem hl)
   rw [h2]; omega
  ·rw [List.set_eq_of_length_le (by omega)] at hx
   have h3 := h _ hx
   omega
theorem totL_bd : ∀ (k : Nat) {l : List Du}, l.length = k → (∀ d ∈ l, duOk d) → ∀ x ∈ totL l, 0 ≤ x ∧ x ≤ (k : Int) * 1000000000
 | 0, l, hk, _, x, hx => by
  have : l = [] := List.eq_nil_of_length_eq_zero hk
  subst this
  simp [totL] at hx
  omega
 | k + 1, l, hk, h, x, hx => by
  rcases List.eq_nil_or_concat l with rfl | ⟨m, d, rfl⟩
  ·simp at hk
  ·rw [List.concat_eq_append] at hx hk h
   rw [totL_snoc] at hx
   have hm : m.length = k := by simpa using hk
   have ih := totL_bd k hm fun y hy => h y (by simp [hy])
   have := addT_bd ih (h d (by simp)) x hx
   omega
def totO (l : List Du) : Option (List Int) := if l.length ≤ 400 ∧ ∀ d ∈ l, duOk d then some (totL l) else none
section
variable {w0 : World} {v : Value} {l : List Du} (hv : SlC w0 3 v l.length (l.flatMap fU)) (hI : ∀ d ∈ l, DuI d) (hll : l.length ≤ 9223372036854775807)
include hv hI hll
set_option maxHeartbeats 4000000 in
theorem c_Totals : Calls Tryz.prog 21 #[v] w0 (Ret (PenR w0 (totO l))) := by
 obtain ⟨o, ho⟩ : ∃ o, totO l = o := ⟨_, rfl⟩
 rw [ho]
 apply e_contract_Totals
 unfold s_contract_Totals
 have h := Hp.init [] w0
 refine msS (n := 4) fI 0 rfl (by decide) h (by decide) (by decide) fun vt w _ h => ?_
 refine leS (hv.hp h) ?_
 refine Lp1.mk (fun i W => ∃ j : Nat, j ≤ l.length ∧ i = .int .i64 j ∧ (0 < j → l.length ≤ 400) ∧ (∀ d ∈ l.take j, duOk d) ∧ Hp [] w0 W [ro tI 1 vt 4 ((totL (l.take j)).map vZ)])
  (fun i _ => match i with | .int _ i' => l.length - i'.toNat | _ => 0) ⟨0, by omega, rfl, by omega, by simp, h⟩ ?_
 clear h
 rintro _ W ⟨j, hj, rfl, h4, hall, h⟩
 by_cases hjl : j < l.length
 rotate_left
 ·rw [List.take_of_length_le (by omega)] at h hall
  have hou : o = some (totL l) := by
   rw [← ho]; unfold totO
   rw [if_pos ⟨by
    by_cases h0 : j = 0
    ·omega
    ·exact h4 (by omega), hall⟩]
  refine Bn_ltF (by omega) (If_F (Ret.mk ?_))
  rw [hou]
  refine ⟨vt, rfl, ?_⟩
  rw [flat_fI, totL_len]
  exact h
 refine Exists.elim (p := fun x => l[j]? = some x) ⟨_, List.getElem?_eq_getElem hjl⟩ fun d hd => ?_
 have sd : Seg (l.flatMap fU) (j * 3) (fU d) := flat_seg (f := fU) (fun _ => rfl) hd
 have hdm := List.mem_of_getElem? hd
 by_cases h400 : l.length ≤ 400
 rotate_left
 ·have hou : o = none := by rw [← ho]; unfold totO; rw [if_neg (fun h => h400 h.1)]
  refine Bn_ltT (by omega) (If_T (iaH h ‹_› (by omega) fun zb zo zk zv zc => ?_))
  refine lhA h ‹_› ‹_› (by rfl) ?_
  refine alS h fun g1 w h => ?_
  refine stA h 0 rfl rfl rfl rfl fun w h => ?_
  refine leS (hv.hp h) ?_
  refine Bn_gtT (by omega) (Gd_TF (Gd_TF (Gd_TF (Gd_TF (Pick_T (Gd_TF (Gd_TF (Gd_TF (Gd_TF (Pick_T (If_T ?_)))))))))))
  dsimp only [List.set] at h
  exact Ret.mk (by rw [hou]; exact ⟨rfl, h.ext⟩)
 by_cases h1 : 0 ≤ d.2.1 ∧ d.2.1 ≤ 3
 rotate_left
 ·have hou : o = none := by rw [← ho]; unfold totO; rw [if_neg (fun h => h1 (h.2 d hdm).1)]
  have cc1 := fun {W : World} (_ : Ext w0 W) => c_inF (w := W) h1
  refine Bn_ltT (by omega) (If_T (iaH h ‹_› (by omega) fun zb zo zk zv zc => ?_))
  refine lhA h ‹_› ‹_› (by rfl) ?_
  refine alS h fun g1 w h => ?_
  refine stA h 0 rfl rfl rfl rfl fun w h => ?_
  refine leS (hv.hp h) ?_
  refine Bn_gtF (by omega) (Gd_F (faS (Gd_F (Eng.ld1 h 0 rfl rfl (Gd_F (cl1 h n_contract_in (cc1 h.ext) fun w h => ?_))))))
  refine Gd_F (Un_F (Pick_F (Gd_TF (Gd_TF (Gd_TF (Gd_TF (Pick_T (If_T ?_))))))))
  dsimp only [List.set] at h
  exact Ret.mk (by rw [hou]; exact ⟨rfl, h.ext⟩)
 have cc1 := fun {W : World} (_ : Ext w0 W) => c_inT (w := W) h1
 by_cases h2 : 0 ≤ d.2.2 ∧ d.2.2 ≤ 1000000000
 rotate_left
 ·have hou : o = none := by rw [← ho]; unfold totO; rw [if_neg (fun h => h2 (h.2 d hdm).2)]
  have cc2 := fun {W : World} (_ : Ext w0 W) => c_inF (w := W) h2
  refine Bn_ltT (by omega) (If_T (iaH h ‹_› (by omega) fun zb zo zk zv zc => ?_))
  refine lhA h ‹_› ‹_› (by rfl) ?_
  refine alS h fun g1 w h => ?_
  refine stA h 0 rfl rfl rfl rfl fun w h => ?_
  refine leS (hv.hp h) ?_
  refine Bn_gtF (by omega) (Gd_F (faS (Gd_F (Eng.ld1 h 0 rfl rfl (Gd_F (cl1 h n_contract_in (cc1 h.ext) fun w h => ?_))))))
  refine Gd_F (Un_T (Pick_F (Gd_F (faS (Gd_F (Eng.ld1 h 0 rfl rfl (Gd_F (cl1 h n_contract_in (cc2 h.ext) fun w h => ?_))))))))
  refine Gd_F (Un_F (Pick_F (If_T ?_)))
  dsimp only [List.set] at h
  exact Ret.mk (by rw [hou]; exact ⟨rfl, h.ext⟩)
 have cc2 := fun {W : World} (_ : Ext w0 W) => c_inT (w := W) h2
 have h10 := h1.1
 have h11 := h1.2
 have h20 := h2.1
 have h21 := h2.2
 have hT := totL_len (l.take j)
 have hB := totL_bd j (take_len hj) hall
 refine Exists.elim (p := fun x => (totL (l.take j))[d.2.1.toNat]? = some x) ⟨_, List.getElem?_eq_getElem (by omega)⟩ fun x hx => ?_
 have hxb := hB x (List.mem_of_getElem? hx)
 have st : Seg ((totL (l.take j)).map vZ) (d.2.1.toNat * 1) [.int .i64 x] := seg_one (by rw [List.getElem?_map, hx]; rfl)
 have hsn := totL_snoc (l.take j) d
 rw [← take_snoc hd] at hsn
 refine Bn_ltT (by omega) (If_T (iaH h ‹_› (by omega) fun zb zo zk zv zc => ?_))
 refine lhA h ‹_› ‹_› (by rfl) ?_
 refine alS h fun g1 w h => ?_
 refine stA h 0 rfl rfl rfl rfl fun w h => ?_
 refine leS (hv.hp h) ?_
 refine Bn_gtF (by omega) (Gd_F (faS (Gd_F (Eng.ld1 h 0 rfl rfl (Gd_F (cl1 h n_contract_in (cc1 h.ext) fun w h => ?_))))))
 refine Gd_F (Un_T (Pick_F (Gd_F (faS (Gd_F (Eng.ld1 h 0 rfl rfl (Gd_F (cl1 h n_contract_in (cc2 h.ext) fun w h => ?_))))))))
 refine Gd_F (Un_T (Pick_F (If_F ?_)))
 replace h := h.dr
 refine dfS (dl1 h 0 rfl rfl (diRz h 1 rfl (by omega) (by omega) fun zg zk zv => ?_))
 refine dr0 h 1 rfl ‹_› ‹_› (by rfl) ?_
 refine dfS (dl1 h 0 rfl rfl (Dv_ad (by omega) (by omega) (diRz h 1 rfl (by omega) (by omega) fun zg zk zv => ?_)))
 refine stR1 h 1 rfl ‹_› (by rfl) (by rfl) (by omega) fun w h => ?_
 refine Bn_ad (by omega) (by omega) ?_
 dsimp only [List.set] at h
 have e1 : ((totL (l.take j)).map vZ).set (0 + d.2.1.toNat * 1) (.int .i64 (x + d.2.2)) = (totL (l.take (j + 1))).map vZ := by
  rw [hsn, Nat.zero_add, Nat.mul_one]
  unfold addT
  rw [List.map_set, List.getD_eq_getElem?_getD, hx]; rfl
 rw [e1] at h
 refine ⟨⟨j + 1, by omega, rfl, fun _ => h400, fun e he => ?_, h.pick [1] (by decide) rfl⟩, by show l.length - ((j : Int) + 1).toNat < l.length - (j : Int).toNat; omega⟩
 rw [take_snoc hd] at he
 rcases List.mem_append.1 he with he | he
 ·exact hall e he
 ·simp at he; subst he; exact ⟨h1, h2⟩
set_option maxHeartbeats 4000000 in
theorem c_fTotals : Calls Tryz.prog 22 #[v] w0 (Ret (PenR w0 (totO l))) := by
 by_cases h400 : l.length ≤ 400
 rotate_left
 ·have hou : totO l = none := by unfold totO; rw [if_neg (fun h => h400 h.1)]
  rw [hou]
  apply e_ref26_Totals
  unfold s_ref26_Totals
  have h := Hp.init [] w0
  refine leS (hv.hp h) ?_
  refine Bn_gtT (by omega) (If_T ?_)
  exact Ret.mk ⟨rfl, h.ext⟩
 obtain ⟨o, ho⟩ : ∃ o, totO l = o := ⟨_, rfl⟩
 rw [ho]
 apply e_ref26_Totals
 unfold s_ref26_Totals
 have h := Hp.init [] w0
 refine leS (hv.hp h) ?_
 refine Bn_gtF (by omega) (If_F (bsN (vs := [_, _, _, _]) h (.cons (by rfl) (by rfl) (.cons (by rfl) (by rfl) (.cons (by rfl) (by rfl) (.cons (by rfl) (by rfl) .nil)))) (by rfl) (by rfl) (by decide) (by decide) (by decide) fun v1 w h => ?_))
 refine Lp1.mk (fun i W => ∃ j : Nat, j ≤ l.length ∧ i = .int .i64 j ∧ (∀ d ∈ l.take j, duOk d) ∧ Hp [] w0 W [ro tI 1 v1 4 ((totL (l.take j)).map vZ)])
  (fun i _ => match i with | .int _ i' => l.length - i'.toNat | _ => 0) ⟨0, by omega, rfl, by simp, h⟩ ?_
 clear h
 rintro _ W ⟨j, hj, rfl, hall, h⟩
 by_cases hjl : j < l.length
 rotate_left
 ·rw [List.take_of_length_le (by omega)] at h hall
  have hou : o = some (totL l) := by
   rw [← ho]; unfold totO
   rw [if_pos ⟨h400, hall⟩]
  refine leS (hv.hp h) ?_
  refine Bn_ltF (by omega) (If_F (Ret.mk ?_))
  rw [hou]
  refine ⟨v1, rfl, ?_⟩
  rw [flat_fI, totL_len]
  exact h
 refine Exists.elim (p := fun x => l[j]? = some x) ⟨_, List.getElem?_eq_getElem hjl⟩ fun d hd => ?_
 have sd : Seg (l.flatMap fU) (j * 3) (fU d) := flat_seg (f := fU) (fun _ => rfl) hd
 have hdm := List.mem_of_getElem? hd
 by_cases h1 : 0 ≤ d.2.1 ∧ d.2.1 ≤ 3
 rotate_left
 ·have hou : o = none := by rw [← ho]; unfold totO; rw [if_neg (fun h => h1 (h.2 d hdm).1)]
  have cc1 := fun {W : World} (_ : Ext w0 W) => c_finF (w := W) h1
  refine leS (hv.hp h) ?_
  refine Bn_ltT (by omega) (If_T (iaH h ‹_› (by omega) fun zb zo zk zv zc => ?_))
  refine faS (lh1 h ‹_› ‹_› (by rfl) ?_)
  refine cl1 h n_ref26_in (cc1 h.ext) fun w h => ?_
  refine Un_F (Gd_TF (Gd_TF (Gd_TF (Gd_TF (Gd_TF (Gd_TF (Gd_TF (Pick_T (If_T ?_)))))))))
  exact Ret.mk (by rw [hou]; exact ⟨rfl, h.ext⟩)
 have cc1 := fun {W : World} (_ : Ext w0 W) => c_finT (w := W) h1
 by_cases h2 : 0 ≤ d.2.2 ∧ d.2.2 ≤ 1000000000
 rotate_left
 ·have hou : o = none := by rw [← ho]; unfold totO; rw [if_neg (fun h => h2 (h.2 d hdm).2)]
  have cc2 := fun {W : World} (_ : Ext w0 W) => c_finF (w := W) h2
  refine leS (hv.hp h) ?_
  refine Bn_ltT (by omega) (If_T (iaH h ‹_› (by omega) fun zb zo zk zv zc => ?_))
  refine faS (lh1 h ‹_› ‹_› (by rfl) ?_)
  refine cl1 h n_ref26_in (cc1 h.ext) fun w h => ?_
  refine Un_T (Gd_F (Gd_F (Gd_F (iaH h ‹_› (by omega) fun zb zo zk zv zc => ?_))))
  refine Gd_F (faS (Gd_F (lh1 h ‹_› ‹_› (by rfl) ?_)))
  refine Gd_F (cl1 h n_ref26_in (cc2 h.ext) fun w h => ?_)
  refine Gd_F (Un_F (Pick_F (If_T ?_)))
  exact Ret.mk (by rw [hou]; exact ⟨rfl, h.ext⟩)
 have cc2 := fun {W : World} (_ : Ext w0 W) => c_finT (w := W) h2
 have h10 := h1.1
 have h11 := h1.2
 have h20 := h2.1
 have h21 := h2.2
 have hT := totL_len (l.take j)
 have hB := totL_bd j (take_len hj) hall
 refine Exists.elim (p := fun x => (totL (l.take j))[d.2.1.toNat]? = some x) ⟨_, List.getElem?_eq_getElem (by omega)⟩ fun x hx => ?_
 have hxb := hB x (List.mem_of_getElem? hx)
 have st : Seg ((totL (l.take j)).map vZ) (d.2.1.toNat * 1) [.int .i64 x] := seg_one (by rw [List.getElem?_map, hx]; rfl)
 have hsn := totL_snoc (l.take j) d
 rw [← take_snoc hd] at hsn
 refine leS (hv.hp h) ?_
 refine Bn_ltT (by omega) (If_T (iaH h ‹_› (by omega) fun zb zo zk zv zc => ?_))
 refine faS (lh1 h ‹_› ‹_› (by rfl) ?_)
 refine cl1 h n_ref26_in (cc1 h.ext) fun w h => ?_
 refine Un_T (Gd_F (Gd_F (Gd_F (iaH h ‹_› (by omega) fun zb zo zk zv zc => ?_))))
 refine Gd_F (faS (Gd_F (lh1 h ‹_› ‹_› (by rfl) ?_)))
 refine Gd_F (cl1 h n_ref26_in (cc2 h.ext) fun w h => ?_)
 refine Gd_F (Un_T (Pick_F (If_F ?_)))
 replace h := h.dr
 refine diH h ‹_› (by omega) fun zb zo zk zv zc => ?_
 refine dfS (dh1 h ‹_› ‹_› (by rfl) ?_)
 refine diH h ‹_› (by omega) fun zb zo zk zv zc => ?_
 refine dfS (dh1 h ‹_› ‹_› (by rfl) ?_)
 refine diRz h 0 rfl (by omega) (by omega) fun zg zk zv => ?_
 refine dr0 h 0 rfl ‹_› ‹_› (by rfl) ?_
 refine diH h ‹_› (by omega) fun zb zo zk zv zc => ?_
 refine dfS (dh1 h ‹_› ‹_› (by rfl) ?_)
 refine Dv_ad (by omega) (by omega) (diRz h 0 rfl (by omega) (by omega) fun zg zk zv => ?_)
 refine stR1 h 0 rfl ‹_› (by rfl) (by rfl) (by omega) fun w h => ?_
 refine Bn_ad (by omega) (by omega) ?_
 dsimp only [List.set] at h
 have e1 : ((totL (l.take j)).map vZ).set (0 + d.2.1.toNat * 1) (.int .i64 (x + d.2.2)) = (totL (l.take (j + 1))).map vZ := by
  rw [hsn, Nat.zero_add, Nat.mul_one]
  unfold addT
  rw [List.map_set, List.getD_eq_getElem?_getD, hx]; rfl
 rw [e1] at h
 refine ⟨⟨j + 1, by omega, rfl, fun e he => ?_, h⟩, by show l.length - ((j : Int) + 1).toNat < l.length - (j : Int).toNat; omega⟩
 rw [take_snoc hd] at he
 rcases List.mem_append.1 he with he | he
 ·exact hall e he
 ·simp at he; subst he; exact ⟨h1, h2⟩
end
section
variable {w0 : World} {v u : Value} {l : List Int} (hv : SlC w0 1 v l.length (l.flatMap fI)) (hu : SlC w0 1 u l.length (l.flatMap fI)) (hll : l.length ≤ 9223372036854775807)
include hv hu hll
theorem c_SameT : Calls Tryz.prog 17 #[v, u] w0 (Ret fun r w' => Ext w0 w' ∧ r = .bool true) := by
 apply e_ref26_Same
 unfold s_ref26_Same
 have h := Hp.init [] w0
 refine leS (hv.hp h) ?_
 refine leS (hu.hp h) ?_
 refine Bn_neF (by omega) (If_F (Lp1.mk (fun i W => ∃ j : Nat, j ≤ l.length ∧ i = .int .i64 j ∧ Hp [] w0 W []) (fun i _ => match i with | .int _ i' => l.length - i'.toNat | _ => 0) ⟨0, by omega, rfl, h⟩ ?_))
 clear h
 rintro _ W ⟨j, hj, rfl, h⟩
 by_cases hjl : j < l.length
 ·refine Exists.elim (p := fun x => l[j]? = some x) ⟨_, List.getElem?_eq_getElem hjl⟩ fun x hx => ?_
  have sx : Seg (l.flatMap fI) (j * 1) (fI x) := flat_seg (f := fI) (fun _ => rfl) hx
  refine leS (hv.hp h) ?_
  refine Bn_ltT (by omega) (If_T ?_)
  replace h := h.dr
  refine diH h ‹_› (by omega) fun zb zo zk zv zc => ?_
  refine dh0 h ‹_› ‹_› (by rfl) ?_
  refine diH h ‹_› (by omega) fun zb zo zk zv zc => ?_
  refine dh0 h ‹_› ‹_› (by rfl) ?_
  refine Dv_neF (by omega) (If_F (Bn_ad (by omega) (by omega) ?_))
  exact ⟨⟨j + 1, by omega, rfl, h⟩, by show l.length - ((j : Int) + 1).toNat < l.length - (j : Int).toNat; omega⟩
 refine leS (hv.hp h) ?_
 refine Bn_ltF (by omega) (If_F ?_)
 exact Ret.mk ⟨h.ext, rfl⟩
end
theorem gdU {op : BinOp} {c : Bool} {xs ys : Array Value} {w : World} : (eqG op tD c (.agg xs) (.agg ys)).run Tryz.prog w = .ok () w := eqG_agg (by kernel_rfl)
theorem dqNe3 {wi c : Bool} {x y z : Int} {w : World} {KP : Value → Prop} (hk : KP (.bool false)) : Dv Tryz.prog wi (bn .neq tD c (.agg #[.int .i64 x, .int .i64 y, .int .i64 z]) (.agg #[.int .i64 x, .int .i64 y, .int .i64 z])) w KP := by
 cases wi <;> ((try simp -dsimp [go_sem, gdU]); repeat (simp -dsimp (disch := omega) only [gL, gI]; try simp -dsimp [go_sem, gdU])) <;> exact hk
section
variable {w0 : World} {v u : Value} {l : List Du} (hv : SlC w0 3 v l.length (l.flatMap fU)) (hu : SlC w0 3 u l.length (l.flatMap fU)) (hll : l.length ≤ 9223372036854775807)
include hv hu hll
theorem c_SameD : Calls Tryz.prog 20 #[v, u] w0 (Ret fun r w' => Ext w0 w' ∧ r = .bool true) := by
 apply e_ref26_SameDues
 unfold s_ref26_SameDues
 have h := Hp.init [] w0
 refine leS (hv.hp h) ?_
 refine leS (hu.hp h) ?_
 refine Bn_neF (by omega) (If_F (Lp1.mk (fun i W => ∃ j : Nat, j ≤ l.length ∧ i = .int .i64 j ∧ Hp [] w0 W []) (fun i _ => match i with | .int _ i' => l.length - i'.toNat | _ => 0) ⟨0, by omega, rfl, h⟩ ?_))
 clear h
 rintro _ W ⟨j, hj, rfl, h⟩
 by_cases hjl : j < l.length
 ·refine Exists.elim (p := fun x => l[j]? = some x) ⟨_, List.getElem?_eq_getElem hjl⟩ fun x hx => ?_
  have sx : Seg (l.flatMap fU) (j * 3) (fU x) := flat_seg (f := fU) (fun _ => rfl) hx
  refine leS (hv.hp h) ?_
  refine Bn_ltT (by omega) (If_T ?_)
  replace h := h.dr
  refine diH h ‹_› (by omega) fun zb zo zk zv zc => ?_
  refine dhA h ‹_› ‹_› (by rfl) ?_
  refine diH h ‹_› (by omega) fun zb zo zk zv zc => ?_
  refine dhA h ‹_› ‹_› (by rfl) ?_
  refine dqNe3 ?_
  refine If_F (Bn_ad (by omega) (by omega) ?_)
  exact ⟨⟨j + 1, by omega, rfl, h⟩, by show l.length - ((j : Int) + 1).toNat < l.length - (j : Int).toNat; omega⟩
 refine leS (hv.hp h) ?_
 refine Bn_ltF (by omega) (If_F ?_)
 exact Ret.mk ⟨h.ext, rfl⟩
end
section
variable {S : List Nat} {w0 w : World} {L : List Et} {a b : Et} {Q : World → Prop}
theorem Hp.jn (h : Hp S w0 w (a :: b :: L)) (hQ : ∀ w, a.Q w → b.Q w → Q w) : Hp S w0 w (⟨a.ks ++ b.ks, Q⟩ :: L) where
 mo := h.mo
 ok := fun e he => by
  rcases List.mem_cons.1 he with rfl | he
  ·intro w' h1 h2
   exact hQ w' (h.ok a (by simp) w' h1 fun k hk hc => h2 k hk (hc.imp (fun h => List.mem_append_left _ h) id)) (h.ok b (by simp) w' h1 fun k hk hc => h2 k hk (hc.imp (fun h => List.mem_append_right _ h) id))
  ·exact h.ok e (by simp [he])
 ks := fun e he k hk => by
  rcases List.mem_cons.1 he with rfl | he
  ·rcases List.mem_append.1 hk with hk | hk
   ·exact h.ks a (by simp) k hk
   ·exact h.ks b (by simp) k hk
  ·exact h.ks e (by simp [he]) k hk
 nd := by
  have h1 := List.pairwise_cons.1 h.nd
  have h2 := List.pairwise_cons.1 h1.2
  refine List.pairwise_cons.2 ⟨fun x hx k hk => ?_, h2.2⟩
  rcases List.mem_append.1 hk with hk | hk
  ·exact h1.1 x (by simp [hx]) k hk
  ·exact h2.1 x hx k hk
theorem Hp.wk1 (h : Hp S w0 w (a :: L)) (hQ : ∀ w, a.Q w → Q w) : Hp S w0 w (⟨a.ks, Q⟩ :: L) where
 mo := h.mo
 ok := fun e he => by
  rcases List.mem_cons.1 he with rfl | he
  ·exact fun w' h1 h2 => hQ w' (h.ok a (by simp) w' h1 h2)
  ·exact h.ok e (by simp [he])
 ks := fun e he k hk => by
  rcases List.mem_cons.1 he with rfl | he
  ·exact h.ks a (by simp) k hk
  ·exact h.ks e (by simp [he]) k hk
 nd := List.pairwise_cons.2 (List.pairwise_cons.1 h.nd)
end
structure LE where
 rq : Int
 lt : Int
 a : Option Addr
 n : Nat
 k : Nat
 sh : List RS
abbrev fL (e : LE) : List Value := [.int .i64 e.rq, .int .i64 e.lt, .slice e.a e.n e.k]
theorem slc_mk {w : World} {c n : Nat} {v : Value} {xs : List Value} (h : SlC w c v n xs) : ∃ (a : Option Addr) (m k : Nat), v = .slice a m k := by
 obtain ⟨a, l, m, rfl, _⟩ := h.key
 exact ⟨a, l, m, rfl⟩
abbrev tLt : TypeId := 31
structure LEk (e : LE) : Prop where
 rq : I64 e.rq
 lt : I64 e.lt
 sh : RSok e.sh
 sl : e.sh.length ≤ 9223372036854775807
def duesL (r : Int) : Nat → List Int → List Du
 | _, [] => []
 | k, n :: l => if 0 < n then (r, (k : Int), n) :: duesL r (k + 1) l else duesL r (k + 1) l
theorem duesL_snoc (r : Int) (n : Int) : ∀ (l : List Int) (k : Nat), duesL r k (l ++ [n]) = duesL r k l ++ (if 0 < n then [(r, ((k + l.length : Nat) : Int), n)] else [])
 | [], k => by
  show duesL r k [n] = [] ++ _
  unfold duesL
  split <;> simp [duesL]
 | x :: l, k => by
  have ih := duesL_snoc r n l (k + 1)
  show duesL r k (x :: (l ++ [n])) = duesL r k (x :: l) ++ _
  have e : k + (x :: l).length = k + 1 + l.length := by simp; omega
  rw [e]
  unfold duesL
  split
  ·rw [ih, List.cons_append]
  ·exact ih
noncomputable def billE (q : Int × LE) : Option (List Du) := if q.2.lt = 0 then (if q.2.sh = [] then some [] else none) else (splO q.1 q.2.sh).bind fun t => if t.length = 4 then some (duesL q.2.rq 0 t) else none
structure OkO (l : List LE) : Prop where
 rg : ∀ e ∈ l, 0 ≤ e.rq ∧ e.rq ≤ 999
 up : ∀ (j : Nat) (a b : LE), l[j]? = some a → l[j + 1]? = some b → a.rq < b.rq
theorem OkO.nil : OkO [] := ⟨by simp, by simp⟩
theorem OkO.snoc {l : List LE} {e : LE} (h : OkO l) (he : 0 ≤ e.rq ∧ e.rq ≤ 999) (hp : ∀ a, l[l.length - 1]? = some a → a.rq < e.rq) : OkO (l ++ [e]) := by
 refine ⟨fun x hx => ?_, fun j a b ha hb => ?_⟩
 ·rcases List.mem_append.1 hx with hx | hx
  ·exact h.rg x hx
  ·simp at hx; subst hx; exact he
 ·by_cases hj : j + 1 < l.length
  ·rw [List.getElem?_append_left (by omega)] at ha
   rw [List.getElem?_append_left hj] at hb
   exact h.up j a b ha hb
  ·have hlt := (List.getElem?_eq_some_iff.1 hb).1
   simp at hlt
   have hj' : j + 1 = l.length := by omega
   rw [List.getElem?_append_left (by omega)] at ha
   rw [hj', List.getElem?_append_right (by omega)] at hb
   simp at hb
   subst hb
   exact hp a (by rw [← hj', Nat.add_sub_cancel]; exact ha)
theorem OkO.bad {l : List LE} {j : Nat} {a b : LE} (ha : l[j]? = some a) (hb : l[j + 1]? = some b) (h : ¬ a.rq < b.rq) : ¬ OkO l := fun k => h (k.up j a b ha hb)
theorem OkO.take {l : List LE} (h : OkO l) (k : Nat) : OkO (l.take k) := ⟨fun e he => h.rg e (List.mem_of_mem_take he), fun j a b ha hb => by
 rw [List.getElem?_take] at ha hb
 split at ha
 ·split at hb
  ·exact h.up j a b ha hb
  ·cases hb
 ·cases ha⟩
open Classical in
noncomputable def bilO (c : CT) (l : List LE) : Option (List Du) := (penO c (l.map (·.lt))).bind fun pen => if OkO l then (allO billE (pen.zip l)).map List.flatten else none
def BilR (w0 : World) (o : Option (List Du)) (r : Value) (w' : World) : Prop := match o with
 | some m => ∃ v, r = .tuple #[v, .int .i64 0] ∧ Hp [] w0 w' [ro tD 3 v m.length (m.flatMap fU)]
 | none => r = .tuple #[.slice none 0 0, .int .i64 260] ∧ Ext w0 w'
theorem penO_some {c : CT} {l pen : List Int} (h : penO c l = some pen) : ∃ x, valC c = some x ∧ (l.length ≤ 100 ∧ ∀ y ∈ l, lateOk y) ∧ pen = penL x c.gr.toNat c.cap l := by
 unfold penO at h
 rcases hq : valC c with _ | x
 ·rw [hq] at h; cases h
 ·rw [hq] at h
  simp only [Option.bind_some] at h
  split at h
  ·next hc => cases h; exact ⟨x, rfl, hc, rfl⟩
  ·cases h
theorem penL_bd {p : Rat} (hp : 0 ≤ p) : ∀ {l : List Int} {g : Nat} {L : Int}, g ≤ 100 → (0 ≤ L ∧ L ≤ 1000000000) → (∀ x ∈ l, 0 ≤ x) → ∀ y ∈ penL p g L l, 0 ≤ y ∧ y ≤ 1000000000
 | [], g, L, _, _, _, y, hy => by simp [penL] at hy
 | x :: l, g, L, hg, hL, h, y, hy => by
  have := nextZ_bd hp hg hL (h x (by simp))
  rw [penL_cons] at hy
  rcases List.mem_cons.1 hy with rfl | hy
  ·exact ⟨this.2.2.2.1, this.2.2.2.2⟩
  ·exact penL_bd hp (l := l) this.1 ⟨this.2.1, this.2.2.1⟩ (fun z hz => h z (by simp [hz])) y hy
theorem penO_bd {c : CT} {l pen : List Int} (h : penO c l = some pen) : pen.length = l.length ∧ ∀ y ∈ pen, 0 ≤ y ∧ y ≤ 1000000000 := by
 obtain ⟨x, hx, hl, rfl⟩ := penO_some h
 obtain ⟨_, hp, hg, hL⟩ := valC_some hx
 exact ⟨penL_len _ _ _, penL_bd hp.nn (by omega) hL fun y hy => (hl.2 y hy).1⟩
theorem bilO_n1 {c : CT} {l : List LE} (h : penO c (l.map (·.lt)) = none) : bilO c l = none := by unfold bilO; rw [h]; rfl
theorem bilO_n2 {c : CT} {l : List LE} (h : ¬ OkO l) : bilO c l = none := by
 unfold bilO
 rw [Option.bind_eq_none_iff]
 intro pen _
 rw [if_neg h]
theorem bilO_n3 {c : CT} {l : List LE} {pen : List Int} (h : penO c (l.map (·.lt)) = some pen) {q : Int × LE} (hq : q ∈ pen.zip l) (hb : billE q = none) : bilO c l = none := by
 unfold bilO
 rw [h]
 simp only [Option.bind_some]
 split
 ·rw [allO_bad hq hb]; rfl
 ·rfl
theorem bilO_y {c : CT} {l : List LE} {pen : List Int} {D : List (List Du)} (h : penO c (l.map (·.lt)) = some pen) (ho : OkO l) (hD : allO billE (pen.zip l) = some D) : bilO c l = some D.flatten := by
 unfold bilO
 rw [h]
 simp only [Option.bind_some]
 rw [if_pos ho, hD]; rfl
theorem zip_get {α β : Type} {l : List α} {m : List β} {j : Nat} {a : α} {b : β} (ha : l[j]? = some a) (hb : m[j]? = some b) : (l.zip m)[j]? = some (a, b) := by
 rw [List.getElem?_zip_eq_some]; exact ⟨ha, hb⟩
theorem zip_take {α β : Type} {l : List α} {m : List β} {j : Nat} {a : α} {b : β} (ha : l[j]? = some a) (hb : m[j]? = some b) : (l.zip m).take (j + 1) = (l.zip m).take j ++ [(a, b)] := take_snoc (zip_get ha hb)
theorem billE_0 {p : Int} {e : LE} (h : e.lt = 0) (hs : e.sh = []) : billE (p, e) = some [] := by unfold billE; simp only; rw [if_pos h, if_pos hs]
theorem billE_0n {p : Int} {e : LE} (h : e.lt = 0) (hs : e.sh ≠ []) : billE (p, e) = none := by unfold billE; simp only; rw [if_pos h, if_neg hs]
theorem billE_n {p : Int} {e : LE} (h : e.lt ≠ 0) (hs : splO p e.sh = none) : billE (p, e) = none := by unfold billE; simp only; rw [if_neg h, hs]; rfl
theorem billE_y {p : Int} {e : LE} {t : List Int} (h : e.lt ≠ 0) (hs : splO p e.sh = some t) (h4 : t.length = 4) : billE (p, e) = some (duesL e.rq 0 t) := by unfold billE; simp only; rw [if_neg h, hs]; simp only [Option.bind_some]; rw [if_pos h4]
theorem billE_4 {p : Int} {e : LE} {t : List Int} (h : e.lt ≠ 0) (hs : splO p e.sh = some t) (h4 : t.length ≠ 4) : billE (p, e) = none := by unfold billE; simp only; rw [if_neg h, hs]; simp only [Option.bind_some]; rw [if_neg h4]
theorem splO_len {a : Int} {l : List RS} {t : List Int} (h : splO a l = some t) : t.length = l.length ∧ l.length ≤ 12 := by
 unfold splO at h
 rcases hs : sumO l with _ | s
 ·rw [hs] at h; cases h
 ·rw [hs] at h
  simp only [Option.bind_some] at h
  have hn := (sumO_some hs).1
  split at h
  ·rcases hE : allO (elO a s) l with _ | E
   ·rw [hE] at h; cases h
   ·rw [hE] at h
    cases h
    have := allO_len hE
    refine ⟨?_, hn.2⟩
    unfold partsL
    simp; omega
  ·cases h
theorem splO_bd {a : Int} {l : List RS} {t : List Int} (h : splO a l = some t) : ∀ y ∈ t, 0 ≤ y ∧ y ≤ 1000000001 := by
 unfold splO at h
 rcases hs : sumO l with _ | s
 ·rw [hs] at h; cases h
 rw [hs] at h
 simp only [Option.bind_some] at h
 split at h
 ·next ha =>
  rcases hE : allO (elO a s) l with _ | E
  ·rw [hE] at h; cases h
  rw [hE] at h
  cases h
  have hS := spl_of hs ha.1 hE
  have hSp := hS.spl
  intro y hy
  unfold partsL at hy
  obtain ⟨i, hi, rfl⟩ := List.mem_map.1 hy
  have hi' : i < (E.map (·.1)).length := List.mem_range.1 hi
  refine ⟨hSp.partnn hi', ?_⟩
  have h0 := hS.wh
  have hiE : i < E.length := by simpa using hi'
  have h1 := h0 _ (List.getElem_mem hiE)
  have h2 := whZ_bd h1.2 ha.1
  have hf : flA (E.map (·.1)) i = whZ (E[i]).1 a := by
   rw [h1.1]; unfold flA pA
   rw [List.getD_eq_getElem?_getD, List.getElem?_map, List.getElem?_eq_getElem hiE]; rfl
  unfold partA
  have h3 : ext1 (ordL (rsA (E.map (·.1))) (E.map (·.1)).length) (leftA (E.map (·.1)) a).toNat i ≤ 1 := by unfold ext1; split <;> decide
  rw [hf]; omega
 ·cases h
theorem c_Bill1 {w : World} {e : LE} : Calls Tryz.prog 48 #[.agg (fL e).toArray] w (Ret fun r w' => Ext w w' ∧ r = .int .i64 e.lt) := by
 apply e_contract_Bill_1
 unfold s_contract_Bill_1
 have h := Hp.init [] w
 refine bxA h fun g1 w h => ?_
 refine faS (Eng.ld1 h 0 rfl rfl ?_)
 exact Ret.mk ⟨h.ext, rfl⟩
section
variable {w0 : World} {v : Value} {l : List LE} (hv : SlC w0 3 v l.length (l.flatMap fL)) (hll : l.length ≤ 16777216)
include hv hll
set_option maxHeartbeats 4000000 in
theorem c_eachL : Calls Tryz.prog 47 #[v, .func (.func 48) #[] #[]] w0 (Ret fun r w' => Hp [] w0 w' [ro tI 1 r l.length ((l.map (·.lt)).flatMap fI)]) := by
 apply e_contract_each_api_Late_int
 unfold s_contract_each_api_Late_int
 have h := Hp.init [] w0
 refine leS (hv.hp h) ?_
 have h := h.nil tI 1
 refine Lp2.mk (fun u i W => ∃ j : Nat, j ≤ l.length ∧ i = .int .i64 j ∧ Hp [] w0 W [ro tI 1 u j (((l.take j).map (·.lt)).flatMap fI)])
  (fun _ i _ => match i with | .int _ i' => l.length - i'.toNat | _ => 0) ⟨0, by omega, rfl, h⟩ ?_
 clear h
 rintro u _ W ⟨j, hj, rfl, h⟩
 by_cases hjl : j < l.length
 ·refine Exists.elim (p := fun x => l[j]? = some x) ⟨_, List.getElem?_eq_getElem hjl⟩ fun e he => ?_
  have sx : Seg (l.flatMap fL) (j * 3) (fL e) := flat_seg (f := fL) (fun _ => rfl) he
  have cc1 := fun {W : World} (_ : Ext w0 W) => c_Bill1 (w := W) (e := e)
  refine Bn_ltT (by omega) (If_T (iaH h ‹_› (by omega) fun zb zo zk zv zc => ?_))
  refine lhA h ‹_› ‹_› (by rfl) ?_
  refine alS h fun g1 w h => ?_
  refine stA h 0 rfl rfl rfl rfl fun w h => ?_
  refine ldA h 0 rfl rfl ?_
  refine cw1 h n_contract_Bill_1 (cc1 h.ext) fun w h => ?_
  refine bs1A h (by rfl) (by decide) (by rfl) (by decide) fun v1 w h => ?_
  refine apR (by rfl) (by decide) h 2 rfl (qZ 0 h rfl) (by first | rfl | assumption) (by omega) fun v2 w h => ?_
  refine Bn_ad (by omega) (by omega) ?_
  dsimp only [List.set] at h
  refine ⟨⟨j + 1, by omega, rfl, ?_⟩, by show l.length - ((j : Int) + 1).toNat < l.length - (j : Int).toNat; omega⟩
  rw [take_snoc he, List.map_append, List.flatMap_append]
  exact h.pick [2] (by decide) rfl
 have hjl' : j = l.length := by omega
 subst hjl'
 rw [List.take_length] at h
 refine Bn_ltF (by omega) (If_F ?_)
 exact Ret.mk h
end
end Go.Proofs.YtjmdnjnjepinoaaGreatDoor
