/-
  Contracts and plain lemmas. By an AI agent.
-/
import Derived.Test.YtjmdnjnjepinoaaGreatDoorCoG
set_option linter.unusedSimpArgs false
set_option linter.unusedVariables false
set_option linter.unusedSectionVars false
namespace Go.Proofs.YtjmdnjnjepinoaaGreatDoor
open Go Go.Eng Go.Proofs Go.Num Go.RowKit
set_option maxRecDepth 100000
def wsum (a : Int) : List (Rat × Rat) → Int
 | [] => 0
 | e :: E => whZ e.1 a + wsum a E
theorem wsum_snoc (a : Int) (e : Rat × Rat) : ∀ E, wsum a (E ++ [e]) = wsum a E + whZ e.1 a
 | [] => by show whZ e.1 a + 0 = 0 + whZ e.1 a; omega
 | x :: E => by show whZ x.1 a + wsum a (E ++ [e]) = whZ x.1 a + wsum a E + whZ e.1 a; rw [wsum_snoc a e E]; omega
theorem whZ_bd {x : Rat} {a : Int} (hx : 0 ≤ x) (ha : 0 ≤ a) : 0 ≤ whZ x a ∧ whZ x a ≤ a := by
 have := floor_nn hx
 unfold whZ; omega
theorem wsum_bd {a : Int} (ha : 0 ≤ a) : ∀ {E : List (Rat × Rat)}, (∀ e ∈ E, 0 ≤ e.1) → 0 ≤ wsum a E ∧ wsum a E ≤ E.length * a
 | [], _ => by simp [wsum]
 | e :: E, h => by
  have h1 := whZ_bd (h e (by simp)) ha
  have h2 := wsum_bd ha (E := E) fun x hx => h x (by simp [hx])
  show 0 ≤ whZ e.1 a + wsum a E ∧ whZ e.1 a + wsum a E ≤ ((E.length + 1 : Nat) : Int) * a
  rw [Int.natCast_add, Int.add_mul]; omega
theorem oc {α : Type} (o : Option α) : o = none ∨ ∃ x, o = some x := by
 cases o
 ·exact .inl rfl
 ·exact .inr ⟨_, rfl⟩
abbrev fW (a : Int) (e : Rat × Rat) : List Value := [.int .i64 (whZ e.1 a)]
abbrev fE2 (e : Rat × Rat) : List Value := fQ e.2
section
variable {a : Int} {l : List RS} {s : Rat} (hs : sumO l = some s) (ha : 0 ≤ a ∧ a ≤ 1000000000)
include hs ha
theorem splO_none {r : RS} (hr : r ∈ l) (h : elO a s r = none) : splO a l = none := by
 unfold splO
 rw [hs]
 simp only [Option.bind_some]
 rw [if_pos ha, allO_bad hr h]; rfl
theorem splO_some {E : List (Rat × Rat)} (h : allO (elO a s) l = some E) : splO a l = some (partsL (E.map (·.1)) a) := by
 unfold splO
 rw [hs]
 simp only [Option.bind_some]
 rw [if_pos ha, h]; rfl
end
abbrev vZ (z : Int) : Value := .int .i64 z
theorem flat_fI : ∀ l : List Int, l.flatMap fI = l.map vZ
 | [] => rfl
 | x :: l => by rw [List.flatMap_cons, List.map_cons, flat_fI l]; rfl
theorem flat_fW (a : Int) : ∀ E : List (Rat × Rat), E.flatMap (fW a) = (E.map fun e => whZ e.1 a).map vZ
 | [] => rfl
 | e :: E => by rw [List.flatMap_cons, List.map_cons, List.map_cons, flat_fW a E]; rfl
theorem allO_mem {α β : Type} {f : α → Option β} {l : List α} {E : List β} (hE : allO f l = some E) {e : β} (he : e ∈ E) : ∃ r ∈ l, f r = some e := by
 obtain ⟨j, hj⟩ := List.getElem?_of_mem he
 have hjl := (List.getElem?_eq_some_iff.1 hj).1
 rw [allO_len hE] at hjl
 obtain ⟨e', h1, h2⟩ := allO_get hE j _ (List.getElem?_eq_getElem hjl)
 rw [hj] at h1
 cases h1
 exact ⟨_, List.getElem_mem hjl, h2⟩
theorem gZ_map (f : Nat → Int) (k : Nat → Nat) : ∀ l, gZ f (l.map k) = gZ (fun i => f (k i)) l
 | [] => rfl
 | i :: l => by show f (k i) + _ = f (k i) + _; rw [gZ_map f k l]
theorem wsum_fl {a : Int} : ∀ {E : List (Rat × Rat)}, (∀ e ∈ E, whZ e.1 a = e.1.floor ∧ 0 ≤ e.1) → wsum a E = gZ (flA (E.map (·.1))) (List.range (E.map (·.1)).length)
 | [], _ => rfl
 | e :: E, h => by
  rw [List.map_cons, List.length_cons, List.range_succ_eq_map]
  show whZ e.1 a + wsum a E = flA (e.1 :: E.map (·.1)) 0 + gZ (flA (e.1 :: E.map (·.1))) ((List.range (E.map (·.1)).length).map Nat.succ)
  rw [gZ_map, wsum_fl fun x hx => h x (by simp [hx]), (h e (by simp)).1]
  rfl
def outL (P : List Rat) (L : List Nat) (q : Nat) : List Int := (List.range P.length).map fun i => flA P i + ext1 L q i
theorem outL_get {P : List Rat} {L : List Nat} {q i : Nat} (hi : i < P.length) : (outL P L q)[i]? = some (flA P i + ext1 L q i) := by
 unfold outL; rw [List.getElem?_map, List.getElem?_range hi]; rfl
theorem outL_len {P : List Rat} {L : List Nat} {q : Nat} : (outL P L q).length = P.length := by unfold outL; simp
theorem ext1_at {L : List Nat} {q i : Nat} (hn : L.Nodup) (h : L[q]? = some i) : ext1 L q i = 0 ∧ ext1 L (q + 1) i = 1 := by
 unfold ext1
 have hs := take_snoc h
 refine ⟨if_neg fun hm => ?_, if_pos (by rw [hs]; simp)⟩
 have h1 : (L.take (q + 1)).Nodup := hn.sublist (List.take_sublist _ _)
 rw [hs] at h1
 exact (List.nodup_append.1 h1).2.2 i hm i (by simp) rfl
theorem ext1_ne {L : List Nat} {q i k : Nat} (h : L[q]? = some i) (hk : k ≠ i) : ext1 L (q + 1) k = ext1 L q k := by
 unfold ext1
 rw [take_snoc h]
 simp [hk]
theorem outL_step {P : List Rat} {L : List Nat} {q i : Nat} (hn : L.Nodup) (h : L[q]? = some i) : (outL P L q).set i (flA P i + ext1 L q i + 1) = outL P L (q + 1) := by
 apply List.ext_getElem?
 intro k
 rw [List.getElem?_set]
 by_cases hki : i = k
 ·subst hki
  rw [if_pos rfl]
  by_cases hl : i < P.length
  ·rw [if_pos (by rw [outL_len]; exact hl), outL_get hl, (ext1_at hn h).1, (ext1_at hn h).2]; simp
  ·rw [if_neg (by rw [outL_len]; exact hl), List.getElem?_eq_none (by rw [outL_len]; omega)]
 ·rw [if_neg hki]
  by_cases hl : k < P.length
  ·rw [outL_get hl, outL_get hl, ext1_ne h (fun e => hki e.symm)]
  ·rw [List.getElem?_eq_none (by rw [outL_len]; omega), List.getElem?_eq_none (by rw [outL_len]; omega)]
theorem outL_0 {a : Int} {E : List (Rat × Rat)} {L : List Nat} (h : ∀ e ∈ E, whZ e.1 a = e.1.floor ∧ 0 ≤ e.1) : E.map (fun e => whZ e.1 a) = outL (E.map (·.1)) L 0 := by
 apply List.ext_getElem?
 intro k
 by_cases hl : k < E.length
 ·rw [outL_get (by simpa using hl), List.getElem?_map, List.getElem?_eq_getElem hl]
  show some (whZ E[k].1 a) = _
  rw [(h _ (List.getElem_mem hl)).1]
  unfold ext1 flA pA
  rw [List.getD_eq_getElem?_getD, List.getElem?_map, List.getElem?_eq_getElem hl]
  simp
 ·rw [List.getElem?_eq_none (by simp; omega), List.getElem?_eq_none (by rw [outL_len]; simp; omega)]
section
variable {a : Int} {s x y p q : Rat} {r : RS} (hx : xv r = x)
include hx
theorem elO_n1 (h1 : oMul (some (qI a)) (some x) = none) : elO a s r = none := by unfold elO; rw [hx, h1]; rfl
theorem elO_n2 (h1 : oMul (some (qI a)) (some x) = some y) (h2 : oDiv (some y) (some s) = none) : elO a s r = none := by
 unfold elO; rw [hx, h1]; simp only [Option.bind_some]; rw [h2]; rfl
theorem elO_n3 (h1 : oMul (some (qI a)) (some x) = some y) (h2 : oDiv (some y) (some s) = some p) (h3 : oSub (some p) (some (qI (whZ p a))) = none) : elO a s r = none := by
 unfold elO; rw [hx, h1]; simp only [Option.bind_some]; rw [h2]; simp only [Option.bind_some]; rw [h3]; rfl
theorem elO_y (h1 : oMul (some (qI a)) (some x) = some y) (h2 : oDiv (some y) (some s) = some p) (h3 : oSub (some p) (some (qI (whZ p a))) = some q) : elO a s r = some (p, q) := by
 unfold elO; rw [hx, h1]; simp only [Option.bind_some]; rw [h2]; simp only [Option.bind_some]; rw [h3]; rfl
end
section
variable {w0 : World} {v : Value} {l : List RS} {a : Int} (hv : SlR w0 v l) (hk : RSok l) (hll : l.length ≤ 9223372036854775807) (haI : I64 a)
include hv hk hll haI
theorem c_sum_n (he : En w0) (hs : sumO l = none) : Calls Tryz.prog 49 #[v] w0 (Ret fun r w' => Ext w0 w' ∧ ∃ q : Rat, r = .tuple #[ov (some q), .bool false]) := by
 refine (c_sumS hv hk hll he).mono ?_
 rintro _ w' ⟨_, rfl, x, q, rfl, hq⟩
 rw [hs]
 exact Ret.mk ⟨x, q, rfl⟩
theorem c_sum_y (he : En w0) {s : Rat} (hs : sumO l = some s) : Calls Tryz.prog 49 #[v] w0 (Ret fun r w' => Ext w0 w' ∧ r = .tuple #[ov (some s), .bool true]) := by
 refine (c_sumS hv hk hll he).mono ?_
 rintro _ w' ⟨_, rfl, x, q, rfl, hq⟩
 have := hq s hs
 subst this
 rw [hs]
 exact Ret.mk ⟨x, rfl⟩
theorem c_fsum_n (hs : sumO l = none) : Calls Tryz.prog 54 #[v] w0 (Ret fun r w' => Ext w0 w' ∧ ∃ q : Rat, r = .tuple #[ov (some q), .bool false]) := by
 refine (c_fSumS hv hk hll).mono ?_
 rintro _ w' ⟨_, rfl, x, q, rfl, hq⟩
 rw [hs]
 exact Ret.mk ⟨x, q, rfl⟩
theorem c_fsum_y {s : Rat} (hs : sumO l = some s) : Calls Tryz.prog 54 #[v] w0 (Ret fun r w' => Ext w0 w' ∧ r = .tuple #[ov (some s), .bool true]) := by
 refine (c_fSumS hv hk hll).mono ?_
 rintro _ w' ⟨_, rfl, x, q, rfl, hq⟩
 have := hq s hs
 subst this
 rw [hs]
 exact Ret.mk ⟨x, rfl⟩
set_option maxHeartbeats 16000000 in
theorem c_Split (he : En w0) : Calls Tryz.prog 24 #[.int .i64 a, v] w0 (Ret (PenR w0 (splO a l))) := by
 have hv : SlC w0 2 v l.length (l.flatMap fR) := hv
 rcases hs : sumO l with _ | s
 ·have e : splO a l = none := by unfold splO; rw [hs]; rfl
  rw [e]
  apply e_contract_Split
  unfold s_contract_Split
  have h := Hp.init [] w0
  refine Cl_i n_contract_sum (c_sum_n hv hk hll haI he hs) ?_
  rintro _ w' ⟨x, q, rfl⟩
  have h := h.x x
  refine Ex2 (alS h fun g1 w h => ?_)
  refine stA h 0 rfl rfl rfl rfl fun w h => ?_
  refine Un_F (Gd_TF (Gd_TF (Gd_TF (Pick_T (If_T ?_)))))
  dsimp only [List.set] at h
  exact Ret.mk ⟨rfl, h.ext⟩
 by_cases ha : 0 ≤ a ∧ a ≤ 1000000000
 rotate_left
 ·have e : splO a l = none := by unfold splO; rw [hs]; simp only [Option.bind_some]; rw [if_neg ha]
  have cc1 := fun {W : World} (_ : Ext w0 W) => c_inF (w := W) ha
  rw [e]
  apply e_contract_Split
  unfold s_contract_Split
  have h := Hp.init [] w0
  refine Cl_i n_contract_sum (c_sum_y hv hk hll haI he hs) ?_
  rintro _ w' ⟨x, rfl⟩
  have h := h.x x
  refine Ex2 (alS h fun g1 w h => ?_)
  refine stA h 0 rfl rfl rfl rfl fun w h => ?_
  refine Un_T (Gd_F (Gd_F (cl1 h n_contract_in (cc1 h.ext) fun w h => ?_)))
  refine Gd_F (Un_F (Pick_F (If_T ?_)))
  dsimp only [List.set] at h
  exact Ret.mk ⟨rfl, h.ext⟩
 obtain ⟨hn, hsv, hs0, hsB, hall⟩ := sumO_some hs
 have ha0 := ha.1
 have ha1 := ha.2
 have cc1 := fun {W : World} (_ : Ext w0 W) => c_inT (w := W) ha
 have cc2 := fun {W : World} (x : Ext w0 W) => c_Of1 (w := W) (n := a) (he.hT.ext x) haI
 obtain ⟨o, ho⟩ : ∃ o, splO a l = o := ⟨_, rfl⟩
 rw [ho]
 apply e_contract_Split
 unfold s_contract_Split
 have h := Hp.init [] w0
 refine Cl_i n_contract_sum (c_sum_y hv hk hll haI he hs) ?_
 rintro _ w' ⟨x, rfl⟩
 have h := h.x x
 refine Ex2 (alS h fun g1 w h => ?_)
 refine stA h 0 rfl rfl rfl rfl fun w h => ?_
 refine Un_T (Gd_F (Gd_F (cl1 h n_contract_in (cc1 h.ext) fun w h => ?_)))
 refine Gd_F (Un_T (Pick_F (If_F (cl1 h n_rational_Of (cc2 h.ext) fun w h => ?_))))
 refine Ex2 (alS h fun g2 w h => ?_)
 refine stA h 0 rfl rfl rfl rfl fun w h => ?_
 refine alS h fun g3 w h => ?_
 refine leS (hv.hp h) ?_
 dsimp only [List.set] at h
 refine Lp4.mkK (fun b u vo i W => ∃ (j : Nat) (E : List (Rat × Rat)) (vr : Value), j ≤ l.length ∧ b = .int .i64 (a - wsum a E) ∧ i = .int .i64 j ∧ allO (elO a s) (l.take j) = some E ∧ (∀ e ∈ E, 0 ≤ e.1) ∧
  Hp [] w0 W [ro tI 1 vo j ((List.range j).map vI), ro tI 1 u j (E.flatMap (fW a)), bx g3 tRs [vr], ro tR 2 vr j (E.flatMap fE2), bx g2 tR (fO (some (qI a))), bx g1 tR (fO (some s))])
  (fun _ _ _ i _ => match i with | .int _ i' => l.length - i'.toNat | _ => 0) ⟨0, [], .slice none 0 0, by omega, by show _ = Value.int .i64 (a - 0); rw [Int.sub_zero], rfl, rfl, by simp, (((h.nil tR 2).nil tI 1).nil tI 1).pick [0, 1, 3, 2, 4, 5] (by decide) rfl⟩ ?_
 clear h
 rintro _ u vo _ W ⟨j, E, vr, hj, rfl, rfl, hE, hEn, h⟩ K hK
 have hEl := allO_len hE
 rw [take_len hj] at hEl
 have hwb := wsum_bd ha0 hEn
 have hw2 : (E.length : Int) * a ≤ 12 * 1000000000 := Int.mul_le_mul (by omega) ha1 ha0 (by decide)
 have hw1 := hwb.1
 have hw3 := hwb.2
 by_cases hjl : j < l.length
 ·refine Exists.elim (p := fun x => l[j]? = some x) ⟨_, List.getElem?_eq_getElem hjl⟩ fun r hr => ?_
  have sr : Seg (l.flatMap fR) (j * 2) (fR r) := flat_seg (f := fR) (fun _ => rfl) hr
  have hrm := List.mem_of_getElem? hr
  refine Exists.elim (hall r hrm) fun x hx => ?_
  have hrx := (shR_some hx).1
  have hxB := (shR_some hx).2.1
  have hxv := xv_of hx
  have aB : RB (qI a) := rb_int haI
  have ccM : ∀ {W : World}, Ext w0 W → Calls Tryz.prog 28 #[ov (some (qI a)), .agg #[str r.1, str r.2]] W (Ret fun r w' => Ext W w' ∧ r = ot (oMul (some (qI a)) (some x))) := fun {W} e => by
   have := o_mul (w := W) (o := some (qI a)) (p := some x) (.some aB) (.some hxB) (he.hT.ext e)
   rw [hrx]; exact this
  refine (oc (oMul (some (qI a)) (some x))).elim (fun h1 => ?_) fun hy => Exists.elim hy fun y h1 => ?_
  ·have hno : o = none := ho ▸ splO_none hs ha hrm (elO_n1 hxv h1)
   rw [h1] at ccM
   have cc3 : ∀ {W : World}, Ext w0 W → Calls Tryz.prog 28 #[ov (some (qI a)), .agg #[str r.1, str r.2]] W (Ret fun r w' => Ext W w' ∧ r = .tuple #[ov none, .int .i64 40]) := ccM
   clear ccM cc1 cc2
   refine Bn_ltT (by omega) (If_T (iaH h ‹_› (by omega) fun zb zo zk zv zc => ?_))
   refine lhA h ‹_› ‹_› (by rfl) ?_
   refine alS h fun g4 w h => ?_
   refine stA h 0 rfl rfl rfl rfl fun w h => ?_
   refine ldA h 5 rfl rfl ?_
   refine ldA h 0 rfl rfl ?_
   refine cl1 h n_rational_Mul (cc3 h.ext) fun w h => ?_
   refine Ex2 (alS h fun g5 w h => ?_)
   refine stA h 0 rfl rfl rfl rfl fun w h => ?_
   refine Bn_neT (by omega) (If_T ?_)
   dsimp only [List.set] at h
   exact Ret.mk (by rw [hno]; exact ⟨rfl, h.ext⟩)
  rw [h1] at ccM
  have cc3 : ∀ {W : World}, Ext w0 W → Calls Tryz.prog 28 #[ov (some (qI a)), .agg #[str r.1, str r.2]] W (Ret fun r w' => Ext W w' ∧ r = .tuple #[ov (some y), .int .i64 0]) := ccM
  clear ccM
  have yB := (h1 ▸ oBin_B fit_mul (some (qI a)) (some x) : OB (some y)).get
  have ccD : ∀ {W : World}, Ext w0 W → Calls Tryz.prog 30 #[ov (some y), ov (some s)] W (Ret fun r w' => Ext W w' ∧ r = ot (oDiv (some y) (some s))) := fun {W} e => o_div (.some yB) (.some hsB) (he.hT.ext e)
  refine (oc (oDiv (some y) (some s))).elim (fun h2 => ?_) fun hy => Exists.elim hy fun p h2 => ?_
  ·have hno : o = none := ho ▸ splO_none hs ha hrm (elO_n2 hxv h1 h2)
   rw [h2] at ccD
   have cc4 : ∀ {W : World}, Ext w0 W → Calls Tryz.prog 30 #[ov (some y), ov (some s)] W (Ret fun r w' => Ext W w' ∧ r = .tuple #[ov none, .int .i64 40]) := ccD
   clear ccD cc1 cc2
   refine Bn_ltT (by omega) (If_T (iaH h ‹_› (by omega) fun zb zo zk zv zc => ?_))
   refine lhA h ‹_› ‹_› (by rfl) ?_
   refine alS h fun g4 w h => ?_
   refine stA h 0 rfl rfl rfl rfl fun w h => ?_
   refine ldA h 5 rfl rfl ?_
   refine ldA h 0 rfl rfl ?_
   refine cl1 h n_rational_Mul (cc3 h.ext) fun w h => ?_
   refine Ex2 (alS h fun g5 w h => ?_)
   refine stA h 0 rfl rfl rfl rfl fun w h => ?_
   refine Bn_neF (by omega) (If_F (ldA h 0 rfl rfl ?_))
   refine ldA h 7 rfl rfl ?_
   refine cl1 h n_rational_Div (cc4 h.ext) fun w h => ?_
   refine Ex2 (alS h fun g6 w h => ?_)
   refine stA h 0 rfl rfl rfl rfl fun w h => ?_
   refine Bn_neT (by omega) (If_T ?_)
   dsimp only [List.set] at h
   exact Ret.mk (by rw [hno]; exact ⟨rfl, h.ext⟩)
  rw [h2] at ccD
  have cc4 : ∀ {W : World}, Ext w0 W → Calls Tryz.prog 30 #[ov (some y), ov (some s)] W (Ret fun r w' => Ext W w' ∧ r = .tuple #[ov (some p), .int .i64 0]) := ccD
  clear ccD
  have pB := (h2 ▸ oBin_B fit_div (some y) (some s) : OB (some p)).get
  have hp0 : 0 ≤ p := by
   have v1 := oBin_val h1
   have v2 := oBin_val h2
   have hsp : 0 < s := by
    have h0 : 0 ≤ s := by
     rw [hsv]
     exact lsum_nn fun r hr => by
      obtain ⟨x, hx⟩ := hall r hr
      rw [xv_of hx]; exact (shR_some hx).2.2.1
    grind
   have haq : (0 : Rat) ≤ qI a := by show (0 : Rat) ≤ (a : Rat); exact_mod_cast ha0
   have h3 : 0 ≤ qI a * x := Rat.mul_nonneg haq (shR_some hx).2.2.1
   rw [v2, v1]
   refine Rat.not_lt.1 fun h => ?_
   have := (Rat.div_lt_iff hsp).1 h
   rw [Rat.zero_mul] at this
   grind
  have hwz := whZ_bd hp0 ha0
  have hwz1 := hwz.1
  have hwz2 := hwz.2
  have cc5 : ∀ {W : World}, Ext w0 W → Calls Tryz.prog 51 #[ov (some p), .int .i64 a] W (Ret fun r w' => Ext W w' ∧ r = .int .i64 (whZ p a)) := fun {W} e => c_whole (w0 := W) pB hp0 ha (he.hT.ext e)
  have cc6 := fun {W : World} (x : Ext w0 W) => c_Of1 (w := W) (n := whZ p a) (he.hT.ext x) (by omega)
  have ccS : ∀ {W : World}, Ext w0 W → Calls Tryz.prog 31 #[ov (some p), ov (some (qI (whZ p a)))] W (Ret fun r w' => Ext W w' ∧ r = ot (oSub (some p) (some (qI (whZ p a))))) := fun {W} e => o_sub (.some pB) (.some (rb_int (by omega))) (he.hT.ext e)
  refine (oc (oSub (some p) (some (qI (whZ p a))))).elim (fun h3 => ?_) fun hy => Exists.elim hy fun q h3 => ?_
  ·have hno : o = none := ho ▸ splO_none hs ha hrm (elO_n3 hxv h1 h2 h3)
   rw [h3] at ccS
   have cc7 : ∀ {W : World}, Ext w0 W → Calls Tryz.prog 31 #[ov (some p), ov (some (qI (whZ p a)))] W (Ret fun r w' => Ext W w' ∧ r = .tuple #[ov none, .int .i64 40]) := ccS
   clear ccS cc1 cc2
   refine Bn_ltT (by omega) (If_T (iaH h ‹_› (by omega) fun zb zo zk zv zc => ?_))
   refine lhA h ‹_› ‹_› (by rfl) ?_
   refine alS h fun g4 w h => ?_
   refine stA h 0 rfl rfl rfl rfl fun w h => ?_
   refine ldA h 5 rfl rfl ?_
   refine ldA h 0 rfl rfl ?_
   refine cl1 h n_rational_Mul (cc3 h.ext) fun w h => ?_
   refine Ex2 (alS h fun g5 w h => ?_)
   refine stA h 0 rfl rfl rfl rfl fun w h => ?_
   refine Bn_neF (by omega) (If_F (ldA h 0 rfl rfl ?_))
   refine ldA h 7 rfl rfl ?_
   refine cl1 h n_rational_Div (cc4 h.ext) fun w h => ?_
   refine Ex2 (alS h fun g6 w h => ?_)
   refine stA h 0 rfl rfl rfl rfl fun w h => ?_
   refine Bn_neF (by omega) (If_F (ldA h 0 rfl rfl ?_))
   refine cl1 h n_contract_whole (cc5 h.ext) fun w h => ?_
   refine cl1 h n_rational_Of (cc6 h.ext) fun w h => ?_
   refine Ex2 (alS h fun g7 w h => ?_)
   refine stA h 0 rfl rfl rfl rfl fun w h => ?_
   dsimp only [List.set] at h
   refine ldA h 1 rfl rfl ?_
   refine ldA h 0 rfl rfl ?_
   refine cl1 h n_rational_Sub (cc7 h.ext) fun w h => ?_
   refine Ex2 (alS h fun g8 w h => ?_)
   refine stA h 0 rfl rfl rfl rfl fun w h => ?_
   refine Bn_neT (by omega) (If_T ?_)
   dsimp only [List.set] at h
   exact Ret.mk (by rw [hno]; exact ⟨rfl, h.ext⟩)
  rw [h3] at ccS
  have cc7 : ∀ {W : World}, Ext w0 W → Calls Tryz.prog 31 #[ov (some p), ov (some (qI (whZ p a)))] W (Ret fun r w' => Ext W w' ∧ r = .tuple #[ov (some q), .int .i64 0]) := ccS
  clear ccS cc1 cc2
  have hEs := allO_snoc hE (elO_y hxv h1 h2 h3)
  rw [← take_snoc hr] at hEs
  have hEn' : ∀ e ∈ E ++ [(p, q)], 0 ≤ e.1 := fun e he => by
   rcases List.mem_append.1 he with he | he
   ·exact hEn e he
   ·simp at he; subst he; exact hp0
  have lf1 : ∀ (u' vo' vr' : Value) (w1 : World), Hp [] w0 w1 [ro tI 1 vo' (j + 1) ((List.range j).map vI ++ [vI j]), ro tI 1 u' (j + 1) (E.flatMap (fW a) ++ [.int .i64 (whZ p a)]), bx g3 tRs [vr'], ro tR 2 vr' (j + 1) (E.flatMap fE2 ++ fQ q), bx g2 tR (fO (some (qI a))), bx g1 tR (fO (some s))] → K (.int .i64 (a - wsum a E - whZ p a)) u' vo' (.int .i64 ((j : Int) + 1)) w1 := fun u' vo' vr' w1 h1 => by
   refine hK _ _ _ _ _ ⟨j + 1, E ++ [(p, q)], vr', by omega, by rw [wsum_snoc, show a - (wsum a E + whZ (p, q).1 a) = a - wsum a E - whZ p a by show a - (wsum a E + whZ p a) = _; omega], rfl, hEs, hEn', ?_⟩ (by show l.length - ((j : Int) + 1).toNat < l.length - (j : Int).toNat; omega)
   rw [List.range_succ, List.map_append, List.flatMap_append, List.flatMap_append]
   exact h1
  clear hK
  refine Bn_ltT (by omega) (If_T (iaH h ‹_› (by omega) fun zb zo zk zv zc => ?_))
  refine lhA h ‹_› ‹_› (by rfl) ?_
  refine alS h fun g4 w h => ?_
  refine stA h 0 rfl rfl rfl rfl fun w h => ?_
  refine ldA h 5 rfl rfl ?_
  refine ldA h 0 rfl rfl ?_
  refine cl1 h n_rational_Mul (cc3 h.ext) fun w h => ?_
  refine Ex2 (alS h fun g5 w h => ?_)
  refine stA h 0 rfl rfl rfl rfl fun w h => ?_
  refine Bn_neF (by omega) (If_F (ldA h 0 rfl rfl ?_))
  refine ldA h 7 rfl rfl ?_
  refine cl1 h n_rational_Div (cc4 h.ext) fun w h => ?_
  refine Ex2 (alS h fun g6 w h => ?_)
  refine stA h 0 rfl rfl rfl rfl fun w h => ?_
  refine Bn_neF (by omega) (If_F (ldA h 0 rfl rfl ?_))
  refine cl1 h n_contract_whole (cc5 h.ext) fun w h => ?_
  refine cl1 h n_rational_Of (cc6 h.ext) fun w h => ?_
  refine Ex2 (alS h fun g7 w h => ?_)
  refine stA h 0 rfl rfl rfl rfl fun w h => ?_
  dsimp only [List.set] at h
  refine ldA h 1 rfl rfl ?_
  refine ldA h 0 rfl rfl ?_
  refine cl1 h n_rational_Sub (cc7 h.ext) fun w h => ?_
  refine Ex2 (alS h fun g8 w h => ?_)
  refine stA h 0 rfl rfl rfl rfl fun w h => ?_
  refine Bn_neF (by omega) (If_F (Bn_su (by omega) (by omega) ?_))
  replace h := h.dr
  refine dl1 h 7 rfl rfl (dlA h 0 rfl rfl ?_)
  refine ⟨?_, ?_⟩
  refine bs1A h (by rfl) (by decide) (by rfl) (by decide) fun v1 w h => ?_
  refine kl1 h 8 rfl rfl (klA h 1 rfl rfl ?_)
  refine ⟨?_, ?_⟩
  refine apR (by rfl) (by decide) h 7 rfl (qZ 0 h rfl) (by first | rfl | assumption) (by omega) fun v2 w h => ?_
  refine kl1 h 8 rfl rfl (klA h 1 rfl rfl ?_)
  refine ⟨?_, ?_⟩
  refine bs1A h (by rfl) (by decide) (by rfl) (by decide) fun v3 w h => ?_
  refine kl1 h 9 rfl rfl (klA h 2 rfl rfl ?_)
  refine ⟨?_, ?_⟩
  refine apR (by rfl) (by decide) h 7 rfl (qZ 0 h rfl) (by first | rfl | assumption) (by omega) fun v4 w h => ?_
  refine kl1 h 9 rfl rfl (klA h 2 rfl rfl ?_)
  refine bs1A h (by rfl) (by decide) (by rfl) (by decide) fun v5 w h => ?_
  refine kl1 h 10 rfl rfl (apR (by rfl) (by decide) h 11 rfl (qZ 0 h rfl) (by first | rfl | assumption) (by omega) fun v6 w h => ?_)
  dsimp only [List.set] at h
  refine st1w h 10 rfl (qZ 11 h rfl) rfl fun w h => ?_
  refine Bn_ad (by omega) (by omega) ?_
  exact lf1 _ _ _ _ (h.pick [8, 9, 10, 11, 12, 13] (by decide) rfl)
  refine bs1A h (by rfl) (by decide) (by rfl) (by decide) fun v4 w h => ?_
  refine kl1 h 10 rfl rfl (apR (by rfl) (by decide) h 8 rfl (qZ 1 h rfl) (by first | rfl | assumption) (by omega) fun v5 w h => ?_)
  refine kl1 h 10 rfl rfl (klA h 3 rfl rfl ?_)
  refine apR (by rfl) (by decide) h 11 rfl (qZ 0 h rfl) (by first | rfl | assumption) (by omega) fun v6 w h => ?_
  dsimp only [List.set] at h
  refine st1w h 10 rfl (qZ 11 h rfl) rfl fun w h => ?_
  refine Bn_ad (by omega) (by omega) ?_
  exact lf1 _ _ _ _ (h.pick [8, 9, 10, 11, 12, 13] (by decide) rfl)
  refine bs1A h (by rfl) (by decide) (by rfl) (by decide) fun v3 w h => ?_
  refine kl1 h 9 rfl rfl (bs1A h (by rfl) (by decide) (by rfl) (by decide) fun v4 w h => ?_)
  refine kl1 h 10 rfl rfl (klA h 3 rfl rfl ?_)
  refine apR (by rfl) (by decide) h 8 rfl (qZ 0 h rfl) (by first | rfl | assumption) (by omega) fun v5 w h => ?_
  refine kl1 h 10 rfl rfl (klA h 3 rfl rfl ?_)
  refine apR (by rfl) (by decide) h 11 rfl (qZ 1 h rfl) (by first | rfl | assumption) (by omega) fun v6 w h => ?_
  dsimp only [List.set] at h
  refine st1w h 10 rfl (qZ 11 h rfl) rfl fun w h => ?_
  refine Bn_ad (by omega) (by omega) ?_
  exact lf1 _ _ _ _ (h.pick [8, 9, 10, 11, 12, 13] (by decide) rfl)
  refine ⟨?_, ?_⟩
  refine bs1A h (by rfl) (by decide) (by rfl) (by decide) fun v2 w h => ?_
  refine kl1 h 9 rfl rfl (klA h 2 rfl rfl ?_)
  refine ⟨?_, ?_⟩
  refine apR (by rfl) (by decide) h 8 rfl (qZ 1 h rfl) (by first | rfl | assumption) (by omega) fun v3 w h => ?_
  refine kl1 h 9 rfl rfl (klA h 2 rfl rfl ?_)
  refine ⟨?_, ?_⟩
  refine apR (by rfl) (by decide) h 7 rfl (qZ 0 h rfl) (by first | rfl | assumption) (by omega) fun v4 w h => ?_
  refine kl1 h 9 rfl rfl (klA h 2 rfl rfl ?_)
  refine bs1A h (by rfl) (by decide) (by rfl) (by decide) fun v5 w h => ?_
  refine kl1 h 10 rfl rfl (apR (by rfl) (by decide) h 11 rfl (qZ 0 h rfl) (by first | rfl | assumption) (by omega) fun v6 w h => ?_)
  dsimp only [List.set] at h
  refine st1w h 10 rfl (qZ 11 h rfl) rfl fun w h => ?_
  refine Bn_ad (by omega) (by omega) ?_
  exact lf1 _ _ _ _ (h.pick [8, 9, 10, 11, 12, 13] (by decide) rfl)
  refine bs1A h (by rfl) (by decide) (by rfl) (by decide) fun v4 w h => ?_
  refine kl1 h 10 rfl rfl (apR (by rfl) (by decide) h 8 rfl (qZ 1 h rfl) (by first | rfl | assumption) (by omega) fun v5 w h => ?_)
  refine kl1 h 10 rfl rfl (klA h 3 rfl rfl ?_)
  refine apR (by rfl) (by decide) h 11 rfl (qZ 0 h rfl) (by first | rfl | assumption) (by omega) fun v6 w h => ?_
  dsimp only [List.set] at h
  refine st1w h 10 rfl (qZ 11 h rfl) rfl fun w h => ?_
  refine Bn_ad (by omega) (by omega) ?_
  exact lf1 _ _ _ _ (h.pick [8, 9, 10, 11, 12, 13] (by decide) rfl)
  refine bs1A h (by rfl) (by decide) (by rfl) (by decide) fun v3 w h => ?_
  refine kl1 h 10 rfl rfl (apR (by rfl) (by decide) h 9 rfl (qZ 2 h rfl) (by first | rfl | assumption) (by omega) fun v4 w h => ?_)
  refine kl1 h 10 rfl rfl (klA h 3 rfl rfl ?_)
  refine apR (by rfl) (by decide) h 8 rfl (qZ 1 h rfl) (by first | rfl | assumption) (by omega) fun v5 w h => ?_
  refine kl1 h 10 rfl rfl (klA h 3 rfl rfl ?_)
  refine apR (by rfl) (by decide) h 11 rfl (qZ 0 h rfl) (by first | rfl | assumption) (by omega) fun v6 w h => ?_
  dsimp only [List.set] at h
  refine st1w h 10 rfl (qZ 11 h rfl) rfl fun w h => ?_
  refine Bn_ad (by omega) (by omega) ?_
  exact lf1 _ _ _ _ (h.pick [8, 9, 10, 11, 12, 13] (by decide) rfl)
  refine bs1A h (by rfl) (by decide) (by rfl) (by decide) fun v2 w h => ?_
  refine kl1 h 9 rfl rfl ?_
  refine ⟨?_, ?_⟩
  refine apR (by rfl) (by decide) h 8 rfl (qZ 1 h rfl) (by first | rfl | assumption) (by omega) fun v3 w h => ?_
  refine kl1 h 9 rfl rfl (klA h 2 rfl rfl ?_)
  refine bs1A h (by rfl) (by decide) (by rfl) (by decide) fun v4 w h => ?_
  refine kl1 h 10 rfl rfl (klA h 3 rfl rfl ?_)
  refine apR (by rfl) (by decide) h 8 rfl (qZ 0 h rfl) (by first | rfl | assumption) (by omega) fun v5 w h => ?_
  refine kl1 h 10 rfl rfl (klA h 3 rfl rfl ?_)
  refine apR (by rfl) (by decide) h 11 rfl (qZ 1 h rfl) (by first | rfl | assumption) (by omega) fun v6 w h => ?_
  dsimp only [List.set] at h
  refine st1w h 10 rfl (qZ 11 h rfl) rfl fun w h => ?_
  refine Bn_ad (by omega) (by omega) ?_
  exact lf1 _ _ _ _ (h.pick [8, 9, 10, 11, 12, 13] (by decide) rfl)
  refine bs1A h (by rfl) (by decide) (by rfl) (by decide) fun v3 w h => ?_
  refine kl1 h 10 rfl rfl (klA h 3 rfl rfl ?_)
  refine apR (by rfl) (by decide) h 9 rfl (qZ 2 h rfl) (by first | rfl | assumption) (by omega) fun v4 w h => ?_
  refine kl1 h 10 rfl rfl (klA h 3 rfl rfl ?_)
  refine apR (by rfl) (by decide) h 8 rfl (qZ 0 h rfl) (by first | rfl | assumption) (by omega) fun v5 w h => ?_
  refine kl1 h 10 rfl rfl (klA h 3 rfl rfl ?_)
  refine apR (by rfl) (by decide) h 11 rfl (qZ 1 h rfl) (by first | rfl | assumption) (by omega) fun v6 w h => ?_
  dsimp only [List.set] at h
  refine st1w h 10 rfl (qZ 11 h rfl) rfl fun w h => ?_
  refine Bn_ad (by omega) (by omega) ?_
  exact lf1 _ _ _ _ (h.pick [8, 9, 10, 11, 12, 13] (by decide) rfl)
  refine ⟨?_, ?_⟩
  refine bs1A h (by rfl) (by decide) (by rfl) (by decide) fun v1 w h => ?_
  refine kl1 h 8 rfl rfl (klA h 1 rfl rfl ?_)
  refine ⟨?_, ?_⟩
  refine bs1A h (by rfl) (by decide) (by rfl) (by decide) fun v2 w h => ?_
  refine kl1 h 9 rfl rfl (klA h 2 rfl rfl ?_)
  refine ⟨?_, ?_⟩
  refine apR (by rfl) (by decide) h 8 rfl (qZ 0 h rfl) (by first | rfl | assumption) (by omega) fun v3 w h => ?_
  refine kl1 h 9 rfl rfl (klA h 2 rfl rfl ?_)
  refine ⟨?_, ?_⟩
  refine apR (by rfl) (by decide) h 7 rfl (qZ 1 h rfl) (by first | rfl | assumption) (by omega) fun v4 w h => ?_
  refine kl1 h 9 rfl rfl (klA h 2 rfl rfl ?_)
  refine bs1A h (by rfl) (by decide) (by rfl) (by decide) fun v5 w h => ?_
  refine kl1 h 10 rfl rfl (apR (by rfl) (by decide) h 11 rfl (qZ 0 h rfl) (by first | rfl | assumption) (by omega) fun v6 w h => ?_)
  dsimp only [List.set] at h
  refine st1w h 10 rfl (qZ 11 h rfl) rfl fun w h => ?_
  refine Bn_ad (by omega) (by omega) ?_
  exact lf1 _ _ _ _ (h.pick [8, 9, 10, 11, 12, 13] (by decide) rfl)
  refine bs1A h (by rfl) (by decide) (by rfl) (by decide) fun v4 w h => ?_
  refine kl1 h 10 rfl rfl (apR (by rfl) (by decide) h 8 rfl (qZ 2 h rfl) (by first | rfl | assumption) (by omega) fun v5 w h => ?_)
  refine kl1 h 10 rfl rfl (klA h 3 rfl rfl ?_)
  refine apR (by rfl) (by decide) h 11 rfl (qZ 0 h rfl) (by first | rfl | assumption) (by omega) fun v6 w h => ?_
  dsimp only [List.set] at h
  refine st1w h 10 rfl (qZ 11 h rfl) rfl fun w h => ?_
  refine Bn_ad (by omega) (by omega) ?_
  exact lf1 _ _ _ _ (h.pick [8, 9, 10, 11, 12, 13] (by decide) rfl)
  refine bs1A h (by rfl) (by decide) (by rfl) (by decide) fun v3 w h => ?_
  refine kl1 h 10 rfl rfl (apR (by rfl) (by decide) h 9 rfl (qZ 1 h rfl) (by first | rfl | assumption) (by omega) fun v4 w h => ?_)
  refine kl1 h 10 rfl rfl (klA h 3 rfl rfl ?_)
  refine apR (by rfl) (by decide) h 8 rfl (qZ 2 h rfl) (by first | rfl | assumption) (by omega) fun v5 w h => ?_
  refine kl1 h 10 rfl rfl (klA h 3 rfl rfl ?_)
  refine apR (by rfl) (by decide) h 11 rfl (qZ 0 h rfl) (by first | rfl | assumption) (by omega) fun v6 w h => ?_
  dsimp only [List.set] at h
  refine st1w h 10 rfl (qZ 11 h rfl) rfl fun w h => ?_
  refine Bn_ad (by omega) (by omega) ?_
  exact lf1 _ _ _ _ (h.pick [8, 9, 10, 11, 12, 13] (by decide) rfl)
  refine bs1A h (by rfl) (by decide) (by rfl) (by decide) fun v2 w h => ?_
  refine kl1 h 9 rfl rfl (bs1A h (by rfl) (by decide) (by rfl) (by decide) fun v3 w h => ?_)
  refine kl1 h 10 rfl rfl (klA h 3 rfl rfl ?_)
  refine apR (by rfl) (by decide) h 9 rfl (qZ 0 h rfl) (by first | rfl | assumption) (by omega) fun v4 w h => ?_
  refine kl1 h 10 rfl rfl (klA h 3 rfl rfl ?_)
  refine apR (by rfl) (by decide) h 8 rfl (qZ 2 h rfl) (by first | rfl | assumption) (by omega) fun v5 w h => ?_
  refine kl1 h 10 rfl rfl (klA h 3 rfl rfl ?_)
  refine apR (by rfl) (by decide) h 11 rfl (qZ 1 h rfl) (by first | rfl | assumption) (by omega) fun v6 w h => ?_
  dsimp only [List.set] at h
  refine st1w h 10 rfl (qZ 11 h rfl) rfl fun w h => ?_
  refine Bn_ad (by omega) (by omega) ?_
  exact lf1 _ _ _ _ (h.pick [8, 9, 10, 11, 12, 13] (by decide) rfl)
  refine bs1A h (by rfl) (by decide) (by rfl) (by decide) fun v1 w h => ?_
  refine kl1 h 8 rfl rfl ?_
  refine ⟨?_, ?_⟩
  refine bs1A h (by rfl) (by decide) (by rfl) (by decide) fun v2 w h => ?_
  refine kl1 h 9 rfl rfl (klA h 2 rfl rfl ?_)
  refine ⟨?_, ?_⟩
  refine apR (by rfl) (by decide) h 8 rfl (qZ 0 h rfl) (by first | rfl | assumption) (by omega) fun v3 w h => ?_
  refine kl1 h 9 rfl rfl (klA h 2 rfl rfl ?_)
  refine bs1A h (by rfl) (by decide) (by rfl) (by decide) fun v4 w h => ?_
  refine kl1 h 10 rfl rfl (klA h 3 rfl rfl ?_)
  refine apR (by rfl) (by decide) h 8 rfl (qZ 0 h rfl) (by first | rfl | assumption) (by omega) fun v5 w h => ?_
  refine kl1 h 10 rfl rfl (klA h 3 rfl rfl ?_)
  refine apR (by rfl) (by decide) h 11 rfl (qZ 2 h rfl) (by first | rfl | assumption) (by omega) fun v6 w h => ?_
  dsimp only [List.set] at h
  refine st1w h 10 rfl (qZ 11 h rfl) rfl fun w h => ?_
  refine Bn_ad (by omega) (by omega) ?_
  exact lf1 _ _ _ _ (h.pick [8, 9, 10, 11, 12, 13] (by decide) rfl)
  refine bs1A h (by rfl) (by decide) (by rfl) (by decide) fun v3 w h => ?_
  refine kl1 h 10 rfl rfl (klA h 3 rfl rfl ?_)
  refine apR (by rfl) (by decide) h 9 rfl (qZ 1 h rfl) (by first | rfl | assumption) (by omega) fun v4 w h => ?_
  refine kl1 h 10 rfl rfl (klA h 3 rfl rfl ?_)
  refine apR (by rfl) (by decide) h 8 rfl (qZ 0 h rfl) (by first | rfl | assumption) (by omega) fun v5 w h => ?_
  refine kl1 h 10 rfl rfl (klA h 3 rfl rfl ?_)
  refine apR (by rfl) (by decide) h 11 rfl (qZ 2 h rfl) (by first | rfl | assumption) (by omega) fun v6 w h => ?_
  dsimp only [List.set] at h
  refine st1w h 10 rfl (qZ 11 h rfl) rfl fun w h => ?_
  refine Bn_ad (by omega) (by omega) ?_
  exact lf1 _ _ _ _ (h.pick [8, 9, 10, 11, 12, 13] (by decide) rfl)
  refine bs1A h (by rfl) (by decide) (by rfl) (by decide) fun v2 w h => ?_
  refine kl1 h 9 rfl rfl (klA h 2 rfl rfl ?_)
  refine bs1A h (by rfl) (by decide) (by rfl) (by decide) fun v3 w h => ?_
  refine kl1 h 10 rfl rfl (klA h 3 rfl rfl ?_)
  refine apR (by rfl) (by decide) h 9 rfl (qZ 0 h rfl) (by first | rfl | assumption) (by omega) fun v4 w h => ?_
  refine kl1 h 10 rfl rfl (klA h 3 rfl rfl ?_)
  refine apR (by rfl) (by decide) h 8 rfl (qZ 1 h rfl) (by first | rfl | assumption) (by omega) fun v5 w h => ?_
  refine kl1 h 10 rfl rfl (klA h 3 rfl rfl ?_)
  refine apR (by rfl) (by decide) h 11 rfl (qZ 2 h rfl) (by first | rfl | assumption) (by omega) fun v6 w h => ?_
  dsimp only [List.set] at h
  refine st1w h 10 rfl (qZ 11 h rfl) rfl fun w h => ?_
  refine Bn_ad (by omega) (by omega) ?_
  exact lf1 _ _ _ _ (h.pick [8, 9, 10, 11, 12, 13] (by decide) rfl)
  done
 have hjl' : j = l.length := by omega
 subst hjl'
 rw [List.take_length] at hE
 have hS := spl_of hs ha0 hE
 have hou := splO_some hs ha hE
 rw [ho] at hou
 have hSp := hS.spl
 refine Exists.elim (p := fun P => E.map (·.1) = P) ⟨_, rfl⟩ fun P hP => ?_
 refine Exists.elim (p := fun Q => E.map (·.2) = Q) ⟨_, rfl⟩ fun Q hQ => ?_
 have hPl : P.length = l.length := by rw [← hP, List.length_map]; exact hEl
 have hQl : Q.length = l.length := by rw [← hQ, List.length_map]; exact hEl
 have hRR : Rof Q = rsA P := funext fun i => by rw [← hQ, ← hP]; exact hS.R
 have hQB : ∀ q ∈ Q, RB q := fun q hq => by
  rw [← hQ] at hq
  obtain ⟨e, he', rfl⟩ := List.mem_map.1 hq
  obtain ⟨r, _, hr⟩ := allO_mem hE he'
  exact (elO_some hr).2.2.2
 have hws := wsum_fl (a := a) (E := E) hS.wh
 have ho0 := outL_0 (a := a) (E := E) (L := ordL (Rof Q) Q.length) hS.wh
 rw [hP] at hSp hou hws ho0
 have hle := hSp.left_le
 have hl0 := hSp.left0
 have hlw : a - wsum a E = leftA P a := by rw [hws]; rfl
 have h := h.pick [0, 2, 3, 1, 4, 5] (by decide) rfl
 have e1 : E.flatMap fE2 = Q.flatMap fQ := by rw [← hQ, List.flatMap_map]
 rw [flat_fW, ho0, e1, ← hQl] at h
 refine Bn_ltF (by omega) (If_F (Cl_i n_slices_SortStableFunc_int_int (c_sort he hQB (by omega) (by omega) (by omega) h) ?_))
 rintro _ w' ⟨rfl, h⟩
 have hOrd := ordL_ord (Rof Q) Q.length
 have hLl := hOrd.len
 have hLn := hOrd.nd
 refine scHz (qZ 0 h rfl) (by first | omega | decide) (by first | omega | decide) fun v1 p1 => ?_
 refine leS (p1.2 _ (qZ 0 h rfl)) ?_
 refine Exists.elim (p := fun L => ordL (Rof Q) Q.length = L) ⟨_, rfl⟩ fun L hL => ?_
 rw [hL] at h hOrd hLl hLn
 have p1 : Part 1 vo Q.length (L.map vI) v1 (a - wsum a E).toNat ((L.map vI).take ((a - wsum a E).toNat * 1)) := hL ▸ p1
 have htn : (a - wsum a E).toNat ≤ Q.length := by rw [hlw]; omega
 have hfin : outL P L (a - wsum a E).toNat = partsL P a := by rw [hlw, ← hL, hRR, show Q.length = P.length by omega]; rfl
 refine Exists.elim (p := fun t => (a - wsum a E).toNat = t) ⟨_, rfl⟩ fun t ht => ?_
 refine Lp1.mk (fun i W => ∃ q : Nat, q ≤ (a - wsum a E).toNat ∧ i = .int .i64 q ∧ Hp [] w0 W [ro tI 1 vo Q.length (L.map vI), ro tI 1 u Q.length ((outL P L q).map vZ)])
  (fun i _ => match i with | .int _ i' => (a - wsum a E).toNat - i'.toNat | _ => 0) ⟨0, by omega, rfl, h.pick [0, 3] (by decide) rfl⟩ ?_
 clear h
 rintro _ W ⟨q, hq, rfl, h⟩
 by_cases hqt : q < (a - wsum a E).toNat
 ·refine Exists.elim (p := fun i => L[q]? = some i) ⟨_, List.getElem?_eq_getElem (by omega)⟩ fun i hi => ?_
  have hiQ : i < Q.length := hOrd.lt.1 (List.mem_of_getElem? hi)
  have hiP : i < P.length := by omega
  have hfl := hSp.fl0 hiP
  have hfa : flA P i ≤ a := by
   have h1 : (outL P L 0)[i]? = some (flA P i + ext1 L 0 i) := outL_get hiP
   have h2 := List.mem_of_getElem? h1
   have ho0' : E.map (fun e => whZ e.1 a) = outL P L 0 := by rw [ho0, hL]
   rw [← ho0'] at h2
   obtain ⟨e, he', h3⟩ := List.mem_map.1 h2
   have h4 := whZ_bd (hS.wh e he').2 ha0
   have h5 : ext1 L 0 i = 0 := by unfold ext1; simp
   omega
  have hx1 : 0 ≤ ext1 L q i ∧ ext1 L q i ≤ 1 := by unfold ext1; split <;> decide
  have sq : Seg ((L.map vI).take ((a - wsum a E).toNat * 1)) (q * 1) [.int .i64 (i : Int)] := seg_one (by rw [List.getElem?_take, if_pos (by omega), List.getElem?_map, hi]; rfl)
  have su : Seg ((outL P L q).map vZ) (i * 1) [.int .i64 (flA P i + ext1 L q i)] := seg_one (by rw [List.getElem?_map, outL_get hiP]; rfl)
  have hst := outL_step hLn hi (P := P)
  refine Bn_ltT (by omega) (If_T (iaS (p1.2 _ (qZ 0 h rfl)) hqt fun b o cap hv hc => ?_))
  refine lc0 (hc.seg sq) rfl ?_
  refine iaR h 1 rfl (by omega) fun zg zk zv => ?_
  refine lr0 h 1 rfl ‹_› ‹_› (by rfl) ?_
  refine Bn_ad (by omega) (by omega) (iaR h 1 rfl (by omega) fun zg zk zv => ?_)
  refine stR1 h 1 rfl ‹_› (by rfl) (by rfl) (by omega) fun w h => ?_
  refine Bn_ad (by omega) (by omega) ?_
  dsimp only [List.set] at h
  refine ⟨⟨q + 1, by omega, rfl, ?_⟩, by show (a - wsum a E).toNat - ((q : Int) + 1).toNat < (a - wsum a E).toNat - (q : Int).toNat; omega⟩
  have e2 : ((outL P L q).map vZ).set (0 + i * 1) (.int .i64 (flA P i + ext1 L q i + 1)) = (outL P L (q + 1)).map vZ := by
   rw [← hst, List.map_set, Nat.zero_add, Nat.mul_one]
  rw [e2] at h
  exact h
 have hqt' : q = (a - wsum a E).toNat := by omega
 subst hqt'
 rw [hfin] at h
 refine Bn_ltF (by omega) (If_F (Ret.mk ?_))
 rw [hou]
 refine ⟨u, rfl, ?_⟩
 have hpl : (partsL P a).length = Q.length := by unfold partsL; simp; omega
 rw [flat_fI, hpl]
 exact h.pick [1] (by decide) rfl
end
end Go.Proofs.YtjmdnjnjepinoaaGreatDoor
