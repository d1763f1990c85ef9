/-
  Contracts and plain lemmas. By an AI agent.
-/
import Derived.Test.YtjmdnjnjepinoaaGreatDoorCoC
set_option linter.unusedSimpArgs false
set_option linter.unusedVariables false
set_option linter.unusedSectionVars false
namespace Go.Proofs.YtjmdnjnjepinoaaGreatDoor
open Go Go.Eng Go.Proofs Go.Num Go.RowKit
set_option maxRecDepth 100000
theorem nextZ_0 {p : Rat} {g : Nat} {L : Int} : nextZ p g L 0 = (0, g, L) := rfl
theorem nextZ_s {p : Rat} {g : Nat} {L y : Int} (h : y ≠ 0) : nextZ p (g + 1) L y = (0, g, L) := by unfold nextZ; rw [if_neg h]
theorem nextZ_n {p : Rat} {L y : Int} (h : y ≠ 0) : nextZ p 0 L y = (min (costZ p y) L, 0, L - min (costZ p y) L) := by unfold nextZ; rw [if_neg h]
section
variable {w0 : World} {c : CT} {v : Value} {l : List Int} (hc : CTk c) (hv : SlC w0 1 v l.length (l.flatMap fI)) (hI : ∀ y ∈ l, I64 y) (hll : l.length ≤ 9223372036854775807)
include hc hv hI hll
set_option maxHeartbeats 4000000 in
theorem c_fPenalties : Calls Tryz.prog 14 #[vC c, v] w0 (Ret (PenR w0 (penO c l))) := by
 have hV := fun {W : World} (x : Ext w0 W) => c_fValidC (w := W) hc
 rcases hq : valC c with _ | x
 ·have e : penO c l = none := by unfold penO; rw [hq]; rfl
  have cc1 : ∀ {W : World}, Ext w0 W → Calls Tryz.prog 16 #[vC c] W (Ret fun r w' => Ext W w' ∧ r = .bool false) := fun x => by
   have := hV x
   rw [hq] at this; exact this
  rw [e]
  apply e_ref26_Penalties
  unfold s_ref26_Penalties
  have h := Hp.init [] w0
  refine bxA h fun g1 w h => ?_
  refine ldA h 0 rfl rfl ?_
  refine cl1 h n_ref26_Valid (cc1 h.ext) fun w h => ?_
  refine Un_F (Gd_TF (Gd_TF (Gd_TF (Pick_T (If_T ?_)))))
  exact Ret.mk ⟨rfl, h.ext⟩
 obtain ⟨hcp, hp, hg, hL⟩ := valC_some hq
 have cc1 : ∀ {W : World}, Ext w0 W → Calls Tryz.prog 16 #[vC c] W (Ret fun r w' => Ext W w' ∧ r = .bool true) := fun x => by
  have := hV x
  rw [hq] at this; exact this
 by_cases h100 : l.length ≤ 100
 rotate_left
 ·have e : penO c l = none := by unfold penO; rw [hq]; simp only [Option.bind_some]; rw [if_neg (fun h => h100 h.1)]
  rw [e]
  apply e_ref26_Penalties
  unfold s_ref26_Penalties
  have h := Hp.init [] w0
  refine bxA h fun g1 w h => ?_
  refine ldA h 0 rfl rfl ?_
  refine cl1 h n_ref26_Valid (cc1 h.ext) fun w h => ?_
  refine Un_T (Gd_F (Gd_F (leS (hv.hp h) ?_)))
  refine Gd_F (Bn_gtT (by omega) (Pick_F (If_T ?_)))
  exact Ret.mk ⟨rfl, h.ext⟩
 have hL1 := hL.1
 have hL2 := hL.2
 have hg1 := hg.1
 have hg2 := hg.2
 have e1 : c.p.1 = eN (some x) := by rw [hcp]; rfl
 have e2 : c.p.2 = eD (some x) := by rw [hcp]; rfl
 obtain ⟨o, ho⟩ : ∃ o, penO c l = o := ⟨_, rfl⟩
 rw [ho]
 apply e_ref26_Penalties
 unfold s_ref26_Penalties
 have h := Hp.init [] w0
 refine bxA h fun g1 w h => ?_
 refine ldA h 0 rfl rfl ?_
 refine cl1 h n_ref26_Valid (cc1 h.ext) fun w h => ?_
 refine Un_T (Gd_F (Gd_F (leS (hv.hp h) ?_)))
 refine Gd_F (Bn_gtF (by omega) (Pick_F (If_F (faS (Eng.ld1 h 0 rfl rfl ?_)))))
 have h : Hp [] w0 w [bx g1 tC [.int .i64 c.tm, .int .i64 c.gr, str c.p.1, str c.p.2, .int .i64 c.cap]] := h
 rw [e1, e2] at h
 have h := h.nil tI 1
 refine Lp4.mk (fun u a b i W => ∃ (j late : Nat) (m : Int), j ≤ l.length ∧ late ≤ j ∧ (∀ y ∈ l.take j, lateOk y) ∧ stZ x c.gr.toNat c.cap (l.take j) = (c.gr.toNat - late, m) ∧ a = .int .i64 (late : Int) ∧ b = .int .i64 m ∧ i = .int .i64 j ∧ Hp [] w0 W [ro tI 1 u j ((penL x c.gr.toNat c.cap (l.take j)).flatMap fI), bx g1 tC [.int .i64 c.tm, .int .i64 c.gr, str (eN (some x)), str (eD (some x)), .int .i64 c.cap]])
  (fun _ _ _ i _ => match i with | .int _ i' => l.length - i'.toNat | _ => 0) ⟨0, 0, c.cap, by omega, by omega, by simp, rfl, rfl, rfl, rfl, h⟩ ?_
 clear h
 rintro u _ _ _ W ⟨j, late, m, hj, hlj, hall, hst, rfl, rfl, rfl, h⟩
 by_cases hjl : j < l.length
 rotate_left
 ·have hjl' : j = l.length := by omega
  subst hjl'
  rw [List.take_length] at h hall
  have : o = some (penL x c.gr.toNat c.cap l) := by rw [← ho]; unfold penO; rw [hq]; simp only [Option.bind_some]; rw [if_pos ⟨h100, hall⟩]
  rw [this]
  refine leS (hv.hp h) ?_
  refine Bn_ltF (by omega) (If_F ?_)
  exact Ret.mk ⟨u, rfl, by rw [penL_len]; exact h.pick [0] (by decide) rfl⟩
 refine Exists.elim (p := fun x => l[j]? = some x) ⟨_, List.getElem?_eq_getElem hjl⟩ fun y hy => ?_
 have sx : Seg (l.flatMap fI) (j * 1) (fI y) := flat_seg (f := fI) (fun _ => rfl) hy
 have hyI := hI y (List.mem_of_getElem? hy)
 by_cases hyo : lateOk y
 rotate_left
 ·have : o = none := by rw [← ho]; unfold penO; rw [hq]; simp only [Option.bind_some]; rw [if_neg (fun h => hyo (h.2 y (List.mem_of_getElem? hy)))]
  have cc2 := fun {W : World} (_ : Ext w0 W) => c_finF (w := W) hyo
  rw [this]
  refine leS (hv.hp h) ?_
  refine Bn_ltT (by omega) (If_T (iaH h ‹_› (by omega) fun zb zo zk zv zc => ?_))
  refine lh0 h ‹_› ‹_› (by rfl) ?_
  refine cl1 h n_ref26_in (cc2 h.ext) fun w h => ?_
  refine Un_F (If_T ?_)
  exact Ret.mk ⟨rfl, h.ext⟩
 have cc2 := fun {W : World} (_ : Ext w0 W) => c_finT (w := W) hyo
 have y1 := hyo.1
 have y2 := hyo.2
 have hb := stZ_bd (l := l.take j) hp.nn (g := c.gr.toNat) (L := c.cap) (by omega) hL (fun z hz => (hall z hz).1)
 rw [hst] at hb
 have s1 : 0 ≤ m := hb.2.1
 have s2 : m ≤ 1000000000 := hb.2.2
 have hsn1 := penL_snoc x y (l.take j) c.gr.toNat c.cap
 have hsn2 := stZ_snoc x y (l.take j) c.gr.toNat c.cap
 rw [← take_snoc hy, hst] at hsn1 hsn2
 have hall' : ∀ z ∈ l.take (j + 1), lateOk z := fun z hz => by
  rw [take_snoc hy] at hz
  rcases List.mem_append.1 hz with hz | hz
  ·exact hall z hz
  ·simp at hz; subst hz; exact hyo
 by_cases hy0 : y = 0
 ·have hn : nextZ x (c.gr.toNat - late) m y = (0, c.gr.toNat - late, m) := by rw [hy0]; exact nextZ_0
  rw [hn] at hsn1 hsn2
  refine leS (hv.hp h) ?_
  refine Bn_ltT (by omega) (If_T (iaH h ‹_› (by omega) fun zb zo zk zv zc => ?_))
  refine lh0 h ‹_› ‹_› (by rfl) ?_
  refine cl1 h n_ref26_in (cc2 h.ext) fun w h => ?_
  refine Un_T (If_F ?_)
  refine Jn2.lf (.int .i64 (late : Int)) (.int .i64 0) h (fun K lf1 => ?_) (fun w h => ?_)
  ·refine iaH h ‹_› (by omega) fun zb zo zk zv zc => ?_
   refine lh0 h ‹_› ‹_› (by rfl) ?_
   refine Bn_gtF (by omega) (If_F ?_)
   exact lf1 _ h
  refine Bn_su (by omega) (by omega) (bs1A h (by rfl) (by decide) (by rfl) (by decide) fun v1 w h => ?_)
  refine apR (by rfl) (by decide) h 1 rfl (qZ 0 h rfl) (by first | rfl | assumption) (by omega) fun v2 w h => ?_
  refine Bn_ad (by omega) (by omega) ?_
  dsimp only [List.set] at h
  refine ⟨⟨j + 1, late, m - 0, by omega, by omega, hall', by rw [hsn2, Int.sub_zero], rfl, rfl, rfl, ?_⟩, by show l.length - ((j : Int) + 1).toNat < l.length - (j : Int).toNat; omega⟩
  rw [hsn1, List.flatMap_append]
  exact h.pick [1, 2] (by decide) rfl
 by_cases hgl : late < c.gr.toNat
 ·have hgs : c.gr.toNat - late = (c.gr.toNat - (late + 1)) + 1 := by omega
  have hn : nextZ x (c.gr.toNat - late) m y = (0, c.gr.toNat - (late + 1), m) := by rw [hgs]; exact nextZ_s hy0
  rw [hn] at hsn1 hsn2
  refine leS (hv.hp h) ?_
  refine Bn_ltT (by omega) (If_T (iaH h ‹_› (by omega) fun zb zo zk zv zc => ?_))
  refine lh0 h ‹_› ‹_› (by rfl) ?_
  refine cl1 h n_ref26_in (cc2 h.ext) fun w h => ?_
  refine Un_T (If_F ?_)
  refine Jn2.lf (.int .i64 ((late : Int) + 1)) (.int .i64 0) h (fun K lf1 => ?_) (fun w h => ?_)
  ·refine iaH h ‹_› (by omega) fun zb zo zk zv zc => ?_
   refine lh0 h ‹_› ‹_› (by rfl) ?_
   refine Bn_gtT (by omega) (If_T (Bn_ad (by omega) (by omega) (faS (Eng.ld1 h 1 rfl rfl (Bn_gtF (by omega) (If_F ?_))))))
   exact lf1 _ h
  refine Bn_su (by omega) (by omega) (bs1A h (by rfl) (by decide) (by rfl) (by decide) fun v1 w h => ?_)
  refine apR (by rfl) (by decide) h 1 rfl (qZ 0 h rfl) (by first | rfl | assumption) (by omega) fun v2 w h => ?_
  refine Bn_ad (by omega) (by omega) ?_
  dsimp only [List.set] at h
  refine ⟨⟨j + 1, late + 1, m - 0, by omega, by omega, hall', by rw [hsn2, Int.sub_zero], rfl, rfl, rfl, ?_⟩, by show l.length - ((j : Int) + 1).toNat < l.length - (j : Int).toNat; omega⟩
  rw [hsn1, List.flatMap_append]
  exact h.pick [1, 2] (by decide) rfl
 ·have hgs : c.gr.toNat - late = 0 := by omega
  have hn : nextZ x (c.gr.toNat - late) m y = (min (costZ x y) m, 0, m - min (costZ x y) m) := by rw [hgs]; exact nextZ_n hy0
  rw [hn] at hsn1 hsn2
  have cost0 := costZ_nn hp.nn y1
  have hw : whZ (x * qI y) m = min (costZ x y) m := rfl
  have hxy : 0 ≤ x * qI y := Rat.mul_nonneg hp.nn (by show (0 : Rat) ≤ ((y : Int) : Rat); exact_mod_cast y1)
  have cc3 := fun {W : World} (_ : Ext w0 W) => c_fOf1 (w := W) (n := y) (by omega)
  have cc4 : ∀ {W : World}, Ext w0 W → Calls Tryz.prog 42 #[ov (some x), ov (some (qI y))] W (Ret fun r w' => Ext W w' ∧ r = .tuple #[ov (some (x * qI y)), .int .i64 0]) := fun {W} e => by
   have := o_fmul (w := W) (o := some x) (p := some (qI y)) (.some hp.s.rb) (.some (sml_late hyo).rb)
   rw [omul_ok hp.s (sml_late hyo)] at this
   exact this
  have cc5 : ∀ {W : World}, Ext w0 W → Calls Tryz.prog 43 #[ov (some (x * qI y)), .int .i64 m] W (Ret fun r w' => Ext W w' ∧ r = .int .i64 (min (costZ x y) m)) := fun {W} e => by
   have := c_Floor (w0 := W) (mul_rb hp.s (sml_late hyo)) hxy ⟨s1, s2⟩
   rw [hw] at this
   exact this
  refine leS (hv.hp h) ?_
  refine Bn_ltT (by omega) (If_T (iaH h ‹_› (by omega) fun zb zo zk zv zc => ?_))
  refine lh0 h ‹_› ‹_› (by rfl) ?_
  refine cl1 h n_ref26_in (cc2 h.ext) fun w h => ?_
  refine Un_T (If_F ?_)
  refine Jn2.lf (.int .i64 ((late : Int) + 1)) (.int .i64 (min (costZ x y) m)) h (fun K lf1 => ?_) (fun w h => ?_)
  ·refine iaH h ‹_› (by omega) fun zb zo zk zv zc => ?_
   refine lh0 h ‹_› ‹_› (by rfl) ?_
   refine Bn_gtT (by omega) (If_T (Bn_ad (by omega) (by omega) (faS (Eng.ld1 h 1 rfl rfl (Bn_gtT (by omega) (If_T ?_))))))
   refine Jn2.lfb tR (fO (some (x * qI y))) (.int .i64 0) h (fun K lf2 => ?_) (fun gx w h => ?_)
   ·replace h := h.dr
    refine dfS (dlA h 1 rfl rfl ?_)
    refine diH h ‹_› (by omega) fun zb zo zk zv zc => ?_
    refine dh0 h ‹_› ‹_› (by rfl) ?_
    refine ⟨?_, ?_⟩
    refine cl1 h n_ref26_Of (cc3 h.ext) fun w h => ?_
    refine klA h 1 rfl rfl ?_
    refine ⟨?_, ?_⟩
    refine cl1 h n_ref04_Mul (cc4 h.ext) fun w h => ?_
    refine ExP2 (alS h fun g2 w h => ?_)
    refine klA h 2 rfl rfl ?_
    refine kh0 h ‹_› ‹_› (by rfl) ?_
    refine stA h 0 rfl rfl rfl rfl fun w h => ?_
    exact lf2 _ _ h
    refine alS h fun g2 w h => ?_
    refine klA h 2 rfl rfl ?_
    refine kh0 h ‹_› ‹_› (by rfl) ?_
    refine cl1 h n_ref04_Mul (cc4 h.ext) fun w h => ?_
    refine ExP2 (stA h 0 rfl rfl rfl rfl fun w h => ?_)
    exact lf2 _ _ h
    refine alS h fun g2 w h => ?_
    refine klA h 2 rfl rfl ?_
    refine kh0 h ‹_› ‹_› (by rfl) ?_
    refine cl1 h n_ref26_Of (cc3 h.ext) fun w h => ?_
    refine klA h 2 rfl rfl ?_
    refine cl1 h n_ref04_Mul (cc4 h.ext) fun w h => ?_
    refine ExP2 (stA h 0 rfl rfl rfl rfl fun w h => ?_)
    exact lf2 _ _ h
   refine Bn_neF (by omega) (If_F (ldA h 0 rfl rfl ?_))
   refine cl1 h n_ref26_Floor (cc5 h.ext) fun w h => ?_
   exact lf1 _ (h.pick [1, 2] (by decide) rfl)
  refine Bn_su (by omega) (by omega) (bs1A h (by rfl) (by decide) (by rfl) (by decide) fun v1 w h => ?_)
  refine apR (by rfl) (by decide) h 1 rfl (qZ 0 h rfl) (by first | rfl | assumption) (by omega) fun v2 w h => ?_
  refine Bn_ad (by omega) (by omega) ?_
  dsimp only [List.set] at h
  refine ⟨⟨j + 1, late + 1, m - min (costZ x y) m, by omega, by omega, hall', by rw [hsn2, show c.gr.toNat - (late + 1) = 0 by omega], rfl, rfl, rfl, ?_⟩, by show l.length - ((j : Int) + 1).toNat < l.length - (j : Int).toNat; omega⟩
  rw [hsn1, List.flatMap_append]
  exact h.pick [1, 2] (by decide) rfl
end
noncomputable def sumP (l : List RS) : Option Rat := l.foldl (fun a r => a.bind fun y => (shR 40 r).bind fun x => oAdd (some y) (some x)) (some 0)
theorem sumP_snoc (l : List RS) (r : RS) : sumP (l ++ [r]) = (sumP l).bind fun y => (shR 40 r).bind fun x => oAdd (some y) (some x) := by
 unfold sumP; rw [List.foldl_append]; rfl
theorem sumP_none (l m : List RS) (h : sumP l = none) : sumP (l ++ m) = none := by
 unfold sumP at h ⊢
 rw [List.foldl_append, h]
 induction m with
 | nil => rfl
 | cons r m ih => exact ih
theorem sumP_take {l : List RS} {j : Nat} (h : sumP (l.take j) = none) : sumP l = none := by
 have := sumP_none _ (l.drop j) h
 rw [List.take_append_drop] at this; exact this
theorem sumP_B (l : List RS) : OB (sumP l) := by
 rcases List.eq_nil_or_concat l with rfl | ⟨m, r, rfl⟩
 ·exact .some rb0
 ·rw [List.concat_eq_append, sumP_snoc]
  rcases sumP m with _ | y
  ·exact .none
  ·rcases shR 40 r with _ | x
   ·exact .none
   ·show OB (oAdd (some y) (some x))
    exact oBin_B fit_add _ _
noncomputable def sumO (l : List RS) : Option Rat := if 1 ≤ l.length ∧ l.length ≤ 12 then (sumP l).bind fun x => if x = 0 then none else some x else none
theorem eN0 : eN (some (0 : Rat)) = [48] := by
 show Lib.itoa (0 : Rat).num = [48]
 show Lib.itoa 0 = [48]
 unfold Lib.itoa; rw [if_neg (by decide)]; exact dec_lt (u := 0) (by decide)
theorem eD0 : eD (some (0 : Rat)) = [49] := by
 show Lib.itoa (((0 : Rat).den : Nat) : Int) = [49]
 exact itoa1
theorem eN_ne0 {x : Rat} (h : x ≠ 0) : (eN (some x) == [48]) = false := by
 refine beq_eq_false_iff_ne.2 fun e => h ?_
 rw [← eN0] at e
 have := itoa_inj e
 exact Rat.num_eq_zero.1 this
def SumR (w0 : World) (l : List RS) (r : Value) (w' : World) : Prop := Ext w0 w' ∧ ∃ q : Rat, r = .tuple #[ov (some q), .bool (sumO l).isSome] ∧ ∀ x, sumO l = some x → q = x
theorem add_ex {p r : RS} : ∃ a b z, rv (ans2 addQ rBad p.1 p.2 r.1 r.2) = .tuple #[.agg #[str a, str b], .int .i64 z] := ⟨_, _, _, rfl⟩
theorem zero_ov : ov (some (0 : Rat)) = .agg #[str [48], str [49]] := by
 show Value.agg #[str (eN (some 0)), str (eD (some 0))] = _
 rw [eN0, eD0]
section
variable {w0 : World} {v : Value} {l : List RS} (hv : SlR w0 v l) (hk : RSok l) (hll : l.length ≤ 9223372036854775807)
include hv hk hll
set_option maxHeartbeats 4000000 in
theorem c_sumS (he : En w0) : Calls Tryz.prog 49 #[v] w0 (Ret (SumR w0 l)) := by
 have hv : SlC w0 2 v l.length (l.flatMap fR) := hv
 have hZ := he.hZ
 apply e_contract_sum
 unfold s_contract_sum
 have h := Hp.init [] w0
 refine alS h fun g1 w h => ?_
 refine lgA h ‹_› (by rfl) ?_
 refine alS h fun g2 w h => ?_
 refine stA h 0 rfl rfl rfl rfl fun w h => ?_
 refine leS (hv.hp h) ?_
 dsimp only [List.set] at h
 refine Lp1.mk (fun i W => ∃ (j : Nat) (y : Rat), j ≤ l.length ∧ i = .int .i64 j ∧ sumP (l.take j) = some y ∧ Hp [] w0 W [bx g2 tR (fO (some y)), bx g1 tR [str [], str []]])
  (fun i _ => match i with | .int _ i' => l.length - i'.toNat | _ => 0) ⟨0, 0, by omega, rfl, rfl, ?_⟩ ?_
 ·show Hp [] w0 w [bx g2 tR [str (eN (some 0)), str (eD (some 0))], bx g1 tR [str [], str []]]
  rw [eN0, eD0]
  exact h
 clear h
 rintro _ W ⟨j, y, hj, rfl, hs, h⟩
 by_cases hjl : j < l.length
 ·refine Exists.elim (p := fun x => l[j]? = some x) ⟨_, List.getElem?_eq_getElem hjl⟩ fun r hr => ?_
  have sr : Seg (l.flatMap fR) (j * 2) (fR r) := flat_seg (f := fR) (fun _ => rfl) hr
  have hrk := hk r (List.mem_of_getElem? hr)
  have hyB : RB y := (hs ▸ sumP_B (l.take j)).get
  have hsn := sumP_snoc (l.take j) r
  rw [← take_snoc hr, hs] at hsn
  have hsh := fun {W : World} (x : Ext w0 W) => c_short (w := W) (p := r) (D := 40) hrk.1 hrk.2 (by decide) (he.hT.ext x)
  rcases hq : shR 40 r with _ | x
  ·rw [hq] at hsn
   have hno : sumO l = none := by
    unfold sumO
    split
    ·rw [sumP_take hsn]; rfl
    ·rfl
   refine Exists.elim (add_ex (p := tx y) (r := r)) fun a ha => Exists.elim ha fun b ha => Exists.elim ha fun z ha => ?_
   have cc1 : ∀ {W : World}, Ext w0 W → Calls Tryz.prog 58 #[ov (some y), .agg #[str r.1, str r.2]] W (Ret fun r w' => Ext W w' ∧ r = .tuple #[.agg #[str a, str b], .int .i64 z]) := fun {W} x => by
    have := c_qAdd (w := W) (itoa_ok hyB.n) (itoa_ok hyB.d) hrk.1 hrk.2 (he.hT.ext x)
    have e : ans2 addQ rBad (Lib.itoa y.num) (Lib.itoa (y.den : Int)) r.1 r.2 = ans2 addQ rBad (tx y).1 (tx y).2 r.1 r.2 := rfl
    rw [e, ha] at this
    exact this
   have cc2 : ∀ {W : World}, Ext w0 W → Calls Tryz.prog 45 #[.agg #[str r.1, str r.2], .int .i64 40] W (Ret fun r w' => Ext W w' ∧ r = .bool false) := fun x => by
    have := hsh x
    rw [hq] at this; exact this
   refine Bn_ltT (by omega) (If_T (iaH h ‹_› (by omega) fun zb zo zk zv zc => ?_))
   refine lhA h ‹_› ‹_› (by rfl) ?_
   refine alS h fun g3 w h => ?_
   refine stA h 0 rfl rfl rfl rfl fun w h => ?_
   refine ldA h 1 rfl rfl ?_
   refine ldA h 0 rfl rfl ?_
   refine cl1 h n_rational_Add (cc1 h.ext) fun w h => ?_
   refine Ex2 (alS h fun g4 w h => ?_)
   refine stA h 0 rfl rfl rfl rfl fun w h => ?_
   refine ldA h 1 rfl rfl ?_
   refine cl1 h n_contract_short (cc2 h.ext) fun w h => ?_
   refine Un_F (Gd_TF (Gd_TF (Pick_T (If_T (lgA h ‹_› (by rfl) ?_)))))
   refine stA h 3 rfl rfl rfl rfl fun w h => ?_
   refine rcA h 3 rfl rfl ?_
   dsimp only [List.set] at h
   exact Ret.mk ⟨h.ext, 0, by rw [hno, zero_ov]; rfl, fun x hx => by rw [hno] at hx; cases hx⟩
  obtain ⟨hrx, hxB, _⟩ := shR_some hq
  have hsn' : sumP (l.take (j + 1)) = oAdd (some y) (some x) := by rw [hsn, hq]; rfl
  have cc1 : ∀ {W : World}, Ext w0 W → Calls Tryz.prog 58 #[ov (some y), .agg #[str r.1, str r.2]] W (Ret fun r w' => Ext W w' ∧ r = .tuple #[ov (oAdd (some y) (some x)), .int .i64 (eE (oAdd (some y) (some x)))]) := fun {W} e => by
   have := o_add (w := W) (o := some y) (p := some x) (.some hyB) (.some hxB) (he.hT.ext e)
   rw [hrx]; exact this
  have cc2 : ∀ {W : World}, Ext w0 W → Calls Tryz.prog 45 #[.agg #[str r.1, str r.2], .int .i64 40] W (Ret fun r w' => Ext W w' ∧ r = .bool true) := fun x => by
   have := hsh x
   rw [hq] at this; exact this
  rcases hadd : oAdd (some y) (some x) with _ | s
  ·rw [hadd] at hsn'
   have hno : sumO l = none := by
    unfold sumO
    split
    ·rw [sumP_take hsn']; rfl
    ·rfl
   rw [hadd] at cc1
   have cc1 : ∀ {W : World}, Ext w0 W → Calls Tryz.prog 58 #[ov (some y), .agg #[str r.1, str r.2]] W (Ret fun r w' => Ext W w' ∧ r = .tuple #[ov none, .int .i64 40]) := cc1
   refine Bn_ltT (by omega) (If_T (iaH h ‹_› (by omega) fun zb zo zk zv zc => ?_))
   refine lhA h ‹_› ‹_› (by rfl) ?_
   refine alS h fun g3 w h => ?_
   refine stA h 0 rfl rfl rfl rfl fun w h => ?_
   refine ldA h 1 rfl rfl ?_
   refine ldA h 0 rfl rfl ?_
   refine cl1 h n_rational_Add (cc1 h.ext) fun w h => ?_
   refine Ex2 (alS h fun g4 w h => ?_)
   refine stA h 0 rfl rfl rfl rfl fun w h => ?_
   refine ldA h 1 rfl rfl ?_
   refine cl1 h n_contract_short (cc2 h.ext) fun w h => ?_
   refine Un_T (Gd_F (Gd_F (Bn_neT (by omega) (Pick_F (If_T (lgA h ‹_› (by rfl) ?_))))))
   refine stA h 3 rfl rfl rfl rfl fun w h => ?_
   refine rcA h 3 rfl rfl ?_
   dsimp only [List.set] at h
   exact Ret.mk ⟨h.ext, 0, by rw [hno, zero_ov]; rfl, fun x hx => by rw [hno] at hx; cases hx⟩
  ·rw [hadd] at hsn' cc1
   have cc1 : ∀ {W : World}, Ext w0 W → Calls Tryz.prog 58 #[ov (some y), .agg #[str r.1, str r.2]] W (Ret fun r w' => Ext W w' ∧ r = .tuple #[ov (some s), .int .i64 0]) := cc1
   refine Bn_ltT (by omega) (If_T (iaH h ‹_› (by omega) fun zb zo zk zv zc => ?_))
   refine lhA h ‹_› ‹_› (by rfl) ?_
   refine alS h fun g3 w h => ?_
   refine stA h 0 rfl rfl rfl rfl fun w h => ?_
   refine ldA h 1 rfl rfl ?_
   refine ldA h 0 rfl rfl ?_
   refine cl1 h n_rational_Add (cc1 h.ext) fun w h => ?_
   refine Ex2 (alS h fun g4 w h => ?_)
   refine stA h 0 rfl rfl rfl rfl fun w h => ?_
   refine ldA h 1 rfl rfl ?_
   refine cl1 h n_contract_short (cc2 h.ext) fun w h => ?_
   refine Un_T (Gd_F (Gd_F (Bn_neF (by omega) (Pick_F (If_F (ldA h 0 rfl rfl ?_))))))
   refine stA h 2 rfl rfl rfl rfl fun w h => ?_
   refine Bn_ad (by omega) (by omega) ?_
   dsimp only [List.set] at h
   exact ⟨⟨j + 1, s, by omega, rfl, hsn', h.pick [2, 3] (by decide) rfl⟩, by show l.length - ((j : Int) + 1).toNat < l.length - (j : Int).toNat; omega⟩
 rw [List.take_of_length_le (by omega)] at hs
 by_cases hn : (1 : Int) ≤ (l.length : Int) ∧ (l.length : Int) ≤ 12
 ·have cc1 := fun {W : World} (_ : Ext w0 W) => c_inT (w := W) hn
  by_cases hy0 : y = 0
  ·have hno : sumO l = none := by
    unfold sumO
    rw [if_pos (by omega), hs]; simp [hy0]
   have q1 : (eN (some y) == [48] && eD (some y) == [49]) = true := by rw [hy0, eN0, eD0]; rfl
   refine Bn_ltF (by omega) (If_F ?_)
   replace h := h.dr
   refine dlA h 0 rfl rfl ?_
   refine dlS (hv.hp h) ?_
   refine cl1 h n_contract_in (cc1 h.ext) fun w h => ?_
   refine klA h 0 rfl rfl ?_
   refine GdP_T (dlA h 0 rfl rfl ?_)
   refine GdP_T (dgA h ‹_› (by rfl) ?_)
   refine GdP_T (dqNeF ‹_› ?_)
   refine PickP_T (stA h 1 rfl rfl rfl rfl fun w h => ?_)
   refine Kg_T ?_
   refine klA h 0 rfl rfl ?_
   refine Kg_T ?_
   refine kgA h ‹_› (by rfl) ?_
   refine Kg_T ?_
   refine Ke_dv (dqNeF ‹_› rfl) ?_
   refine rcA h 1 rfl rfl ?_
   dsimp only [List.set] at h
   exact Ret.mk ⟨h.ext, y, by rw [hno]; rfl, fun x hx => by rw [hno] at hx; cases hx⟩
  ·have hno : sumO l = some y := by
    unfold sumO
    rw [if_pos (by omega), hs]; simp [hy0]
   have q1 : (eN (some y) == [48] && eD (some y) == [49]) = false := by rw [eN_ne0 hy0]; rfl
   refine Bn_ltF (by omega) (If_F ?_)
   replace h := h.dr
   refine dlA h 0 rfl rfl ?_
   refine dlS (hv.hp h) ?_
   refine cl1 h n_contract_in (cc1 h.ext) fun w h => ?_
   refine klA h 0 rfl rfl ?_
   refine GdP_T (dlA h 0 rfl rfl ?_)
   refine GdP_T (dgA h ‹_› (by rfl) ?_)
   refine GdP_T (dqNeT ‹_› ?_)
   refine PickP_T (stA h 1 rfl rfl rfl rfl fun w h => ?_)
   refine Kg_T ?_
   refine klA h 0 rfl rfl ?_
   refine Kg_T ?_
   refine kgA h ‹_› (by rfl) ?_
   refine Kg_T ?_
   refine Ke_dv (dqNeT ‹_› rfl) ?_
   refine rcA h 1 rfl rfl ?_
   dsimp only [List.set] at h
   exact Ret.mk ⟨h.ext, y, by rw [hno]; rfl, fun x hx => by rw [hno] at hx; cases hx; rfl⟩
 ·have cc1 := fun {W : World} (_ : Ext w0 W) => c_inF (w := W) hn
  have hno : sumO l = none := by
   unfold sumO
   rw [if_neg (by omega)]
  refine Bn_ltF (by omega) (If_F ?_)
  replace h := h.dr
  refine dlA h 0 rfl rfl ?_
  refine dlS (hv.hp h) ?_
  refine cl1 h n_contract_in (cc1 h.ext) fun w h => ?_
  refine klA h 0 rfl rfl ?_
  refine GdP_FT (GdP_FT (GdP_FT (PickP_F (stA h 1 rfl rfl rfl rfl fun w h => ?_))))
  refine Kg_FT ?_
  refine Kg_FT ?_
  refine Kg_FT ?_
  refine rcA h 1 rfl rfl ?_
  dsimp only [List.set] at h
  exact Ret.mk ⟨h.ext, y, by rw [hno]; rfl, fun x hx => by rw [hno] at hx; cases hx⟩
end
end Go.Proofs.YtjmdnjnjepinoaaGreatDoor
