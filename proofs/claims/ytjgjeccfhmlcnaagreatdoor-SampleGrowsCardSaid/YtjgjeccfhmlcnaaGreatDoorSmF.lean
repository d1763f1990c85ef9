/-
  Contracts and plain lemmas. By an AI agent.
-/
import Derived.Test.YtjgjeccfhmlcnaaGreatDoorLSmF
import Derived.Test.YtjgjeccfhmlcnaaGreatDoorSmA
set_option linter.unusedSimpArgs false
set_option linter.unusedVariables false
set_option linter.unusedSectionVars false
namespace Go.Proofs.YtjgjeccfhmlcnaaGreatDoor
open Go Go.Eng Go.Proofs Go.Num Go.RowKit
open Go.Smp (Gp sF sD Gok Le Inv num pass Stb kD kOk kAll okAll sumN' mQ)
set_option maxRecDepth 100000
def gr1 (ks : List Int) : Bool := ks.any fun k => decide (1 < k)
theorem gr1_snoc {ks : List Int} {k : Int} : gr1 (ks ++ [k]) = (gr1 ks || decide (1 < k)) := by
 unfold gr1; rw [List.any_append]; simp
theorem gr1_ex {ks : List Int} (h : gr1 ks = true) : ∃ k ∈ ks, 1 < k := by
 unfold gr1 at h
 obtain ⟨k, h1, h2⟩ := List.any_eq_true.1 h
 exact ⟨k, h1, of_decide_eq_true h2⟩
section
variable {w0 : World} {v : Value} {l : List I2} {c : Int} (hT : Tab w0) (hs : ∀ {W : World}, Ext w0 W → Calls Tryz.prog 8 #[] W (Ret fun r w' => Ext W w' ∧ r = .bool true)) (hv : SlC w0 2 v l.length (l.flatMap fT)) (hok : I2ok l) (hl : l.length ≤ 9223372036854775807) (hc : Iw c)
include hT hs hv hok hl hc
set_option maxHeartbeats 8000000 in
theorem law_Budget0 : Calls Tryz.prog 7 #[v, .int .i64 c] w0 (Ret fun r w' => Ext w0 w' ∧ r = .bool true) := by
 have cc0 := fun {W : World} (e : Ext w0 W) => hs e
 have cg := fun {W : World} (e : Ext w0 W) => c_grps (hv.ext e) hok hl hc
 have hR := grp_Rng l (n := 12) (by decide)
 have hgl := grp_len l 12
 have sb := sumN_bd (l := grp l 12) hR.sz
 have pb := pickZ_bd (c := c) (n := sumN' (grp l 12) + 5) (by omega)
 obtain ⟨G, hG⟩ : ∃ G, grp l 12 = G := ⟨_, rfl⟩
 obtain ⟨b, eb⟩ : ∃ b, pickZ c (sumN' G + 5) = b := ⟨_, rfl⟩
 rw [hG] at hR hgl sb pb
 simp only [hG] at cg
 simp only [eb] at cg
 rw [eb] at pb
 apply e_law15_SampleBudget
 unfold s_law15_SampleBudget
 have h := Hp.init [] w0
 refine cl1 h n_law15_sane (cc0 h.ext) fun w h => ?_
 refine Cl_i n_law15_groups (cg h.ext) ?_
 clear cc0 cg
 rintro _ w1 ⟨v1, v2, rfl, hg⟩
 have x1 := h.ext.tr hg.ext
 have hT := (hT.ext h.ext).ext hg.ext
 have s1 := ownsRow_sl (hg.get (i := 0) rfl)
 have s2 := ownsRow_sl (hg.get (i := 1) rfl)
 clear hg h hv
 have h := Hp.init [] w1
 refine Ex3 (Cl_i n_sample_Allocate (c_Alloc (s1.ext h.ext) (s2.ext h.ext) hR (by omega)) ?_)
 rintro _ w2 ⟨f, hS, ⟨ho, vk, rfl, ha⟩ | ⟨ho, rfl, x⟩⟩
 rotate_left
 ·have h := h.x x
  refine Ex2 (Bn_neT (by omega) (If_T (Gd_T (Gd_T (Bn_eqT (by omega) (Pick_T ?_))))))
  exact Ret.mk ⟨x1.tr h.ext, rfl⟩
 have x1 := (x1.tr h.ext).tr ha.ext
 have hT := (hT.ext h.ext).ext ha.ext
 have s1 := (s1.ext h.ext).ext ha.ext
 have s3 := ownsRow_sl (ha.get (i := 0) rfl)
 clear h ha s2
 have hkl := Go.Smp.kAll_len (b := b) hS.inv.len
 have hbd := Go.Smp.kAll_bd hR.ok hS ho
 have hbg := Go.Smp.budget hR.ok hS ho
 refine Exists.elim (p := fun x => kAll b G f = x) ⟨_, rfl⟩ fun ks ek => ?_
 rw [ek] at hkl hbd hbg s3
 rw [← hkl] at s3
 have h := Hp.init [] w2
 have cc1 : ∀ {W : World}, Ext w2 W → Calls Tryz.prog 21 #[.int .i64 0, .int .i64 1] W (Ret fun r w' => Ext W w' ∧ r = .tuple #[vR (tq 0), .int .i64 0]) := fun e => by
  have := k_of (n := 0) (d := 1) (hT.ext e) (by decide) (by decide) (by decide)
  rw [show ((0 : Int) : Rat) / ((1 : Int) : Rat) = 0 by decide +kernel] at this
  exact this
 refine Ex2 (Bn_neF (by omega) (If_F (leS (s3.hp h) ?_)))
 refine leS (s1.hp h) ?_
 refine Bn_neF (by omega) (If_F (cl1 h n_rational_Of (cc1 h.ext) fun w h => ?_))
 refine Ex2 (alS h fun g1 w h => ?_)
 refine stA h 0 rfl rfl rfl rfl fun w h => ?_
 refine Bn_neF (by omega) (If_F ?_)
 dsimp only [List.set] at h
 have m0 : mQ (G.take 0) (ks.take 0) = 0 := by rw [List.take_zero, List.take_zero]; rfl
 refine Lp2.mkK (fun a i W => ∃ (j : Nat) (gx : Bool), j ≤ G.length ∧ i = .int .i64 j ∧ a = .bool gx ∧ gx = gr1 (ks.take j) ∧ Hp [] w2 W [bx g1 tR (fR (tq (mQ (G.take j) (ks.take j))))])
  (fun _ i _ => match i with | .int _ i' => G.length - i'.toNat | _ => 0) ⟨0, false, by omega, rfl, rfl, rfl, by rw [m0]; exact h⟩ ?_
 clear h
 rintro _ _ W ⟨j, gx, hj, rfl, rfl, hgx, h⟩ K hK
 have srj := mQ_SR hR.sz hbd j hj (by omega)
 by_cases hjl : j < G.length
 rotate_left
 ·rw [take_all (by omega), take_all (by omega)] at h srj
  rw [take_all (by omega)] at hgx
  refine Exists.elim (p := fun x => mQ G ks = x) ⟨_, rfl⟩ fun m hm => ?_
  rw [hm] at h srj hbg
  have rm : RB m := srj.rb (by omega) (by omega)
  have p8 : (10 : Nat) ^ 8 = 100000000 := rfl
  have ra : SR 8 1 ((b : Rat) / ((1 : Int) : Rat)) := sr_div (by omega) (by decide) (by decide)
  have rh : SR 8 1 ((b : Rat) / ((2 : Int) : Rat)) := sr_div (by omega) (by decide) (by decide)
  have ca : cmpQ m ((b : Rat) / ((1 : Int) : Rat)) ≤ 0 := (cmp_le _ _).2 (by have := hbg.1; grind)
  have cb := cmp_bd m ((b : Rat) / ((1 : Int) : Rat))
  have cd := cmp_bd m ((b : Rat) / ((2 : Int) : Rat))
  have cc2 : ∀ {W : World}, Ext w2 W → Calls Tryz.prog 21 #[.int .i64 b, .int .i64 1] W (Ret fun r w' => Ext W w' ∧ r = .tuple #[vR (tq ((b : Rat) / ((1 : Int) : Rat))), .int .i64 0]) := fun e => k_of (hT.ext e) ⟨by omega, by omega⟩ (by decide) (by decide)
  have cc3 : ∀ {W : World}, Ext w2 W → Calls Tryz.prog 21 #[.int .i64 b, .int .i64 2] W (Ret fun r w' => Ext W w' ∧ r = .tuple #[vR (tq ((b : Rat) / ((2 : Int) : Rat))), .int .i64 0]) := fun e => k_of (hT.ext e) ⟨by omega, by omega⟩ (by decide) (by decide)
  have cc4 : ∀ {W : World}, Ext w2 W → Calls Tryz.prog 28 #[vR (tq m), vR (tq ((b : Rat) / ((1 : Int) : Rat)))] W (Ret fun r w' => Ext W w' ∧ r = .int .i64 (cmpQ m ((b : Rat) / ((1 : Int) : Rat)))) := fun e => k_cmp rm (ra.rb (by decide) (by decide)) (hT.ext e)
  have cc5 : ∀ {W : World}, Ext w2 W → Calls Tryz.prog 28 #[vR (tq m), vR (tq ((b : Rat) / ((2 : Int) : Rat)))] W (Ret fun r w' => Ext W w' ∧ r = .int .i64 (cmpQ m ((b : Rat) / ((2 : Int) : Rat)))) := fun e => k_cmp rm (rh.rb (by decide) (by decide)) (hT.ext e)
  cases gx with
  | true =>
   have ch : 0 < cmpQ m ((b : Rat) / ((2 : Int) : Rat)) := (cmp_gt _ _).2 (by have := hbg.2 (gr1_ex hgx.symm); grind)
   refine leS (s3.hp h) ?_
   refine Bn_ltF (by omega) (If_F (cl1 h n_rational_Of (cc2 h.ext) fun w h => ?_))
   refine Ex2 (alS h fun g2 w h => ?_)
   refine stA h 0 rfl rfl rfl rfl fun w h => ?_
   refine cl1 h n_rational_Of (cc3 h.ext) fun w h => ?_
   refine Ex2 (alS h fun g3 w h => ?_)
   refine stA h 0 rfl rfl rfl rfl fun w h => ?_
   refine Gd_T (Gd_T (Bn_eqT (by omega) (Pick_T (Gd_T (Gd_T (Bn_eqT (by omega) (Pick_T (Gd_T (ldA h 2 rfl rfl ?_)))))))))
   refine Gd_T (ldA h 1 rfl rfl ?_)
   refine Gd_T (cl1 h n_rational_Compare (cc4 h.ext) fun w h => ?_)
   refine Gd_T (Bn_leT (by omega) (Pick_T (Gd_T (Gd_T (Un_T (Gd_T (Gd_F (ldA h 2 rfl rfl ?_))))))))
   refine Gd_F (ldA h 0 rfl rfl ?_)
   refine Gd_F (cl1 h n_rational_Compare (cc5 h.ext) fun w h => ?_)
   refine Gd_F (Bn_gtT (by omega) (Gd_T (Pick_F (Pick_T ?_))))
   dsimp only [List.set] at h
   exact Ret.mk ⟨x1.tr h.ext, rfl⟩
  | false =>
   refine leS (s3.hp h) ?_
   refine Bn_ltF (by omega) (If_F (cl1 h n_rational_Of (cc2 h.ext) fun w h => ?_))
   refine Ex2 (alS h fun g2 w h => ?_)
   refine stA h 0 rfl rfl rfl rfl fun w h => ?_
   refine cl1 h n_rational_Of (cc3 h.ext) fun w h => ?_
   refine Ex2 (alS h fun g3 w h => ?_)
   refine stA h 0 rfl rfl rfl rfl fun w h => ?_
   refine Gd_T (Gd_T (Bn_eqT (by omega) (Pick_T (Gd_T (Gd_T (Bn_eqT (by omega) (Pick_T (Gd_T (ldA h 2 rfl rfl ?_)))))))))
   refine Gd_T (ldA h 1 rfl rfl ?_)
   refine Gd_T (cl1 h n_rational_Compare (cc4 h.ext) fun w h => ?_)
   refine Gd_T (Bn_leT (by omega) (Pick_T (Gd_T (Gd_T (Un_F (Gd_T (Gd_TF (Gd_TF (Gd_TF (Gd_TF (Gd_T (Pick_T (Pick_T ?_)))))))))))))
   dsimp only [List.set] at h
   exact Ret.mk ⟨x1.tr h.ext, rfl⟩
 ·refine Exists.elim (p := fun x => G[j]? = some x) ⟨_, List.getElem?_eq_getElem hjl⟩ fun g hg => ?_
  refine Exists.elim (p := fun x => ks[j]? = some x) ⟨_, List.getElem?_eq_getElem (by omega)⟩ fun k hk => ?_
  have t1 : Seg (G.flatMap fS) (j * 1) (fS g) := flat_seg (f := fS) (fun _ => rfl) hg
  have t2 : Seg (ks.flatMap fZ) (j * 1) (fZ k) := flat_seg (f := fZ) (fun _ => rfl) hk
  have b1 := hR.sz g (List.mem_of_getElem? hg)
  have b2 := hbd k (List.mem_of_getElem? hk)
  have sg : SR 7 4 ((g.1 : Rat) / (k : Rat)) := sr_div (by have : (10 : Nat) ^ 7 = 10000000 := rfl; omega) (by have : (10 : Nat) ^ 4 = 10000 := rfl; omega) (by omega)
  have mq := mQ_snoc hg hk
  have gs : gr1 (ks.take (j + 1)) = (gx || decide (1 < k)) := by rw [take_snoc hk, gr1_snoc, hgx]
  refine Exists.elim (p := fun x => mQ (G.take j) (ks.take j) = x) ⟨_, rfl⟩ fun m hm => ?_
  rw [hm] at h srj mq
  have cc2 : ∀ {W : World}, Ext w2 W → Calls Tryz.prog 21 #[.int .i64 g.1, .int .i64 k] W (Ret fun r w' => Ext W w' ∧ r = .tuple #[vR (tq ((g.1 : Rat) / (k : Rat))), .int .i64 0]) := fun e => k_of (hT.ext e) ⟨by omega, by omega⟩ ⟨by omega, by omega⟩ (by omega)
  have cc3 : ∀ {W : World}, Ext w2 W → Calls Tryz.prog 27 #[vR (tq m), vR (tq ((g.1 : Rat) / (k : Rat)))] W (Ret fun r w' => Ext W w' ∧ r = .tuple #[vR (tq (m + (g.1 : Rat) / (k : Rat))), .int .i64 0]) := fun e => k_add (k := 8 + 5 * j + 4) srj sg (by omega) (by omega) (by omega) (by omega) (hT.ext e)
  have done : ∀ {W : World} {L : List Et} {c : Bool}, c = (gx || decide (1 < k)) → Hp [] w2 W (bx g1 tR (fR (tq (m + (g.1 : Rat) / (k : Rat)))) :: L) → K (.bool c) (.int .i64 ((j : Int) + 1)) W := fun e h => hK _ _ _ ⟨j + 1, _, by omega, rfl, rfl, by rw [gs]; exact e, by rw [mq]; exact h.sub (by simp)⟩ (by show G.length - ((j : Int) + 1).toNat < G.length - (j : Int).toNat; omega)
  clear hgx gs
  cases gx with
  | true =>
   refine leS (s3.hp h) ?_
   refine Bn_ltT (by omega) (If_T (iaH h ‹_› (by omega) fun zb zo zk zv zc => ?_))
   refine lh0 h ‹_› ‹_› (by rfl) ?_
   refine Bn_ltF (by omega) (Gd_F (Gd_F (Gd_F (iaH h ‹_› (by omega) fun zb zo zk zv zc => ?_))))
   refine Gd_F (lh0 h ‹_› ‹_› (by rfl) ?_)
   refine Gd_F (Bn_gtF (by omega) (Pick_F (If_F (Gd_TF (Gd_TF (Gd_TF (Gd_TF (Gd_TF (Pick_T ?_)))))))))
   refine Jn2.lfb tR (fR (tq ((g.1 : Rat) / (k : Rat)))) (.int .i64 0) h (fun K lf1 => ?_) (fun gx w h => ?_)
   ·replace h := h.dr
    refine diH h ‹_› (by omega) fun zb zo zk zv zc => ?_
    refine dh0 h ‹_› ‹_› (by rfl) ?_
    refine diH h ‹_› (by omega) fun zb zo zk zv zc => ?_
    refine dh0 h ‹_› ‹_› (by rfl) ?_
    refine ⟨?_, ?_⟩
    refine cl1 h n_rational_Of (cc2 h.ext) fun w h => ?_
    refine ExP2 (alS h fun g2 w h => ?_)
    refine kh0 h ‹_› ‹_› (by rfl) ?_
    refine kh0 h ‹_› ‹_› (by rfl) ?_
    refine stA h 0 rfl rfl rfl rfl fun w h => ?_
    exact lf1 _ _ h
    refine alS h fun g2 w h => ?_
    refine kh0 h ‹_› ‹_› (by rfl) ?_
    refine kh0 h ‹_› ‹_› (by rfl) ?_
    refine cl1 h n_rational_Of (cc2 h.ext) fun w h => ?_
    refine ExP2 (stA h 0 rfl rfl rfl rfl fun w h => ?_)
    exact lf1 _ _ h
   refine ldA h 1 rfl rfl ?_
   refine ldA h 0 rfl rfl ?_
   refine cl1 h n_rational_Add (cc3 h.ext) fun w h => ?_
   refine Ex2 (alS h fun g2 w h => ?_)
   refine stA h 0 rfl rfl rfl rfl fun w h => ?_
   refine Bn_neF (by omega) (Gd_F (Gd_F (Bn_neF (by omega) (Pick_F (If_F (ldA h 0 rfl rfl ?_))))))
   refine stA h 2 rfl rfl rfl rfl fun w h => ?_
   refine Bn_ad (by omega) (by omega) ?_
   dsimp only [List.set] at h
   exact done rfl (h.drop 2)
  | false =>
   by_cases hk1 : 1 < k
   ·refine leS (s3.hp h) ?_
    refine Bn_ltT (by omega) (If_T (iaH h ‹_› (by omega) fun zb zo zk zv zc => ?_))
    refine lh0 h ‹_› ‹_› (by rfl) ?_
    refine Bn_ltF (by omega) (Gd_F (Gd_F (Gd_F (iaH h ‹_› (by omega) fun zb zo zk zv zc => ?_))))
    refine Gd_F (lh0 h ‹_› ‹_› (by rfl) ?_)
    refine Gd_F (Bn_gtF (by omega) (Pick_F (If_F (Gd_F (Gd_F (Gd_F (iaH h ‹_› (by omega) fun zb zo zk zv zc => ?_)))))))
    refine Gd_F (lh0 h ‹_› ‹_› (by rfl) ?_)
    refine Gd_F (Bn_gtT (by omega) (Pick_F ?_))
    refine Jn2.lfb tR (fR (tq ((g.1 : Rat) / (k : Rat)))) (.int .i64 0) h (fun K lf1 => ?_) (fun gx w h => ?_)
    ·replace h := h.dr
     refine diH h ‹_› (by omega) fun zb zo zk zv zc => ?_
     refine dh0 h ‹_› ‹_› (by rfl) ?_
     refine diH h ‹_› (by omega) fun zb zo zk zv zc => ?_
     refine dh0 h ‹_› ‹_› (by rfl) ?_
     refine ⟨?_, ?_⟩
     refine cl1 h n_rational_Of (cc2 h.ext) fun w h => ?_
     refine ExP2 (alS h fun g2 w h => ?_)
     refine kh0 h ‹_› ‹_› (by rfl) ?_
     refine kh0 h ‹_› ‹_› (by rfl) ?_
     refine stA h 0 rfl rfl rfl rfl fun w h => ?_
     exact lf1 _ _ h
     refine alS h fun g2 w h => ?_
     refine kh0 h ‹_› ‹_› (by rfl) ?_
     refine kh0 h ‹_› ‹_› (by rfl) ?_
     refine cl1 h n_rational_Of (cc2 h.ext) fun w h => ?_
     refine ExP2 (stA h 0 rfl rfl rfl rfl fun w h => ?_)
     exact lf1 _ _ h
    refine ldA h 1 rfl rfl ?_
    refine ldA h 0 rfl rfl ?_
    refine cl1 h n_rational_Add (cc3 h.ext) fun w h => ?_
    refine Ex2 (alS h fun g2 w h => ?_)
    refine stA h 0 rfl rfl rfl rfl fun w h => ?_
    refine Bn_neF (by omega) (Gd_F (Gd_F (Bn_neF (by omega) (Pick_F (If_F (ldA h 0 rfl rfl ?_))))))
    refine stA h 2 rfl rfl rfl rfl fun w h => ?_
    refine Bn_ad (by omega) (by omega) ?_
    dsimp only [List.set] at h
    exact done (by rw [decide_eq_true hk1]; rfl) (h.drop 2)
   ·refine leS (s3.hp h) ?_
    refine Bn_ltT (by omega) (If_T (iaH h ‹_› (by omega) fun zb zo zk zv zc => ?_))
    refine lh0 h ‹_› ‹_› (by rfl) ?_
    refine Bn_ltF (by omega) (Gd_F (Gd_F (Gd_F (iaH h ‹_› (by omega) fun zb zo zk zv zc => ?_))))
    refine Gd_F (lh0 h ‹_› ‹_› (by rfl) ?_)
    refine Gd_F (Bn_gtF (by omega) (Pick_F (If_F (Gd_F (Gd_F (Gd_F (iaH h ‹_› (by omega) fun zb zo zk zv zc => ?_)))))))
    refine Gd_F (lh0 h ‹_› ‹_› (by rfl) ?_)
    refine Gd_F (Bn_gtF (by omega) (Pick_F ?_))
    refine Jn2.lfb tR (fR (tq ((g.1 : Rat) / (k : Rat)))) (.int .i64 0) h (fun K lf1 => ?_) (fun gx w h => ?_)
    ·replace h := h.dr
     refine diH h ‹_› (by omega) fun zb zo zk zv zc => ?_
     refine dh0 h ‹_› ‹_› (by rfl) ?_
     refine diH h ‹_› (by omega) fun zb zo zk zv zc => ?_
     refine dh0 h ‹_› ‹_› (by rfl) ?_
     refine ⟨?_, ?_⟩
     refine cl1 h n_rational_Of (cc2 h.ext) fun w h => ?_
     refine ExP2 (alS h fun g2 w h => ?_)
     refine kh0 h ‹_› ‹_› (by rfl) ?_
     refine kh0 h ‹_› ‹_› (by rfl) ?_
     refine stA h 0 rfl rfl rfl rfl fun w h => ?_
     exact lf1 _ _ h
     refine alS h fun g2 w h => ?_
     refine kh0 h ‹_› ‹_› (by rfl) ?_
     refine kh0 h ‹_› ‹_› (by rfl) ?_
     refine cl1 h n_rational_Of (cc2 h.ext) fun w h => ?_
     refine ExP2 (stA h 0 rfl rfl rfl rfl fun w h => ?_)
     exact lf1 _ _ h
    refine ldA h 1 rfl rfl ?_
    refine ldA h 0 rfl rfl ?_
    refine cl1 h n_rational_Add (cc3 h.ext) fun w h => ?_
    refine Ex2 (alS h fun g2 w h => ?_)
    refine stA h 0 rfl rfl rfl rfl fun w h => ?_
    refine Bn_neF (by omega) (Gd_F (Gd_F (Bn_neF (by omega) (Pick_F (If_F (ldA h 0 rfl rfl ?_))))))
    refine stA h 2 rfl rfl rfl rfl fun w h => ?_
    refine Bn_ad (by omega) (by omega) ?_
    dsimp only [List.set] at h
    exact done (by rw [decide_eq_false hk1]; rfl) (h.drop 2)
end
end Go.Proofs.YtjgjeccfhmlcnaaGreatDoor
