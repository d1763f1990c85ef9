/-
  Contracts and plain lemmas. By an AI agent.
-/
import Derived.Test.YtjgjeccfhmlcnaaGreatDoorLSmG
import Derived.Test.YtjgjeccfhmlcnaaGreatDoorSmF
set_option linter.unusedSimpArgs false
set_option linter.unusedVariables false
set_option linter.unusedSectionVars false
namespace Go.Proofs.YtjgjeccfhmlcnaaGreatDoor
open Go Go.Eng Go.Proofs Go.Num Go.RowKit
open Go.Smp (Gp sF sD Gok Le Inv num pass Stb kD kOk kAll okAll sumN' scl)
set_option maxRecDepth 100000
theorem grp_we (l : List I2) (n : Nat) : ∀ g ∈ grp l n, 1 ≤ g.2 ∧ g.2 ≤ 20 := fun g hg => by
 obtain ⟨a, _, rfl⟩ := List.mem_map.1 hg
 have := pickZ_bd (c := a.2) (n := 20) (by decide)
 show 1 ≤ 1 + pickZ a.2 20 ∧ 1 + pickZ a.2 20 ≤ 20
 omega
theorem scl_len {m : Int} {l : List Gp} : (scl m l).length = l.length := by unfold scl; rw [List.length_map]
theorem scl_fS {m : Int} {l : List Gp} : (scl m l).flatMap fS = l.flatMap fS := by unfold scl; rw [List.flatMap_map]
theorem scl_Rng {m : Int} {l : List Gp} (h : Rng l) (hw : ∀ g ∈ l, 1 ≤ g.2 ∧ g.2 ≤ 20) (hm : 1 ≤ m ∧ m ≤ 50) : Rng (scl m l) := by
 refine ⟨by rw [scl_len]; exact h.len, fun g hg => ?_, fun g hg => ?_⟩
 ·obtain ⟨x, hx, rfl⟩ := List.mem_map.1 hg
  exact h.sz x hx
 ·obtain ⟨x, hx, rfl⟩ := List.mem_map.1 hg
  have h1 := hw x hx
  have h2 := mul_bd (show 0 ≤ x.2 ∧ x.2 ≤ 20 by omega) (show 0 ≤ m ∧ m ≤ 50 by omega)
  have h3 : 1 * 1 ≤ x.2 * m := Int.mul_le_mul h1.1 hm.1 (by decide) (by omega)
  show 1 ≤ x.2 * m ∧ x.2 * m ≤ 1000
  omega
theorem sumN_take {l : List Gp} {j : Nat} {g : Gp} (h : l[j]? = some g) : sumN' (l.take (j + 1)) = sumN' (l.take j) + g.1 := by rw [take_snoc h, sumN_snoc]
theorem c_AllocW {w0 : World} {v1 v2 : Value} {l : List Gp} {b : Int} (h1 : SlC w0 1 v1 l.length (l.flatMap fS)) (h2 : SlC w0 1 v2 l.length (l.flatMap fH)) (hr : Rng l) (hb : 0 ≤ b ∧ b ≤ 1000000000) : Calls Tryz.prog 11 #[.int .i64 b, v1, v2] w0 (Ret fun r w' => ∃ v c, r = .tuple #[v, c] ∧ Ext w0 w') :=
 (c_Alloc h1 h2 hr hb).mono (Ret.imp fun r w' ⟨f, _, h⟩ => by
  rcases h with ⟨_, v, e, h⟩ | ⟨_, e, h⟩
  ·exact ⟨_, _, e, h.ext⟩
  ·exact ⟨_, _, e, h⟩)
section
variable {w0 : World} {v : Value} {l : List I2} {c c2 c3 : Int} (hT : Tab w0) (hs : ∀ {W : World}, Ext w0 W → Calls Tryz.prog 8 #[] W (Ret fun r w' => Ext W w' ∧ r = .bool true)) (hv : SlC w0 2 v l.length (l.flatMap fT)) (hok : I2ok l) (hl : l.length ≤ 9223372036854775807) (hc : Iw c) (hc2 : Iw c2) (hc3 : Iw c3)
include hT hs hv hok hl hc hc2 hc3
set_option maxHeartbeats 16000000 in
theorem law_Grows0 : Calls Tryz.prog 3 #[v, .int .i64 c, .int .i64 c2, .int .i64 c3] w0 (Ret fun r w' => Ext w0 w' ∧ r = .bool true) := by
 have cc0 := fun {W : World} (e : Ext w0 W) => hs e
 have cg := fun {W : World} (e : Ext w0 W) => c_grps (hv.ext e) hok hl hc
 have hR := grp_Rng l (n := 12) (by decide)
 have hgl := grp_len l 12
 have hwe := grp_we l 12
 have sb := sumN_bd (l := grp l 12) hR.sz
 have pb := pickZ_bd (c := c) (n := sumN' (grp l 12) + 5) (by omega)
 have p3 := pickZ_bd (c := c3) (n := 50) (by decide)
 have p2 := pickZ_bd (c := c2) (n := 100) (by decide)
 obtain ⟨G, hG⟩ : ∃ G, grp l 12 = G := ⟨_, rfl⟩
 obtain ⟨b, eb⟩ : ∃ b, pickZ c (sumN' G + 5) = b := ⟨_, rfl⟩
 obtain ⟨q3, e3⟩ : ∃ b, pickZ c3 50 = b := ⟨_, rfl⟩
 obtain ⟨q2, e2⟩ : ∃ b, pickZ c2 100 = b := ⟨_, rfl⟩
 rw [hG] at hR hgl sb pb hwe
 simp only [hG] at cg
 simp only [eb] at cg
 rw [eb] at pb
 rw [e3] at p3
 rw [e2] at p2
 have cp3 : ∀ {W : World}, Calls Tryz.prog 10 #[.int .i64 c3, .int .i64 50] W (Ret fun r w' => Ext W w' ∧ r = .int .i64 q3) := by
  intro W; have := c_pickL (w := W) hc3 (n := 50) (by decide) (by decide); rw [e3] at this; exact this
 have cp2 : ∀ {W : World}, Calls Tryz.prog 10 #[.int .i64 c2, .int .i64 100] W (Ret fun r w' => Ext W w' ∧ r = .int .i64 q2) := by
  intro W; have := c_pickL (w := W) hc2 (n := 100) (by decide) (by decide); rw [e2] at this; exact this
 have hRs := scl_Rng (m := 1 + q3) hR hwe (by omega)
 apply e_law15_SampleGrows
 unfold s_law15_SampleGrows
 have h := Hp.init [] w0
 refine cl1 h n_law15_sane (cc0 h.ext) fun w h => ?_
 refine Cl_i n_law15_groups (cg h.ext) ?_
 clear cc0 cg
 rintro _ w1 ⟨v1, v2, rfl, hg⟩
 have x1 := h.ext.tr hg.ext
 have hT := (hT.ext h.ext).ext hg.ext
 have s1 := ownsRow_sl (hg.get (i := 0) rfl)
 have s2 := ownsRow_sl (hg.get (i := 1) rfl)
 clear hg h hv
 have h := Hp.init [] w1
 have cc1 : ∀ {W : World}, Ext w1 W → Calls Tryz.prog 10 #[.int .i64 c3, .int .i64 50] W (Ret fun r w' => Ext W w' ∧ r = .int .i64 q3) := fun _ => cp3
 refine Ex3 (cl1 h n_law15_pick (cc1 h.ext) fun w h => ?_)
 refine Bn_ad (by omega) (by omega) ?_
 have h := h.nil tI 1
 refine Lp3.mkK (fun a s i W => ∃ (j : Nat) (z : Int), j ≤ G.length ∧ i = .int .i64 j ∧ s = .int .i64 z ∧ z = sumN' (G.take j) ∧ Hp [] w1 W [ro tI 1 a j (((scl (1 + q3) G).take j).flatMap fH)])
  (fun _ _ i _ => match i with | .int _ i' => G.length - i'.toNat | _ => 0) ⟨0, 0, by omega, rfl, rfl, rfl, h⟩ ?_
 clear h
 rintro va _ _ W ⟨j, z, hj, rfl, rfl, hz, h⟩ K hK
 have sbj := sumN_bd (l := G.take j) fun x hx => hR.sz x (List.mem_of_mem_take hx)
 have tl : (G.take j).length ≤ 12 := by rw [List.length_take]; omega
 by_cases hjl : j < G.length
 ·refine Exists.elim (p := fun x => G[j]? = some x) ⟨_, List.getElem?_eq_getElem hjl⟩ fun g hg => ?_
  have t1 : Seg (G.flatMap fS) (j * 1) (fS g) := flat_seg (f := fS) (fun _ => rfl) hg
  have t2 : Seg (G.flatMap fH) (j * 1) (fH g) := flat_seg (f := fH) (fun _ => rfl) hg
  have b1 := hR.sz g (List.mem_of_getElem? hg)
  have b2 := hwe g (List.mem_of_getElem? hg)
  have mb := mul_bd (show 0 ≤ g.2 ∧ g.2 ≤ 20 by omega) (show 0 ≤ 1 + q3 ∧ 1 + q3 ≤ 50 by omega)
  have hsg : (scl (1 + q3) G)[j]? = some (g.1, g.2 * (1 + q3)) := by unfold scl; rw [List.getElem?_map, hg]; rfl
  have done : ∀ {W : World} {a : Value} {L : List Et}, Hp [] w1 W (ro tI 1 a (j + 1) (((scl (1 + q3) G).take j).flatMap fH ++ [.int .i64 (g.2 * (1 + q3))]) :: L) → K a (.int .i64 (z + g.1)) (.int .i64 ((j : Int) + 1)) W := fun h => hK _ _ _ _ ⟨j + 1, _, by omega, rfl, rfl, by rw [sumN_take hg, hz], by rw [take_snoc hsg, List.flatMap_append]; exact h.sub (by simp)⟩ (by show G.length - ((j : Int) + 1).toNat < G.length - (j : Int).toNat; omega)
  refine leS (s1.hp h) ?_
  refine Bn_ltT (by omega) (If_T (iaH h ‹_› (by omega) fun zb zo zk zv zc => ?_))
  refine lh0 h ‹_› ‹_› (by rfl) ?_
  refine Bn_mu (by omega) (by omega) (bs1A h (by rfl) (by decide) (by rfl) (by decide) fun v3 w h => ?_)
  refine apR (by rfl) (by decide) h 1 rfl (qZ 0 h rfl) (by first | rfl | assumption) (by omega) fun v4 w h => ?_
  refine iaH h ‹_› (by omega) fun zb zo zk zv zc => ?_
  refine lh0 h ‹_› ‹_› (by rfl) ?_
  refine Bn_ad (by omega) (by omega) (Bn_ad (by omega) (by omega) ?_)
  dsimp only [List.set] at h
  exact done (h.drop 1)
 clear hK
 rw [take_all (by omega)] at sbj hz
 rw [take_all (by rw [scl_len]; omega), show j = G.length by omega] at h
 have ej : j = G.length := by omega
 refine leS (s1.hp h) ?_
 refine Bn_ltF (by omega) (If_F ?_)
 have x1 := x1.tr h.ext
 have hT := hT.ext h.ext
 have s1 := s1.ext h.ext
 have s2 := s2.ext h.ext
 have s3 := ownsRow_sl (h.get (i := 0) rfl)
 clear h cc1
 have s1' : SlC W 1 v1 (scl (1 + q3) G).length ((scl (1 + q3) G).flatMap fS) := by rw [scl_len, scl_fS]; exact s1
 have s3' : SlC W 1 va (scl (1 + q3) G).length ((scl (1 + q3) G).flatMap fH) := by rw [scl_len]; exact s3
 clear s3
 have one : ∀ {W : World} {f : List Bool} {vD : Value}, Stb z G f → Hp [] W W [] → kAll z G f = List.replicate G.length 1 := fun hS _ => by
  rw [hz] at hS ⊢
  refine List.eq_replicate_iff.2 ⟨Go.Smp.kAll_len hS.inv.len, (Go.Smp.enough hR.ok hS).2⟩
 have h := Hp.init [] W
 refine Cl_i n_sample_Allocate (c_Alloc s1 s2 hR (by omega)) ?_
 rintro _ wA ⟨fA, hSA, ⟨oA, vA, rfl, hA⟩ | ⟨oA, rfl, xA⟩⟩
 ·
  have x1 := (x1.tr h.ext).tr hA.ext
  have hT := (hT.ext h.ext).ext hA.ext
  have s1 := (s1.ext h.ext).ext hA.ext
  have s2 := (s2.ext h.ext).ext hA.ext
  have s1' := (s1'.ext h.ext).ext hA.ext
  have s3' := (s3'.ext h.ext).ext hA.ext
  have sA := ownsRow_sl (hA.get (i := 0) rfl)
  clear h hA
  have h := Hp.init [] wA
  have cc1 : ∀ {W : World}, Ext wA W → Calls Tryz.prog 10 #[.int .i64 c2, .int .i64 100] W (Ret fun r w' => Ext W w' ∧ r = .int .i64 q2) := fun _ => cp2
  refine Ex2 (cl1 h n_law15_pick (cc1 h.ext) fun w h => ?_)
  refine Bn_ad (by omega) (by omega) (Cl_i n_sample_Allocate (c_Alloc (b := b + q2) (s1.ext h.ext) (s2.ext h.ext) hR (by omega)) ?_)
  rintro _ wB ⟨fB, hSB, ⟨oB, vB, rfl, hB⟩ | ⟨oB, rfl, xB⟩⟩
  rotate_left
  ·exact absurd (Go.Smp.more_le hR.ok hSA hSB (by omega) oA).1 (by rw [oB]; decide)
  have x1 := (x1.tr h.ext).tr hB.ext
  have hT := (hT.ext h.ext).ext hB.ext
  have s1 := (s1.ext h.ext).ext hB.ext
  have s2 := (s2.ext h.ext).ext hB.ext
  have s1' := (s1'.ext h.ext).ext hB.ext
  have s3' := (s3'.ext h.ext).ext hB.ext
  have sA := (sA.ext h.ext).ext hB.ext
  have sB := ownsRow_sl (hB.get (i := 0) rfl)
  clear h hB cc1
  have h := Hp.init [] wB
  refine Ex2 (Cl_i n_sample_Allocate (c_Alloc (s1'.ext h.ext) (s3'.ext h.ext) hRs (by omega)) ?_)
  rintro _ wC ⟨fC, hSC, ⟨oC, vC, rfl, hC⟩ | ⟨oC, rfl, xC⟩⟩
  rotate_left
  ·exact absurd ((Go.Smp.scl_all (by omega) hR.ok hSA hSC).1.trans oA) (by rw [oC]; decide)
  have x1 := (x1.tr h.ext).tr hC.ext
  have hT := (hT.ext h.ext).ext hC.ext
  have s1 := (s1.ext h.ext).ext hC.ext
  have s2 := (s2.ext h.ext).ext hC.ext
  have sA := (sA.ext h.ext).ext hC.ext
  have sB := (sB.ext h.ext).ext hC.ext
  have sC := ownsRow_sl (hC.get (i := 0) rfl)
  clear h hC s1' s3'
  have h := Hp.init [] wC
  refine Ex2 (Cl_i n_sample_Allocate (c_Alloc (b := z) (s1.ext h.ext) (s2.ext h.ext) hR (by omega)) ?_)
  rintro _ wD ⟨fD, hSD, ⟨oD, vD, rfl, hD⟩ | ⟨oD, rfl, xD⟩⟩
  rotate_left
  ·rw [hz] at hSD oD
   exact absurd (Go.Smp.enough hR.ok hSD).1 (by rw [oD]; decide)
  have x1 := (x1.tr h.ext).tr hD.ext
  have hT := (hT.ext h.ext).ext hD.ext
  have s1 := (s1.ext h.ext).ext hD.ext
  have s2 := (s2.ext h.ext).ext hD.ext
  have sA := (sA.ext h.ext).ext hD.ext
  have sB := (sB.ext h.ext).ext hD.ext
  have sC := (sC.ext h.ext).ext hD.ext
  have sD := ownsRow_sl (hD.get (i := 0) rfl)
  clear h hD
  have h := Hp.init [] wD
  have kl := Go.Smp.kAll_len (b := b) hSA.inv.len
  have kl2 := Go.Smp.kAll_len (b := b + q2) hSB.inv.len
  rw [(Go.Smp.scl_all (by omega) hR.ok hSA hSC).2 oA, scl_len] at sC
  have ml := (Go.Smp.more_le hR.ok hSA hSB (by omega) oA).2
  have wl := fun {i j : Nat} {g h : Gp} {x y : Int} => Go.Smp.weight_le (i := i) (j := j) (g := g) (h := h) (x := x) (y := y) hR.ok hSA oA
  rw [hz] at hSD sD
  have d1 := (Go.Smp.enough hR.ok hSD).2
  have kl3 := Go.Smp.kAll_len (b := sumN' G) hSD.inv.len
  refine Exists.elim (p := fun x => kAll b G fA = x) ⟨_, rfl⟩ fun ka ea => ?_
  refine Exists.elim (p := fun x => kAll (b + q2) G fB = x) ⟨_, rfl⟩ fun kb eb => ?_
  refine Exists.elim (p := fun x => kAll (sumN' G) G fD = x) ⟨_, rfl⟩ fun kd ed => ?_
  rw [ea] at sA sC kl
  rw [eb] at sB kl2
  rw [ed] at sD d1 kl3
  simp only [ea, eb] at ml wl
  have cc1 : ∀ {W : World}, Ext wD W → Calls Tryz.prog 12 #[vA, vC] W (Ret fun r w' => Ext W w' ∧ r = .bool true) := fun {W} e => by
   have := c_Ints (w0 := W) (v := vA) (u := vC) (xs := ka) (ys := ka) (by rw [kl]; exact sA.ext e) (by rw [kl]; exact sC.ext e) (by omega) (by omega)
   rw [decide_eq_true rfl] at this
   exact this
  refine Ex2 (Bn_neF (by omega) (Gd_F (Gd_F (Bn_neF (by omega) (Gd_F (Gd_FT (Gd_FT (Gd_F (Pick_F (Pick_F (Gd_F (Gd_F (Bn_neF (by omega) (Pick_F (Gd_F (Gd_F (leS (sD.hp h) ?_)))))))))))))))))
  refine Gd_F (Gd_F (leS (s1.hp h) ?_))
  refine Gd_F (Bn_neF (by omega) (Pick_F (Gd_F (Gd_F (Gd_F (cl1 h n_ref15_Ints (cc1 h.ext) fun w h => ?_))))))
  refine Gd_F (Un_T (Pick_F (If_F (Lp1.mkK (fun i W => ∃ j : Nat, j ≤ G.length ∧ i = .int .i64 j ∧ Hp [] wD W []) (fun i _ => match i with | .int _ i' => G.length - i'.toNat | _ => 0) ⟨0, by omega, rfl, h⟩ ?_))))
  clear h
  rintro _ W ⟨j, hj, rfl, h⟩ K hK
  by_cases hjl : j < G.length
  ·refine Exists.elim (p := fun x => kd[j]? = some x) ⟨_, List.getElem?_eq_getElem (by omega)⟩ fun x hx => ?_
   have ex : x = 1 := d1 x (List.mem_of_getElem? hx)
   rw [ex] at hx
   have t1 : Seg (kd.flatMap fZ) (j * 1) (fZ 1) := flat_seg (f := fZ) (fun _ => rfl) hx
   refine leS (sD.hp h) ?_
   refine Bn_ltT (by omega) (If_T (iaH h ‹_› (by omega) fun zb zo zk zv zc => ?_))
   refine lh0 h ‹_› ‹_› (by rfl) ?_
   refine Bn_neF (by omega) (If_F (Bn_ad (by omega) (by omega) ?_))
   exact hK _ _ ⟨j + 1, by omega, rfl, h⟩ (by show G.length - ((j : Int) + 1).toNat < G.length - (j : Int).toNat; omega)
  clear hK
  have ej2 : j = G.length := by omega
  refine leS (sD.hp h) ?_
  refine Bn_ltF (by omega) (If_F (Bn_neF (by omega) (If_F (Bn_neF (by omega) (Gd_F (Gd_F (leS (sA.hp h) ?_)))))))
  refine Gd_F (Gd_F (leS (s1.hp h) ?_))
  refine Gd_F (Bn_neF (by omega) (Pick_F (Gd_F (Gd_F (leS (sB.hp h) ?_)))))
  refine Gd_F (Gd_F (leS (s1.hp h) ?_))
  refine Gd_F (Bn_neF (by omega) (Pick_F (If_F (Lp1.mkK (fun i W => ∃ j : Nat, j ≤ G.length ∧ i = .int .i64 j ∧ Hp [] wD W []) (fun i _ => match i with | .int _ i' => G.length - i'.toNat | _ => 0) ⟨0, by omega, rfl, h⟩ ?_))))
  clear h
  rintro _ W ⟨i, hi, rfl, h⟩ K hK
  by_cases hil : i < G.length
  rotate_left
  ·refine leS (sA.hp h) ?_
   refine Bn_ltF (by omega) (If_F ?_)
   exact Ret.mk ⟨x1.tr h.ext, rfl⟩
  refine Exists.elim (p := fun x => G[i]? = some x) ⟨_, List.getElem?_eq_getElem hil⟩ fun g hg => ?_
  refine Exists.elim (p := fun x => ka[i]? = some x) ⟨_, List.getElem?_eq_getElem (by omega)⟩ fun a ha => ?_
  refine Exists.elim (p := fun x => kb[i]? = some x) ⟨_, List.getElem?_eq_getElem (by omega)⟩ fun b' hb => ?_
  have t1 : Seg (G.flatMap fH) (i * 1) (fH g) := flat_seg (f := fH) (fun _ => rfl) hg
  have t2 : Seg (ka.flatMap fZ) (i * 1) (fZ a) := flat_seg (f := fZ) (fun _ => rfl) ha
  have t3 : Seg (kb.flatMap fZ) (i * 1) (fZ b') := flat_seg (f := fZ) (fun _ => rfl) hb
  have lab := ml i a b' ha hb
  refine leS (sA.hp h) ?_
  refine Bn_ltT (by omega) (If_T (Lp1.mkK (fun k W => ∃ j : Nat, j ≤ G.length ∧ k = .int .i64 j ∧ Hp [] wD W []) (fun i _ => match i with | .int _ i' => G.length - i'.toNat | _ => 0) ⟨0, by omega, rfl, h⟩ ?_))
  clear h
  rintro _ W ⟨k, hk, rfl, h⟩ K2 hK2
  by_cases hkl : k < G.length
  ·refine Exists.elim (p := fun x => G[k]? = some x) ⟨_, List.getElem?_eq_getElem hkl⟩ fun g' hg' => ?_
   refine Exists.elim (p := fun x => ka[k]? = some x) ⟨_, List.getElem?_eq_getElem (by omega)⟩ fun a' ha' => ?_
   have t4 : Seg (G.flatMap fH) (k * 1) (fH g') := flat_seg (f := fH) (fun _ => rfl) hg'
   have t5 : Seg (ka.flatMap fZ) (k * 1) (fZ a') := flat_seg (f := fZ) (fun _ => rfl) ha'
   have done : ∀ {W : World}, Hp [] wD W [] → K2 (.int .i64 ((k : Int) + 1)) W := fun h => hK2 _ _ ⟨k + 1, by omega, rfl, h⟩ (by show G.length - ((k : Int) + 1).toNat < G.length - (k : Int).toNat; omega)
   by_cases hw : g'.2 ≤ g.2
   ·have lw := wl hg hg' hw ha ha'
    refine leS (sA.hp h) ?_
    refine Bn_ltT (by omega) (If_T ?_)
    replace h := h.dr
    refine diH h ‹_› (by omega) fun zb zo zk zv zc => ?_
    refine dh0 h ‹_› ‹_› (by rfl) ?_
    refine diH h ‹_› (by omega) fun zb zo zk zv zc => ?_
    refine dh0 h ‹_› ‹_› (by rfl) ?_
    refine Dv_geT (by omega) (GdP_T (GdP_T (GdP_T (diH h ‹_› (by omega) fun zb zo zk zv zc => ?_))))
    refine GdP_T (dh0 h ‹_› ‹_› (by rfl) ?_)
    refine GdP_T (GdP_T (GdP_T (diH h ‹_› (by omega) fun zb zo zk zv zc => ?_)))
    refine GdP_T (dh0 h ‹_› ‹_› (by rfl) ?_)
    refine GdP_T (Dv_gtF (by omega) (PickP_T (If_F (Bn_ad (by omega) (by omega) ?_))))
    exact done h
   ·refine leS (sA.hp h) ?_
    refine Bn_ltT (by omega) (If_T ?_)
    replace h := h.dr
    refine diH h ‹_› (by omega) fun zb zo zk zv zc => ?_
    refine dh0 h ‹_› ‹_› (by rfl) ?_
    refine diH h ‹_› (by omega) fun zb zo zk zv zc => ?_
    refine dh0 h ‹_› ‹_› (by rfl) ?_
    refine Dv_geF (by omega) (GdP_FT (GdP_FT (GdP_FT (GdP_FT (GdP_FT (GdP_FT (GdP_FT (GdP_FT (GdP_FT (PickP_F (If_F (Bn_ad (by omega) (by omega) ?_))))))))))))
    exact done h
  clear hK2
  refine leS (sA.hp h) ?_
  refine Bn_ltF (by omega) (If_F ?_)
  replace h := h.dr
  refine diH h ‹_› (by omega) fun zb zo zk zv zc => ?_
  refine dh0 h ‹_› ‹_› (by rfl) ?_
  refine diH h ‹_› (by omega) fun zb zo zk zv zc => ?_
  refine dh0 h ‹_› ‹_› (by rfl) ?_
  refine Dv_gtF (by omega) (If_F (Bn_ad (by omega) (by omega) ?_))
  exact hK _ _ ⟨i + 1, by omega, rfl, h⟩ (by show G.length - ((i : Int) + 1).toNat < G.length - (i : Int).toNat; omega)
 ·
  have x1 := x1.tr xA
  have hT := hT.ext xA
  have s1 := s1.ext xA
  have s2 := s2.ext xA
  have s1' := s1'.ext xA
  have s3' := s3'.ext xA
  clear h xA
  have h := Hp.init [] wA
  have cc1 : ∀ {W : World}, Ext wA W → Calls Tryz.prog 10 #[.int .i64 c2, .int .i64 100] W (Ret fun r w' => Ext W w' ∧ r = .int .i64 q2) := fun _ => cp2
  refine Ex2 (cl1 h n_law15_pick (cc1 h.ext) fun w h => ?_)
  refine Bn_ad (by omega) (by omega) (Cl_i n_sample_Allocate (c_AllocW (b := b + q2) (s1.ext h.ext) (s2.ext h.ext) hR (by omega)) ?_)
  rintro _ wB ⟨vB, uB, rfl, xB⟩
  have x1 := (x1.tr h.ext).tr xB
  have hT := (hT.ext h.ext).ext xB
  have s1 := (s1.ext h.ext).ext xB
  have s2 := (s2.ext h.ext).ext xB
  have s1' := (s1'.ext h.ext).ext xB
  have s3' := (s3'.ext h.ext).ext xB
  clear h xB cc1
  have h := Hp.init [] wB
  refine Ex2 (Cl_i n_sample_Allocate (c_Alloc (s1'.ext h.ext) (s3'.ext h.ext) hRs (by omega)) ?_)
  rintro _ wC ⟨fC, hSC, ⟨oC, vC, rfl, hC⟩ | ⟨oC, rfl, xC⟩⟩
  ·exact absurd ((Go.Smp.scl_all (by omega) hR.ok hSA hSC).1.symm.trans oC) (by rw [oA]; decide)
  have x1 := (x1.tr h.ext).tr xC
  have hT := (hT.ext h.ext).ext xC
  have s1 := (s1.ext h.ext).ext xC
  have s2 := (s2.ext h.ext).ext xC
  clear h xC s1' s3'
  have h := Hp.init [] wC
  refine Ex2 (Cl_i n_sample_Allocate (c_Alloc (b := z) (s1.ext h.ext) (s2.ext h.ext) hR (by omega)) ?_)
  rintro _ wD ⟨fD, hSD, ⟨oD, vD, rfl, hD⟩ | ⟨oD, rfl, xD⟩⟩
  rotate_left
  ·rw [hz] at hSD oD
   exact absurd (Go.Smp.enough hR.ok hSD).1 (by rw [oD]; decide)
  have x1 := (x1.tr h.ext).tr hD.ext
  have hT := (hT.ext h.ext).ext hD.ext
  have s1 := (s1.ext h.ext).ext hD.ext
  have s2 := (s2.ext h.ext).ext hD.ext
  have sD := ownsRow_sl (hD.get (i := 0) rfl)
  clear h hD
  have h := Hp.init [] wD
  rw [hz] at hSD sD
  have d1 := (Go.Smp.enough hR.ok hSD).2
  have kl3 := Go.Smp.kAll_len (b := sumN' G) hSD.inv.len
  refine Exists.elim (p := fun x => kAll (sumN' G) G fD = x) ⟨_, rfl⟩ fun kd ed => ?_
  rw [ed] at sD d1 kl3
  have cc1 : ∀ {W : World}, Ext wD W → Calls Tryz.prog 12 #[.slice none 0 0, .slice none 0 0] W (Ret fun r w' => Ext W w' ∧ r = .bool true) := fun {W} e => by
   have hh := (Hp.init [] W).nil tI 1
   have k := ownsRow_sl (hh.get (i := 0) rfl)
   have := c_Ints (w0 := W) (xs := []) (ys := []) k k (by decide) (by decide)
   rw [decide_eq_true rfl] at this
   exact this
  refine Ex2 (Bn_neF (by omega) (Gd_F (Gd_F (Bn_neT (by omega) (Gd_F (Gd_T (Gd_T (Bn_neF (by omega) (Gd_F (Pick_T (Pick_F (Gd_F (Gd_F (Bn_neF (by omega) (Pick_F (Gd_F (Gd_F (leS (sD.hp h) ?_))))))))))))))))))
  refine Gd_F (Gd_F (leS (s1.hp h) ?_))
  refine Gd_F (Bn_neF (by omega) (Pick_F (Gd_F (Gd_F (Gd_F (cl1 h n_ref15_Ints (cc1 h.ext) fun w h => ?_))))))
  refine Gd_F (Un_T (Pick_F (If_F (Lp1.mkK (fun i W => ∃ j : Nat, j ≤ G.length ∧ i = .int .i64 j ∧ Hp [] wD W []) (fun i _ => match i with | .int _ i' => G.length - i'.toNat | _ => 0) ⟨0, by omega, rfl, h⟩ ?_))))
  clear h
  rintro _ W ⟨j, hj, rfl, h⟩ K hK
  by_cases hjl : j < G.length
  ·refine Exists.elim (p := fun x => kd[j]? = some x) ⟨_, List.getElem?_eq_getElem (by omega)⟩ fun x hx => ?_
   have ex : x = 1 := d1 x (List.mem_of_getElem? hx)
   rw [ex] at hx
   have t1 : Seg (kd.flatMap fZ) (j * 1) (fZ 1) := flat_seg (f := fZ) (fun _ => rfl) hx
   refine leS (sD.hp h) ?_
   refine Bn_ltT (by omega) (If_T (iaH h ‹_› (by omega) fun zb zo zk zv zc => ?_))
   refine lh0 h ‹_› ‹_› (by rfl) ?_
   refine Bn_neF (by omega) (If_F (Bn_ad (by omega) (by omega) ?_))
   exact hK _ _ ⟨j + 1, by omega, rfl, h⟩ (by show G.length - ((j : Int) + 1).toNat < G.length - (j : Int).toNat; omega)
  clear hK
  have ej2 : j = G.length := by omega
  refine leS (sD.hp h) ?_
  refine Bn_ltF (by omega) (If_F (Bn_neT (by omega) (If_T ?_)))
  exact Ret.mk ⟨x1.tr h.ext, rfl⟩
end
end Go.Proofs.YtjgjeccfhmlcnaaGreatDoor
