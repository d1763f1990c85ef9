/-
  Contracts and plain lemmas. By an AI agent.
-/
import Derived.Test.YthdhnhghjecfkaaGreatSsI
import Derived.Test.YthdhnhghjecfkaaGreatPlain
set_option linter.unusedSimpArgs false
set_option linter.unusedVariables false
set_option linter.unusedSectionVars false
namespace Go.Proofs.YthdhnhghjecfkaaGreat
open Go Go.Eng Go.Proofs Go.RowKit
open Go.Srd (Ft VF Hd Mv mv0 Rd Ab Cmd got ltF sam srt plh ofS gotL delN cntL insR insN insS rdd cntP)
set_option maxRecDepth 100000
section
variable {w : World} {n lo hi : Int}
theorem r_inT (h : lo ≤ n ∧ n ≤ hi) : Calls Tryz.prog 48 #[.int .i64 n, .int .i64 lo, .int .i64 hi] w (Ret fun r w' => Ext w w' ∧ r = .bool true) := by
 have h1 := h.1
 have h2 := h.2
 apply e_ref37_in
 unfold s_ref37_in
 have h := Hp.init [] w
 refine Bn_geT (by omega) (Gd_T (Gd_T (Gd_T (Bn_leT (by omega) (Pick_T ?_)))))
 exact Ret.mk ⟨h.ext, rfl⟩
theorem r_inF (h : ¬ (lo ≤ n ∧ n ≤ hi)) : Calls Tryz.prog 48 #[.int .i64 n, .int .i64 lo, .int .i64 hi] w (Ret fun r w' => Ext w w' ∧ r = .bool false) := by
 apply e_ref37_in
 unfold s_ref37_in
 by_cases h1 : lo ≤ n
 ·have h2 : hi < n := by omega
  have h := Hp.init [] w
  refine Bn_geT (by omega) (Gd_T (Gd_T (Gd_T (Bn_leF (by omega) (Pick_T ?_)))))
  exact Ret.mk ⟨h.ext, rfl⟩
 ·have h := Hp.init [] w
  refine Bn_geF (by omega) (Gd_FT (Gd_FT (Gd_FT (Pick_F ?_))))
  exact Ret.mk ⟨h.ext, rfl⟩
theorem r_in14 (h : lo ≤ n ∧ n ≤ hi) : Calls Tryz.prog 91 #[.int .i64 n, .int .i64 lo, .int .i64 hi] w (Ret fun r w' => Ext w w' ∧ r = .bool true) := by
 have h1 := h.1
 have h2 := h.2
 apply e_ref14_in
 unfold s_ref14_in
 have h := Hp.init [] w
 refine Bn_geT (by omega) (Gd_T (Gd_T (Gd_T (Bn_leT (by omega) (Pick_T ?_)))))
 exact Ret.mk ⟨h.ext, rfl⟩
theorem r_VF {f : Ft} (hf : VF f) : Calls Tryz.prog 52 #[vF f] w (Ret fun r w' => Ext w w' ∧ r = .bool true) := by
 obtain ⟨n1, n2, n3, n4, n5, n6, n7, n8, n9, n10⟩ := hf
 have cc1 := fun {W : World} {n lo hi : Int} (_ : Ext w W) (h : lo ≤ n ∧ n ≤ hi) => r_in14 (w := W) h
 have h81 := n8.1
 have h82 := n8.2
 apply e_ref14_ValidFact
 unfold s_ref14_ValidFact
 have h := Hp.init [] w
 refine bxA h fun g1 w h => ?_
 refine faS (ld1 h 0 rfl rfl (cl1 h n_ref14_in (cc1 h.ext ‹_›) fun w h => ?_))
 refine Un_T (Gd_F (faS (Gd_F (ld1 h 0 rfl rfl (Gd_F (cl1 h n_ref14_in (cc1 h.ext ‹_›) fun w h => ?_))))))
 refine Gd_F (Un_T (Pick_F (Gd_F (faS (Gd_F (ld1 h 0 rfl rfl (Gd_F (cl1 h n_ref14_in (cc1 h.ext ‹_›) fun w h => ?_))))))))
 refine Gd_F (Un_T (Pick_F (Gd_F (faS (Gd_F (ld1 h 0 rfl rfl (Gd_F (cl1 h n_ref14_in (cc1 h.ext ‹_›) fun w h => ?_))))))))
 refine Gd_F (Un_T (Pick_F (Gd_F (faS (Gd_F (ld1 h 0 rfl rfl (Gd_F (cl1 h n_ref14_in (cc1 h.ext ‹_›) fun w h => ?_))))))))
 refine Gd_F (Un_T (Pick_F (Gd_F (faS (Gd_F (ld1 h 0 rfl rfl (Gd_F (cl1 h n_ref14_in (cc1 h.ext ‹_›) fun w h => ?_))))))))
 refine Gd_F (Un_T (Pick_F (If_F (faS (ld1 h 0 rfl rfl (faS (ld1 h 0 rfl rfl (Bn_qu (by omega) (by omega) (by omega) (Bn_eqT (by omega) (Gd_T (faS (Gd_T (ld1 h 0 rfl rfl (Gd_T (Bn_geT (by omega) (Pick_T (Gd_T (faS (Gd_T (ld1 h 0 rfl rfl (Gd_T (faS (Gd_T (ld1 h 0 rfl rfl (Gd_T (Bn_leT (by omega) (Pick_T (Gd_T (faS (Gd_T (ld1 h 0 rfl rfl (Gd_T (Bn_leT (by omega) (Pick_T (Gd_T (faS (Gd_T (ld1 h 0 rfl rfl (Gd_T ?_)))))))))))))))))))))))))))))))))))))))
 refine cl1 h n_ref14_in (cc1 h.ext ‹_›) fun w h => ?_
 refine Pick_T ?_
 exact Ret.mk ⟨h.ext, rfl⟩
theorem r_Slot (hn : 0 ≤ n ∧ n ≤ 999) : Calls Tryz.prog 92 #[.int .i64 n] w (Ret fun r w' => Ext w w' ∧ r = .int .i64 (n % 8)) := by
 have h1 := hn.1
 have h2 := hn.2
 have cc1 := fun {W : World} (_ : Ext w W) => r_inT (w := W) (n := n) (lo := 0) (hi := 999) hn
 apply e_ref37_Slot
 unfold s_ref37_Slot
 have h := Hp.init [] w
 refine cl1 h n_ref37_in (cc1 h.ext) fun w h => ?_
 refine Un_T (If_F (Bn_rm (by omega) (by omega) ?_))
 exact Ret.mk ⟨h.ext, rfl⟩
theorem r_of {f : Ft} (hn : 0 ≤ f.tr ∧ f.tr ≤ 999) : Calls Tryz.prog 53 #[vF f] w (Ret fun r w' => Ext w w' ∧ r = .int .i64 (f.tr % 8)) := by
 have cc1 := fun {W : World} (_ : Ext w W) => r_Slot (w := W) hn
 apply e_ref37_of
 unfold s_ref37_of
 have h := Hp.init [] w
 refine bxA h fun g1 w h => ?_
 refine faS (ld1 h 0 rfl rfl (cl1 h n_ref37_Slot (cc1 h.ext) fun w h => ?_))
 exact Ret.mk ⟨h.ext, rfl⟩
theorem r_before {f g : Ft} : Calls Tryz.prog 126 #[vF f, vF g] w (Ret fun r w' => Ext w w' ∧ r = .bool (decide (ltF f g))) := by
 apply e_ref37_before
 unfold s_ref37_before
 have h := Hp.init [] w
 by_cases h1 : f.tr < g.tr
 ·rw [decide_eq_true (show ltF f g from .inl h1)]
  refine bxA h fun g1 w h => ?_
  refine bxA h fun g2 w h => ?_
  refine faS (ld1 h 1 rfl rfl (faS (ld1 h 0 rfl rfl (Bn_ltT (by omega) (Gd_TF (Gd_TF (Gd_TF (Gd_TF (Gd_TF (Gd_TF (Gd_U (Gd_U (Gd_U (Gd_U (Gd_U (Gd_TF (Pick_T ?_)))))))))))))))))
  exact Ret.mk ⟨h.ext, rfl⟩
 by_cases h2 : f.tr = g.tr
 ·by_cases h3 : f.sp < g.sp
  ·rw [decide_eq_true (show ltF f g from .inr ⟨h2, h3⟩)]
   refine bxA h fun g1 w h => ?_
   refine bxA h fun g2 w h => ?_
   refine faS (ld1 h 1 rfl rfl (faS (ld1 h 0 rfl rfl (Bn_ltF (by omega) (Gd_F (faS (Gd_F (ld1 h 1 rfl rfl (Gd_F (faS (Gd_F (ld1 h 0 rfl rfl (Gd_F (Bn_eqT (by omega) (Gd_F (Gd_T (faS (Gd_T (ld1 h 1 rfl rfl (Gd_T (faS (Gd_T (ld1 h 0 rfl rfl (Gd_T (Bn_ltT (by omega) (Gd_F (Pick_T (Pick_F ?_))))))))))))))))))))))))))))
   exact Ret.mk ⟨h.ext, rfl⟩
  ·rw [decide_eq_false (show ¬ ltF f g by unfold Srd.ltF; omega)]
   refine bxA h fun g1 w h => ?_
   refine bxA h fun g2 w h => ?_
   refine faS (ld1 h 1 rfl rfl (faS (ld1 h 0 rfl rfl (Bn_ltF (by omega) (Gd_F (faS (Gd_F (ld1 h 1 rfl rfl (Gd_F (faS (Gd_F (ld1 h 0 rfl rfl (Gd_F (Bn_eqT (by omega) (Gd_F (Gd_T (faS (Gd_T (ld1 h 1 rfl rfl (Gd_T (faS (Gd_T (ld1 h 0 rfl rfl (Gd_T (Bn_ltF (by omega) (Gd_F (Pick_T (Pick_F ?_))))))))))))))))))))))))))))
   exact Ret.mk ⟨h.ext, rfl⟩
 ·rw [decide_eq_false (show ¬ ltF f g by unfold Srd.ltF; omega)]
  refine bxA h fun g1 w h => ?_
  refine bxA h fun g2 w h => ?_
  refine faS (ld1 h 1 rfl rfl (faS (ld1 h 0 rfl rfl (Bn_ltF (by omega) (Gd_F (faS (Gd_F (ld1 h 1 rfl rfl (Gd_F (faS (Gd_F (ld1 h 0 rfl rfl (Gd_F (Bn_eqF (by omega) (Gd_F (Gd_FT (Gd_FT (Gd_FT (Gd_FT (Gd_FT (Gd_F (Pick_F (Pick_F ?_)))))))))))))))))))))))
  exact Ret.mk ⟨h.ext, rfl⟩
end
theorem dh2 {P : Program} {t : TypeId} [One P t] {w0 w : World} {L : List Et} {b o k off off2 : Nat} {xs vs : List Value} {u : Value} {KP : Value → Prop} (h : Hp [] w0 w L) (hc : CellsAt w0 b o xs) (hs : Seg xs k vs) (hl : vs[off + off2]? = some u) (hk : KP u) : Dv P false (Instr.loadAt t (pr b (o + k + off + off2))) w KP := by
 rw [Nat.add_assoc (o + k)]; exact dh1 h hc hs hl hk
section
variable {w0 : World} {v : Value}
set_option maxHeartbeats 1000000 in
theorem r_holds {l : List Hd} {y : Hd} (hv : SlC w0 11 v l.length (l.flatMap fH)) (hl : l.length ≤ 1000000) (hy : y ∈ l) : Calls Tryz.prog 125 #[v, vH y] w0 (Ret fun r w' => Ext w0 w' ∧ r = .bool true) := by
 apply e_ref37_holds
 unfold s_ref37_holds
 have h := Hp.init [] w0
 refine bxA h fun g1 w h => ?_
 refine Lp1.mk (fun i W => ∃ j : Nat, j ≤ l.length ∧ i = .int .i64 j ∧ Hp [] w0 W [bx g1 tHd (fH y)] ∧ y ∉ l.take j) (fun i _ => match i with | .int _ i' => l.length - i'.toNat | _ => 0) ⟨0, by omega, rfl, h, by simp⟩ ?_
 clear h
 rintro _ W ⟨j, hj, rfl, h, hn⟩
 by_cases hjl : j < l.length
 ·refine Exists.elim (p := fun z => l[j]? = some z) ⟨_, List.getElem?_eq_getElem hjl⟩ fun z hz => ?_
  have sy : Seg (l.flatMap fH) (j * 11) (fH z) := flat_seg (f := fH) (fun _ => rfl) hz
  by_cases he : z = y
  ·refine leS (hv.hp h) ?_
   refine Bn_ltT (by omega) (If_T ?_)
   replace h := h.dr
   refine diH h ‹_› (by omega) fun zb zo zk zv zc => ?_
   refine dhA h ‹_› ‹_› (by rfl) ?_
   refine dlA h 0 rfl rfl ?_
   refine deqHd ?_
   rw [decide_eq_true he]
   refine If_T ?_
   exact Ret.mk ⟨h.ext, rfl⟩
  ·refine leS (hv.hp h) ?_
   refine Bn_ltT (by omega) (If_T ?_)
   replace h := h.dr
   refine diH h ‹_› (by omega) fun zb zo zk zv zc => ?_
   refine dhA h ‹_› ‹_› (by rfl) ?_
   refine dlA h 0 rfl rfl ?_
   refine deqHd ?_
   rw [decide_eq_false he]
   refine If_F (Bn_ad (by omega) (by omega) ?_)
   refine ⟨⟨j + 1, by omega, rfl, h, ?_⟩, by show l.length - ((j : Int) + 1).toNat < l.length - (j : Int).toNat; omega⟩
   rw [List.take_add_one, hz]
   intro hc
   rcases List.mem_append.1 hc with hc | hc
   ·exact hn hc
   ·exact he (show y = z by simpa using hc).symm
 have : j = l.length := by omega
 subst this
 rw [List.take_length] at hn
 exact absurd hy hn
theorem r_has {l : List Hd} {f : Ft} {b : Bool} (hv : SlC w0 11 v l.length (l.flatMap fH)) (hl : l.length ≤ 1000000) (hb : b = true ↔ ∃ y ∈ l, sam y.1 f) : Calls Tryz.prog 54 #[v, vF f] w0 (Ret fun r w' => Ext w0 w' ∧ r = .bool b) := by
 apply e_ref37_has
 unfold s_ref37_has
 have h := Hp.init [] w0
 refine bxA h fun g1 w h => ?_
 refine Lp1.mk (fun i W => ∃ j : Nat, j ≤ l.length ∧ i = .int .i64 j ∧ Hp [] w0 W [bx g1 tFt (fF f)] ∧ ∀ y ∈ l.take j, ¬ sam y.1 f) (fun i _ => match i with | .int _ i' => l.length - i'.toNat | _ => 0) ⟨0, by omega, rfl, h, by simp⟩ ?_
 clear h
 rintro _ W ⟨j, hj, rfl, h, hn⟩
 by_cases hjl : j < l.length
 ·refine Exists.elim (p := fun z => l[j]? = some z) ⟨_, List.getElem?_eq_getElem hjl⟩ fun z hz => ?_
  have sy : Seg (l.flatMap fH) (j * 11) (fH z) := flat_seg (f := fH) (fun _ => rfl) hz
  have hnx : ¬ sam z.1 f → ∀ y ∈ l.take (j + 1), ¬ sam y.1 f := fun hne y hy => by
   rw [List.take_add_one, hz] at hy
   rcases List.mem_append.1 hy with hy | hy
   ·exact hn y hy
   ·have : y = z := by simpa using hy
    rw [this]; exact hne
  by_cases h1 : z.1.tr = f.tr
  ·by_cases h2 : z.1.sp = f.sp
   ·rw [hb.2 ⟨z, List.mem_of_getElem? hz, h1, h2⟩]
    refine leS (hv.hp h) ?_
    refine Bn_ltT (by omega) (If_T ?_)
    replace h := h.dr
    refine diH h ‹_› (by omega) fun zb zo zk zv zc => ?_
    refine dfS (dfS (dh2 h ‹_› ‹_› (by rfl) ?_))
    refine dfS (dl1 h 0 rfl rfl (Dv_eqT (by omega) (GdP_T (GdP_T (GdP_T (diH h ‹_› (by omega) fun zb zo zk zv zc => ?_))))))
    refine GdP_T (dfS (GdP_T (dfS (GdP_T (dh2 h ‹_› ‹_› (by rfl) ?_)))))
    refine GdP_T (dfS (GdP_T (dl1 h 0 rfl rfl (GdP_T (Dv_eqT (by omega) (PickP_T (If_T ?_)))))))
    exact Ret.mk ⟨h.ext, rfl⟩
   ·have hq := hnx fun hs => h2 hs.2
    refine leS (hv.hp h) ?_
    refine Bn_ltT (by omega) (If_T ?_)
    replace h := h.dr
    refine diH h ‹_› (by omega) fun zb zo zk zv zc => ?_
    refine dfS (dfS (dh2 h ‹_› ‹_› (by rfl) ?_))
    refine dfS (dl1 h 0 rfl rfl (Dv_eqT (by omega) (GdP_T (GdP_T (GdP_T (diH h ‹_› (by omega) fun zb zo zk zv zc => ?_))))))
    refine GdP_T (dfS (GdP_T (dfS (GdP_T (dh2 h ‹_› ‹_› (by rfl) ?_)))))
    refine GdP_T (dfS (GdP_T (dl1 h 0 rfl rfl (GdP_T (Dv_eqF (by omega) (PickP_T (If_F (Bn_ad (by omega) (by omega) ?_))))))))
    exact ⟨⟨j + 1, by omega, rfl, h, hq⟩, by show l.length - ((j : Int) + 1).toNat < l.length - (j : Int).toNat; omega⟩
  ·have hq := hnx fun hs => h1 hs.1
   refine leS (hv.hp h) ?_
   refine Bn_ltT (by omega) (If_T ?_)
   replace h := h.dr
   refine diH h ‹_› (by omega) fun zb zo zk zv zc => ?_
   refine dfS (dfS (dh2 h ‹_› ‹_› (by rfl) ?_))
   refine dfS (dl1 h 0 rfl rfl (Dv_eqF (by omega) (GdP_FT (GdP_FT (GdP_FT (GdP_FT (GdP_FT (GdP_FT (GdP_FT (GdP_FT (GdP_FT (PickP_F (If_F (Bn_ad (by omega) (by omega) ?_))))))))))))))
   exact ⟨⟨j + 1, by omega, rfl, h, hq⟩, by show l.length - ((j : Int) + 1).toNat < l.length - (j : Int).toNat; omega⟩
 have : j = l.length := by omega
 subst this
 rw [List.take_length] at hn
 have hbf : b = false := by
  cases b with
  | false => rfl
  | true => obtain ⟨y, hy, hs⟩ := hb.1 rfl; exact absurd hs (hn y hy)
 rw [hbf]
 refine leS (hv.hp h) ?_
 refine Bn_ltF (by omega) (If_F ?_)
 exact Ret.mk ⟨h.ext, rfl⟩
theorem ofS_snoc {s : Int} {l : List Hd} {j : Nat} {z : Hd} (hz : l[j]? = some z) : ofS s (l.take (j + 1)) = ofS s (l.take j) ++ if z.1.tr % 8 = s then [z] else [] := by
 unfold Srd.ofS
 rw [List.take_add_one, hz, List.filter_append]
 congr 1
 show List.filter _ [z] = _
 by_cases h : z.1.tr % 8 = s
 ·rw [if_pos h, List.filter_cons_of_pos (by exact decide_eq_true h)]; rfl
 ·rw [if_neg h, List.filter_cons_of_neg (by rw [decide_eq_false (show ¬ Srd.slot z.1 = s from h)]; simp)]; rfl
theorem r_slots {l : List Hd} {s : Int} (hv : SlC w0 11 v l.length (l.flatMap fH)) (hl : l.length ≤ 1000) (ht : ∀ x ∈ l, 0 ≤ x.1.tr ∧ x.1.tr ≤ 999) :
 Calls Tryz.prog 95 #[v, .int .i64 s] w0 (Ret fun r w' => ∃ u, r = u ∧ Hp [] w0 w' [ro tHd 11 u (ofS s l).length ((ofS s l).flatMap fH)]) := by
 apply e_ref37_slots
 unfold s_ref37_slots
 have h := Hp.init [] w0
 skip
 have h0 := h.nil tHd 11
 refine Lp2.mk (fun u i W => ∃ j : Nat, j ≤ l.length ∧ i = .int .i64 j ∧ Hp [] w0 W [ro tHd 11 u (ofS s (l.take j)).length ((ofS s (l.take j)).flatMap fH)])
  (fun _ i _ => match i with | .int _ i' => l.length - i'.toNat | _ => 0) ⟨0, by omega, rfl, h0⟩ ?_
 clear h h0
 rintro u _ W ⟨j, hj, rfl, h⟩
 by_cases hjl : j < l.length
 ·refine Exists.elim (p := fun z => l[j]? = some z) ⟨_, List.getElem?_eq_getElem hjl⟩ fun z hz => ?_
  have sy : Seg (l.flatMap fH) (j * 11) (fH z) := flat_seg (f := fH) (fun _ => rfl) hz
  have cc1 := fun {W : World} (_ : Ext w0 W) => r_of (w := W) (f := z.1) (ht z (List.mem_of_getElem? hz))
  have hsn := ofS_snoc (s := s) hz
  have hle : (ofS s (l.take j)).length ≤ 1000 := by
   have h1 : (ofS s (l.take j)).length ≤ (l.take j).length := List.length_filter_le _ _
   rw [List.length_take] at h1
   omega
  by_cases he : z.1.tr % 8 = s
  ·rw [if_pos he] at hsn
   refine leS (hv.hp h) ?_
   refine Bn_ltT (by omega) (If_T (iaH h ‹_› (by omega) fun zb zo zk zv zc => ?_))
   refine faS (lhP h ‹_› ‹_› (by rfl) ?_)
   refine cl1 h n_ref37_of (cc1 h.ext) fun w h => ?_
   refine Bn_eqT (by omega) (If_T (iaH h ‹_› (by omega) fun zb zo zk zv zc => ?_))
   refine lhA h ‹_› ‹_› (by rfl) ?_
   refine bs1A h (by rfl) (by decide) (by rfl) (by decide) fun v1 w h => ?_
   refine apR (by rfl) (by decide) h 1 rfl (qZ 0 h rfl) (by first | rfl | assumption) (by omega) fun v2 w h => ?_
   refine Bn_ad (by omega) (by omega) ?_
   dsimp only [List.set] at h
   refine ⟨⟨j + 1, by omega, rfl, ?_⟩, by show l.length - ((j : Int) + 1).toNat < l.length - (j : Int).toNat; omega⟩
   rw [hsn, List.length_append, List.flatMap_append]
   exact h.pick [1] (by decide) rfl
  ·rw [if_neg he, List.append_nil] at hsn
   refine leS (hv.hp h) ?_
   refine Bn_ltT (by omega) (If_T (iaH h ‹_› (by omega) fun zb zo zk zv zc => ?_))
   refine faS (lhP h ‹_› ‹_› (by rfl) ?_)
   refine cl1 h n_ref37_of (cc1 h.ext) fun w h => ?_
   refine Bn_eqF (by omega) (If_F (Bn_ad (by omega) (by omega) ?_))
   refine ⟨⟨j + 1, by omega, rfl, ?_⟩, by show l.length - ((j : Int) + 1).toNat < l.length - (j : Int).toNat; omega⟩
   rw [hsn]
   exact h
 have : j = l.length := by omega
 subst this
 rw [List.take_length] at h
 refine leS (hv.hp h) ?_
 refine Bn_ltF (by omega) (If_F ?_)
 exact Ret.mk ⟨_, rfl, h⟩
theorem r_upto {l : List Hd} {n : Int} (hv : SlC w0 11 v l.length (l.flatMap fH)) (hl : l.length ≤ 1000) :
 Calls Tryz.prog 124 #[v, .int .i64 n] w0 (Ret fun r w' => ∃ u, r = u ∧ Hp [] w0 w' [ro tHd 11 u (l.filter fun y => decide (y.2 ≤ n)).length ((l.filter fun y => decide (y.2 ≤ n)).flatMap fH)]) := by
 apply e_ref37_upto
 unfold s_ref37_upto
 have h := Hp.init [] w0
 skip
 have h0 := h.nil tHd 11
 refine Lp2.mk (fun u i W => ∃ j : Nat, j ≤ l.length ∧ i = .int .i64 j ∧ Hp [] w0 W [ro tHd 11 u ((l.take j).filter fun y => decide (y.2 ≤ n)).length (((l.take j).filter fun y => decide (y.2 ≤ n)).flatMap fH)])
  (fun _ i _ => match i with | .int _ i' => l.length - i'.toNat | _ => 0) ⟨0, by omega, rfl, h0⟩ ?_
 clear h h0
 rintro u _ W ⟨j, hj, rfl, h⟩
 by_cases hjl : j < l.length
 ·refine Exists.elim (p := fun z => l[j]? = some z) ⟨_, List.getElem?_eq_getElem hjl⟩ fun z hz => ?_
  have sy : Seg (l.flatMap fH) (j * 11) (fH z) := flat_seg (f := fH) (fun _ => rfl) hz
  have hsn : (l.take (j + 1)).filter (fun y => decide (y.2 ≤ n)) = (l.take j).filter (fun y => decide (y.2 ≤ n)) ++ [z].filter (fun y => decide (y.2 ≤ n)) := by
   rw [List.take_add_one, hz, List.filter_append]; rfl
  have hle : ((l.take j).filter fun y => decide (y.2 ≤ n)).length ≤ 1000 := by
   have h1 := List.length_filter_le (fun y : Hd => decide (y.2 ≤ n)) (l.take j)
   rw [List.length_take] at h1
   omega
  by_cases he : z.2 ≤ n
  ·rw [List.filter_cons_of_pos (by simpa using he), List.filter_nil] at hsn
   refine leS (hv.hp h) ?_
   refine Bn_ltT (by omega) (If_T (iaH h ‹_› (by omega) fun zb zo zk zv zc => ?_))
   refine faS (lh1 h ‹_› ‹_› (by rfl) ?_)
   refine Bn_leT (by omega) (If_T (iaH h ‹_› (by omega) fun zb zo zk zv zc => ?_))
   refine lhA h ‹_› ‹_› (by rfl) ?_
   refine bs1A h (by rfl) (by decide) (by rfl) (by decide) fun v1 w h => ?_
   refine apR (by rfl) (by decide) h 1 rfl (qZ 0 h rfl) (by first | rfl | assumption) (by omega) fun v2 w h => ?_
   refine Bn_ad (by omega) (by omega) ?_
   dsimp only [List.set] at h
   refine ⟨⟨j + 1, by omega, rfl, ?_⟩, by show l.length - ((j : Int) + 1).toNat < l.length - (j : Int).toNat; omega⟩
   rw [hsn, List.length_append, List.flatMap_append]
   exact h.pick [1] (by decide) rfl
  ·rw [List.filter_cons_of_neg (by simpa using he), List.filter_nil, List.append_nil] at hsn
   refine leS (hv.hp h) ?_
   refine Bn_ltT (by omega) (If_T (iaH h ‹_› (by omega) fun zb zo zk zv zc => ?_))
   refine faS (lh1 h ‹_› ‹_› (by rfl) ?_)
   refine Bn_leF (by omega) (If_F (Bn_ad (by omega) (by omega) ?_))
   refine ⟨⟨j + 1, by omega, rfl, ?_⟩, by show l.length - ((j : Int) + 1).toNat < l.length - (j : Int).toNat; omega⟩
   rw [hsn]
   exact h
 have : j = l.length := by omega
 subst this
 rw [List.take_length] at h
 refine leS (hv.hp h) ?_
 refine Bn_ltF (by omega) (If_F ?_)
 exact Ret.mk ⟨_, rfl, h⟩
theorem r_equal {u : Value} {l : List Hd} (hu : SlC w0 11 u l.length (l.flatMap fH)) (hv : SlC w0 11 v l.length (l.flatMap fH)) (hl : l.length ≤ 1000000) : Calls Tryz.prog 123 #[u, v] w0 (Ret fun r w' => Ext w0 w' ∧ r = .bool true) := by
 apply e_ref37_equal
 unfold s_ref37_equal
 have h := Hp.init [] w0
 refine leS (hu.hp h) ?_
 refine leS (hv.hp h) ?_
 refine Bn_neF (by omega) (If_F (Lp1.mk (fun i W => ∃ j : Nat, j ≤ l.length ∧ i = .int .i64 j ∧ Hp [] w0 W []) (fun i _ => match i with | .int _ i' => l.length - i'.toNat | _ => 0) ⟨0, by omega, rfl, h⟩ ?_))
 clear h
 rintro _ W ⟨j, hj, rfl, h⟩
 by_cases hjl : j < l.length
 ·refine Exists.elim (p := fun y => l[j]? = some y) ⟨_, List.getElem?_eq_getElem hjl⟩ fun y hy => ?_
  have sy : Seg (l.flatMap fH) (j * 11) (fH y) := flat_seg (f := fH) (fun _ => rfl) hy
  refine leS (hu.hp h) ?_
  refine Bn_ltT (by omega) (If_T ?_)
  replace h := h.dr
  refine diH h ‹_› (by omega) fun zb zo zk zv zc => ?_
  refine dhA h ‹_› ‹_› (by rfl) ?_
  refine diH h ‹_› (by omega) fun zb zo zk zv zc => ?_
  refine dhA h ‹_› ‹_› (by rfl) ?_
  refine dneHdS ?_
  refine If_F (Bn_ad (by omega) (by omega) ?_)
  exact ⟨⟨j + 1, by omega, rfl, h⟩, by show l.length - ((j : Int) + 1).toNat < l.length - (j : Int).toNat; omega⟩
 have : j = l.length := by omega
 subst this
 refine leS (hu.hp h) ?_
 refine Bn_ltF (by omega) (If_F ?_)
 exact Ret.mk ⟨h.ext, rfl⟩
theorem r_route {l : List Int} {k : Nat} (hv : SlC w0 1 v l.length (l.flatMap fI)) (ho : Srd.OkRo k l) (hk : k ≤ 4) : Calls Tryz.prog 87 #[v, .int .i64 k] w0 (Ret fun r w' => Ext w0 w' ∧ r = .bool true) := by
 have hl := ho.len
 apply e_ref37_route
 unfold s_ref37_route
 have h := Hp.init [] w0
 skip
 refine Lp1.mk (fun i W => ∃ j : Nat, j ≤ l.length ∧ i = .int .i64 j ∧ Hp [] w0 W []) (fun i _ => match i with | .int _ i' => l.length - i'.toNat | _ => 0) ⟨0, by omega, rfl, h⟩ ?_
 clear h
 rintro _ W ⟨j, hj, rfl, h⟩
 by_cases hjl : j < l.length
 ·refine Exists.elim (p := fun y => l[j]? = some y) ⟨_, List.getElem?_eq_getElem hjl⟩ fun y hy => ?_
  have sy : Seg (l.flatMap fI) (j * 1) (fI y) := flat_seg (f := fI) (fun _ => rfl) hy
  have hb := ho.bd y (List.mem_of_getElem? hy)
  have cc1 := fun {W : World} (_ : Ext w0 W) => r_inT (w := W) (n := y) (lo := 0) (hi := (k : Int) - 1) (by omega)
  refine leS (hv.hp h) ?_
  refine Bn_ltT (by omega) (If_T (iaH h ‹_› (by omega) fun zb zo zk zv zc => ?_))
  refine lh0 h ‹_› ‹_› (by rfl) ?_
  refine Bn_su (by omega) (by omega) (cl1 h n_ref37_in (cc1 h.ext) fun w h => ?_)
  refine Un_T (If_F (Bn_ad (by omega) (by omega) ?_))
  exact ⟨⟨j + 1, by omega, rfl, h⟩, by show l.length - ((j : Int) + 1).toNat < l.length - (j : Int).toNat; omega⟩
 have : j = l.length := by omega
 subst this
 refine leS (hv.hp h) ?_
 refine Bn_ltF (by omega) (If_F (leS (hv.hp h) ?_))
 refine Bn_eqT (by omega) ?_
 exact Ret.mk ⟨h.ext, rfl⟩
end
section
variable {w0 : World} {v : Value}
set_option maxHeartbeats 4000000 in
theorem r_ordered {l : List Ft} {f : Ft} (hv : SlC w0 10 v l.length (l.flatMap fF)) (hl : l.length ≤ 1000) : Calls Tryz.prog 94 #[v, vF f] w0 (Ret fun r w' => ∃ u, r = u ∧ Hp [] w0 w' [ro tFt 10 u (insS f l).length ((insS f l).flatMap fF)]) := by
 obtain ⟨c, hc⟩ : ∃ c, c = cntP (fun g => decide (ltF g f)) l := ⟨_, rfl⟩
 have hcl : c ≤ l.length := by rw [hc]; exact Srd.cntP_le
 apply e_ref37_ordered
 unfold s_ref37_ordered
 have h := Hp.init [] w0
 refine bxA h fun g1 w h => ?_
 refine Lp1.mk (fun i W => ∃ j : Nat, j ≤ c ∧ i = .int .i64 j ∧ Hp [] w0 W [bx g1 tFt (fF f)]) (fun i _ => match i with | .int _ i' => l.length + 1 - i'.toNat | _ => 0) ⟨0, by omega, rfl, h⟩ ?_
 clear h
 rintro _ W ⟨j, hj, rfl, h⟩
 by_cases hjl : j < c
 ·refine Exists.elim (p := fun z => l[j]? = some z) ⟨_, List.getElem?_eq_getElem (by omega)⟩ fun z hz => ?_
  have sy : Seg (l.flatMap fF) (j * 10) (fF z) := flat_seg (f := fF) (fun _ => rfl) hz
  have hlt : decide (ltF z f) = true := Srd.cntP_lt (p := fun g => decide (ltF g f)) (by rw [← hc]; exact hjl) hz
  have cc1 := fun {W : World} (_ : Ext w0 W) => r_before (w := W) (f := z) (g := f)
  rw [hlt] at cc1
  replace h := h.dr
  refine dlS (hv.hp h) ?_
  refine Dv_ltT (by omega) (GdP_T (GdP_T (GdP_T (diH h ‹_› (by omega) fun zb zo zk zv zc => ?_))))
  refine GdP_T (dhA h ‹_› ‹_› (by rfl) ?_)
  refine GdP_T (dlA h 0 rfl rfl ?_)
  refine Gd_T (cl1 h n_ref37_before (cc1 h.ext) fun w h => ?_)
  refine PickP_T (If_T (Bn_ad (by omega) (by omega) ?_))
  exact ⟨⟨j + 1, by omega, rfl, h⟩, by show l.length + 1 - ((j : Int) + 1).toNat < l.length + 1 - (j : Int).toNat; omega⟩
 have hjc : j = c := by omega
 subst hjc
 have hins := Srd.insS_cut f l
 rw [← hc] at hins
 have e1 : (insS f l).length = 0 + j + 1 + (l.length - j) := by rw [hins, List.length_append, List.length_cons, List.length_take, List.length_drop]; omega
 have e2 : (insS f l).flatMap fF = [] ++ (l.flatMap fF).take (j * 10) ++ fF f ++ (l.flatMap fF).drop (j * 10) := by
  rw [List.nil_append, hins, List.flatMap_append, List.flatMap_cons, flat_take (f := fF) (c := 10) (fun _ => rfl), flat_drop (f := fF) (c := 10) (fun _ => rfl), List.append_assoc]
 have ha1 : (((l.flatMap fF).take (j * 10)).all fun x => x.oneCell') = true := by rw [flat_take (f := fF) (c := 10) (fun _ => rfl)]; exact one_fF _
 have ha2 : (((l.flatMap fF).drop (j * 10)).all fun x => x.oneCell') = true := by rw [flat_drop (f := fF) (c := 10) (fun _ => rfl)]; exact one_fF _
 rw [e1, e2]
 by_cases hjl2 : j < l.length
 ·refine Exists.elim (p := fun z => l[j]? = some z) ⟨_, List.getElem?_eq_getElem hjl2⟩ fun z hz => ?_
  have sy : Seg (l.flatMap fF) (j * 10) (fF z) := flat_seg (f := fF) (fun _ => rfl) hz
  have hlt : decide (ltF z f) = false := Srd.cntP_end (p := fun g => decide (ltF g f)) (by rw [← hc]; exact hz)
  have cc1 := fun {W : World} (_ : Ext w0 W) => r_before (w := W) (f := z) (g := f)
  rw [hlt] at cc1
  replace h := h.dr
  refine dlS (hv.hp h) ?_
  refine Dv_ltT (by omega) (GdP_T (GdP_T (GdP_T (diH h ‹_› (by omega) fun zb zo zk zv zc => ?_))))
  refine GdP_T (dhA h ‹_› ‹_› (by rfl) ?_)
  refine GdP_T (dlA h 0 rfl rfl ?_)
  refine Gd_T (cl1 h n_ref37_before (cc1 h.ext) fun w h => ?_)
  refine PickP_T (If_F (bs0 h fun v1 w h => ?_))
  refine scHn (hv.hp h) (by omega) fun v2 p1 => ?_
  refine apR (by rfl) (by decide) h 0 rfl (p1.2 _ (hv.hp h)) (by first | rfl | assumption) (by omega) fun v3 w h => ?_
  refine ldA h 1 rfl rfl ?_
  refine bs1A h (by rfl) (by decide) (by rfl) (by decide) fun v4 w h => ?_
  refine apR (by rfl) (by decide) h 1 rfl (qZ 0 h rfl) (by first | rfl | assumption) (by omega) fun v5 w h => ?_
  refine scLn (hv.hp h) (by omega) fun v6 p2 => ?_
  refine apR (by rfl) (by decide) h 1 rfl (p2.2 _ (hv.hp h)) (by first | rfl | assumption) (by omega) fun v7 w h => ?_
  dsimp only [List.set] at h
  exact Ret.mk ⟨_, rfl, h.pick [1] (by decide) rfl⟩
 ·replace h := h.dr
  refine dlS (hv.hp h) ?_
  refine Dv_ltF (by omega) (GdP_FT (GdP_FT (GdP_FT (GdP_FT (GdP_FT (Gd_FT (PickP_F (If_F (bs0 h fun v1 w h => ?_)))))))))
  refine scHn (hv.hp h) (by omega) fun v2 p1 => ?_
  refine apR (by rfl) (by decide) h 0 rfl (p1.2 _ (hv.hp h)) (by first | rfl | assumption) (by omega) fun v3 w h => ?_
  refine ldA h 1 rfl rfl ?_
  refine bs1A h (by rfl) (by decide) (by rfl) (by decide) fun v4 w h => ?_
  refine apR (by rfl) (by decide) h 1 rfl (qZ 0 h rfl) (by first | rfl | assumption) (by omega) fun v5 w h => ?_
  refine scLn (hv.hp h) (by omega) fun v6 p2 => ?_
  refine apR (by rfl) (by decide) h 1 rfl (p2.2 _ (hv.hp h)) (by first | rfl | assumption) (by omega) fun v7 w h => ?_
  dsimp only [List.set] at h
  exact Ret.mk ⟨_, rfl, h.pick [1] (by decide) rfl⟩
set_option maxHeartbeats 4000000 in
theorem r_inserted {l : List Hd} {f : Hd} (hv : SlC w0 11 v l.length (l.flatMap fH)) (hl : l.length ≤ 1000) : Calls Tryz.prog 96 #[v, vH f] w0 (Ret fun r w' => ∃ u, r = u ∧ Hp [] w0 w' [ro tHd 11 u (insN f l).length ((insN f l).flatMap fH)]) := by
 obtain ⟨c, hc⟩ : ∃ c, c = cntL (·.2) f.2 l := ⟨_, rfl⟩
 have hc' : c = cntP (fun y : Hd => decide (y.2 < f.2)) l := hc
 have hcl : c ≤ l.length := by rw [hc]; exact Srd.cnt_le
 apply e_ref37_inserted
 unfold s_ref37_inserted
 have h := Hp.init [] w0
 refine bxA h fun g1 w h => ?_
 refine Lp1.mk (fun i W => ∃ j : Nat, j ≤ c ∧ i = .int .i64 j ∧ Hp [] w0 W [bx g1 tHd (fH f)]) (fun i _ => match i with | .int _ i' => l.length + 1 - i'.toNat | _ => 0) ⟨0, by omega, rfl, h⟩ ?_
 clear h
 rintro _ W ⟨j, hj, rfl, h⟩
 by_cases hjl : j < c
 ·refine Exists.elim (p := fun z => l[j]? = some z) ⟨_, List.getElem?_eq_getElem (by omega)⟩ fun z hz => ?_
  have sy : Seg (l.flatMap fH) (j * 11) (fH z) := flat_seg (f := fH) (fun _ => rfl) hz
  have hlt : z.2 < f.2 := of_decide_eq_true (Srd.cntP_lt (p := fun y : Hd => decide (y.2 < f.2)) (by rw [← hc']; exact hjl) hz)
  replace h := h.dr
  refine dlS (hv.hp h) ?_
  refine Dv_ltT (by omega) (GdP_T (GdP_T (GdP_T (diH h ‹_› (by omega) fun zb zo zk zv zc => ?_))))
  refine GdP_T (dfS (GdP_T (dh1 h ‹_› ‹_› (by rfl) ?_)))
  refine GdP_T (dfS (GdP_T (dl1 h 0 rfl rfl (GdP_T (Dv_ltT (by omega) (PickP_T (If_T (Bn_ad (by omega) (by omega) ?_))))))))
  exact ⟨⟨j + 1, by omega, rfl, h⟩, by show l.length + 1 - ((j : Int) + 1).toNat < l.length + 1 - (j : Int).toNat; omega⟩
 have hjc : j = c := by omega
 subst hjc
 have hins := Srd.insN_cut f l
 rw [← hc] at hins
 have e1 : (insN f l).length = 0 + j + 1 + (l.length - j) := by rw [hins, List.length_append, List.length_cons, List.length_take, List.length_drop]; omega
 have e2 : (insN f l).flatMap fH = [] ++ (l.flatMap fH).take (j * 11) ++ fH f ++ (l.flatMap fH).drop (j * 11) := by
  rw [List.nil_append, hins, List.flatMap_append, List.flatMap_cons, flat_take (f := fH) (c := 11) (fun _ => rfl), flat_drop (f := fH) (c := 11) (fun _ => rfl), List.append_assoc]
 have ha1 : (((l.flatMap fH).take (j * 11)).all fun x => x.oneCell') = true := by rw [flat_take (f := fH) (c := 11) (fun _ => rfl)]; exact one_fH _
 have ha2 : (((l.flatMap fH).drop (j * 11)).all fun x => x.oneCell') = true := by rw [flat_drop (f := fH) (c := 11) (fun _ => rfl)]; exact one_fH _
 rw [e1, e2]
 by_cases hjl2 : j < l.length
 ·refine Exists.elim (p := fun z => l[j]? = some z) ⟨_, List.getElem?_eq_getElem hjl2⟩ fun z hz => ?_
  have sy : Seg (l.flatMap fH) (j * 11) (fH z) := flat_seg (f := fH) (fun _ => rfl) hz
  have hlt : ¬ z.2 < f.2 := of_decide_eq_false (Srd.cntP_end (p := fun y : Hd => decide (y.2 < f.2)) (by rw [← hc']; exact hz))
  replace h := h.dr
  refine dlS (hv.hp h) ?_
  refine Dv_ltT (by omega) (GdP_T (GdP_T (GdP_T (diH h ‹_› (by omega) fun zb zo zk zv zc => ?_))))
  refine GdP_T (dfS (GdP_T (dh1 h ‹_› ‹_› (by rfl) ?_)))
  refine GdP_T (dfS (GdP_T (dl1 h 0 rfl rfl (GdP_T (Dv_ltF (by omega) (PickP_T (If_F (bs0 h fun v1 w h => ?_))))))))
  refine scHn (hv.hp h) (by omega) fun v2 p1 => ?_
  refine apR (by rfl) (by decide) h 0 rfl (p1.2 _ (hv.hp h)) (by first | rfl | assumption) (by omega) fun v3 w h => ?_
  refine ldA h 1 rfl rfl ?_
  refine bs1A h (by rfl) (by decide) (by rfl) (by decide) fun v4 w h => ?_
  refine apR (by rfl) (by decide) h 1 rfl (qZ 0 h rfl) (by first | rfl | assumption) (by omega) fun v5 w h => ?_
  refine scLn (hv.hp h) (by omega) fun v6 p2 => ?_
  refine apR (by rfl) (by decide) h 1 rfl (p2.2 _ (hv.hp h)) (by first | rfl | assumption) (by omega) fun v7 w h => ?_
  dsimp only [List.set] at h
  exact Ret.mk ⟨_, rfl, h.pick [1] (by decide) rfl⟩
 ·replace h := h.dr
  refine dlS (hv.hp h) ?_
  refine Dv_ltF (by omega) (GdP_FT (GdP_FT (GdP_FT (GdP_FT (GdP_FT (GdP_FT (GdP_FT (GdP_FT (PickP_F (If_F (bs0 h fun v1 w h => ?_)))))))))))
  refine scHn (hv.hp h) (by omega) fun v2 p1 => ?_
  refine apR (by rfl) (by decide) h 0 rfl (p1.2 _ (hv.hp h)) (by first | rfl | assumption) (by omega) fun v3 w h => ?_
  refine ldA h 1 rfl rfl ?_
  refine bs1A h (by rfl) (by decide) (by rfl) (by decide) fun v4 w h => ?_
  refine apR (by rfl) (by decide) h 1 rfl (qZ 0 h rfl) (by first | rfl | assumption) (by omega) fun v5 w h => ?_
  refine scLn (hv.hp h) (by omega) fun v6 p2 => ?_
  refine apR (by rfl) (by decide) h 1 rfl (p2.2 _ (hv.hp h)) (by first | rfl | assumption) (by omega) fun v7 w h => ?_
  dsimp only [List.set] at h
  exact Ret.mk ⟨_, rfl, h.pick [1] (by decide) rfl⟩
set_option maxHeartbeats 4000000 in
theorem r_without {l : List Hd} {s : Int} {m : Nat} (hv : SlC w0 11 v l.length (l.flatMap fH)) (hl : l.length ≤ 1000) (ht : ∀ x ∈ l, 0 ≤ x.1.tr ∧ x.1.tr ≤ 999) (hm : m ≤ 1000000) :
 Calls Tryz.prog 97 #[v, .int .i64 s, .int .i64 m] w0 (Ret fun r w' => ∃ u, r = u ∧ Hp [] w0 w' [ro tHd 11 u (delN s m l).length ((delN s m l).flatMap fH)]) := by
 have hlen : ∀ j, (delN s m (l.take j)).length ≤ 1000 := fun j => by
  have := delN_len (s := s) (m := m) (l := l.take j)
  rw [List.length_take] at this
  omega
 apply e_ref37_without
 unfold s_ref37_without
 have h := Hp.init [] w0
 skip
 have h0 := h.nil tHd 11
 refine Lp3.mk (fun u n i W => ∃ j : Nat, j ≤ l.length ∧ i = .int .i64 j ∧ n = .int .i64 ((m - Srd.stD s m l j : Nat) : Int) ∧ Hp [] w0 W [ro tHd 11 u (delN s m (l.take j)).length ((delN s m (l.take j)).flatMap fH)])
  (fun _ _ i _ => match i with | .int _ i' => l.length - i'.toNat | _ => 0) ⟨0, by omega, rfl, by cases l <;> simp [Srd.stD], by rw [List.take_zero, Srd.delN_nil]; exact h0⟩ ?_
 clear h h0
 rintro u _ _ W ⟨j, hj, rfl, rfl, h⟩
 have hsl := Srd.stD_le (s := s) (m := m) (l := l) (j := j)
 by_cases hjl : j < l.length
 ·refine Exists.elim (p := fun z => l[j]? = some z) ⟨_, List.getElem?_eq_getElem hjl⟩ fun z hz => ?_
  have sy : Seg (l.flatMap fH) (j * 11) (fH z) := flat_seg (f := fH) (fun _ => rfl) hz
  have cc1 := fun {W : World} (_ : Ext w0 W) => r_of (w := W) (f := z.1) (ht z (List.mem_of_getElem? hz))
  have hsn := Srd.delN_snoc (s := s) (m := m) hz
  have hst := (Srd.delB_at (s := s) (m := m) hz).2
  have hle := hlen j
  obtain ⟨q, hq⟩ : ∃ q, q = Srd.stD s m l j := ⟨_, rfl⟩
  rw [← hq] at hsn hst hsl ⊢
  by_cases he : z.1.tr % 8 = s
  ·by_cases h0 : q = 0
   ·rw [if_neg (fun hc => hc.2 h0)] at hsn hst
    refine leS (hv.hp h) ?_
    refine Bn_ltT (by omega) (If_T (iaH h ‹_› (by omega) fun zb zo zk zv zc => ?_))
    refine faS (lhP h ‹_› ‹_› (by rfl) ?_)
    refine cl1 h n_ref37_of (cc1 h.ext) fun w h => ?_
    refine Bn_eqT (by omega) (Gd_T (Gd_T (Gd_T (Bn_ltF (by omega) (Pick_T (If_F (iaH h ‹_› (by omega) fun zb zo zk zv zc => ?_)))))))
    refine lhA h ‹_› ‹_› (by rfl) ?_
    refine bs1A h (by rfl) (by decide) (by rfl) (by decide) fun v1 w h => ?_
    refine apR (by rfl) (by decide) h 1 rfl (qZ 0 h rfl) (by first | rfl | assumption) (by omega) fun v2 w h => ?_
    refine Bn_ad (by omega) (by omega) ?_
    dsimp only [List.set] at h
    refine ⟨⟨j + 1, by omega, rfl, by rw [hst], ?_⟩, by show l.length - ((j : Int) + 1).toNat < l.length - (j : Int).toNat; omega⟩
    rw [hsn, List.length_append, List.flatMap_append]
    exact h.pick [1] (by decide) rfl
   ·rw [if_pos ⟨he, h0⟩] at hsn hst
    rw [List.append_nil] at hsn
    refine leS (hv.hp h) ?_
    refine Bn_ltT (by omega) (If_T (iaH h ‹_› (by omega) fun zb zo zk zv zc => ?_))
    refine faS (lhP h ‹_› ‹_› (by rfl) ?_)
    refine cl1 h n_ref37_of (cc1 h.ext) fun w h => ?_
    refine Bn_eqT (by omega) (Gd_T (Gd_T (Gd_T (Bn_ltT (by omega) (Pick_T (If_T (Bn_ad (by omega) (by omega) (Bn_ad (by omega) (by omega) ?_))))))))
    refine ⟨⟨j + 1, by omega, rfl, ?_, ?_⟩, by show l.length - ((j : Int) + 1).toNat < l.length - (j : Int).toNat; omega⟩
    ·rw [hst]; congr 1; omega
    ·rw [hsn]; exact h
  ·rw [if_neg (fun hc => he hc.1)] at hsn hst
   refine leS (hv.hp h) ?_
   refine Bn_ltT (by omega) (If_T (iaH h ‹_› (by omega) fun zb zo zk zv zc => ?_))
   refine faS (lhP h ‹_› ‹_› (by rfl) ?_)
   refine cl1 h n_ref37_of (cc1 h.ext) fun w h => ?_
   refine Bn_eqF (by omega) (Gd_FT (Gd_FT (Gd_FT (Pick_F (If_F (iaH h ‹_› (by omega) fun zb zo zk zv zc => ?_))))))
   refine lhA h ‹_› ‹_› (by rfl) ?_
   refine bs1A h (by rfl) (by decide) (by rfl) (by decide) fun v1 w h => ?_
   refine apR (by rfl) (by decide) h 1 rfl (qZ 0 h rfl) (by first | rfl | assumption) (by omega) fun v2 w h => ?_
   refine Bn_ad (by omega) (by omega) ?_
   dsimp only [List.set] at h
   refine ⟨⟨j + 1, by omega, rfl, by rw [hst], ?_⟩, by show l.length - ((j : Int) + 1).toNat < l.length - (j : Int).toNat; omega⟩
   rw [hsn, List.length_append, List.flatMap_append]
   exact h.pick [1] (by decide) rfl
 have : j = l.length := by omega
 subst this
 rw [List.take_length] at h
 refine leS (hv.hp h) ?_
 refine Bn_ltF (by omega) (If_F ?_)
 exact Ret.mk ⟨_, rfl, h⟩
end
section
variable {w0 : World} {x : Sx} {a : Ab} (hR : ShR w0 x a) (hO : Srd.Ok a)
include hR hO
set_option maxHeartbeats 8000000 in
theorem r_owned : Calls Tryz.prog 122 #[vSh x a] w0 (Ret fun r w' => ∃ u, r = u ∧ Hp [] w0 w' [ro tHd 11 u a.A.length ((Srd.all a).flatMap fH)]) := by
 have hk := hO.k
 have hnA := hO.nA
 have hsv := hR.st
 have hrv := hR.ro
 have hrl := hO.ro.len
 have hone := hR.one
 have hal := Srd.all_len a
 apply e_ref37_owned
 unfold s_ref37_owned
 have h := Hp.init [] w0
 refine bxA h fun g1 w h => ?_
 have h0 := h.nil tHd 11
 refine Lp2.mk (fun u i W => ∃ n : Nat, n ≤ a.A.length ∧ i = .int .i64 n ∧ Hp [] w0 W [ro tHd 11 u ((Srd.all a).take n).length (((Srd.all a).take n).flatMap fH), bx g1 tSh (cS x a)])
  (fun _ i _ => match i with | .int _ i' => a.A.length - i'.toNat | _ => 0) ⟨0, by omega, rfl, h0⟩ ?_
 clear h h0
 rintro u _ W ⟨n, hn, rfl, h⟩
 by_cases hnl : n < a.A.length
 rotate_left
 ·have : n = a.A.length := by omega
  subst this
  rw [← hal, List.take_length, hal] at h
  refine faS (ld1 h 1 rfl rfl (Bn_ltF (by omega) (If_F ?_)))
  exact Ret.mk ⟨_, rfl, h.pick [0] (by decide) rfl⟩
 refine faS (ld1 h 1 rfl rfl (Bn_ltT (by omega) (If_T ?_)))
 rw [← Srd.ownL_0 hO n] at h
 refine Lp2.mk (fun u i W => ∃ k' : Nat, k' ≤ a.k ∧ i = .int .i64 k' ∧ Hp [] w0 W [ro tHd 11 u (Srd.ownL a n k' []).length ((Srd.ownL a n k' []).flatMap fH), bx g1 tSh (cS x a)])
  (fun _ i _ => match i with | .int _ i' => a.k - i'.toNat | _ => 0) ⟨0, by omega, rfl, h⟩ ?_
 clear h
 rintro u _ W ⟨i, hi, rfl, h⟩
 by_cases hik : i < a.k
 rotate_left
 ·have : i = a.k := by omega
  subst this
  rw [Srd.ownL_k hO] at h
  refine faS (ld1 h 1 rfl rfl (leS (hsv.hp h) ?_))
  refine Bn_ltF (by omega) (If_F (Bn_ad (by omega) (by omega) ?_))
  exact ⟨⟨n + 1, by omega, rfl, h⟩, by show a.A.length - ((n : Int) + 1).toNat < a.A.length - (n : Int).toNat; omega⟩
 refine Exists.elim (hR.at hik) fun v hv => ?_
 have hvi := hv.2
 have sv : Seg (x.ls.flatMap fV) (i * 1) (fV v) := flat_seg (f := fV) (fun _ => rfl) hv.1
 have hsl : (Srd.store a i).length ≤ 400 := Nat.le_trans (Srd.store_len a i) hnA
 refine faS (ld1 h 1 rfl rfl (leS (hsv.hp h) ?_))
 refine Bn_ltT (by omega) (If_T ?_)
 refine Lp2.mk (fun u k W => ∃ j : Nat, j ≤ (Srd.store a i).length ∧ k = .int .i64 j ∧ Hp [] w0 W [ro tHd 11 u (Srd.ownL a n i ((Srd.store a i).take j)).length ((Srd.ownL a n i ((Srd.store a i).take j)).flatMap fH), bx g1 tSh (cS x a)])
  (fun _ i' _ => match i' with | .int _ i' => (Srd.store a i).length - i'.toNat | _ => 0) ⟨0, by omega, rfl, h⟩ ?_
 clear h
 rintro u _ W ⟨j, hj, rfl, h⟩
 by_cases hjl : j < (Srd.store a i).length
 rotate_left
 ·have : j = (Srd.store a i).length := by omega
  subst this
  rw [List.take_length, Srd.ownL_end] at h
  refine faS (ld1 h 1 rfl rfl (iaH h ‹_› (by omega) fun zb zo zk zv zc => ?_))
  refine lh0 h ‹_› ‹_› (by rfl) ?_
  refine leS (hvi.hp h) ?_
  refine Bn_ltF (by omega) (If_F (Bn_ad (by omega) (by omega) ?_))
  exact ⟨⟨i + 1, by omega, rfl, h⟩, by show a.k - ((i : Int) + 1).toNat < a.k - (i : Int).toNat; omega⟩
 refine Exists.elim (p := fun y => (Srd.store a i)[j]? = some y) ⟨_, List.getElem?_eq_getElem hjl⟩ fun y hy => ?_
 have sy : Seg ((Srd.store a i).flatMap fH) (j * 11) (fH y) := flat_seg (f := fH) (fun _ => rfl) hy
 have hyo := Srd.store_mem (List.mem_of_getElem? hy)
 have hvf := hO.vf _ (Srd.all_mem hyo.1).1
 have hb2 := (Srd.all_mem hyo.1).2
 have sr : Seg (a.ro.flatMap fI) ((y.1.tr % 8).toNat * 1) (fI (Srd.roAt a.ro (y.1.tr % 8))) := ro_seg hO (Srd.slot_bd hvf) hrl
 have cc4 := fun {W : World} (_ : Ext w0 W) => r_of (w := W) (f := y.1) hvf.1
 have hsn := Srd.ownL_snoc (n := n) hy
 have hle : (Srd.ownL a n i ((Srd.store a i).take j)).length ≤ 401 := by have := Srd.ownL_len (a := a) (n := n) (i := i) (T := (Srd.store a i).take j); omega
 by_cases h1 : y.2 = n
 ·by_cases h2 : Srd.roAt a.ro (y.1.tr % 8) = i
  ·rw [if_pos ⟨h1, h2⟩] at hsn
   refine faS (ld1 h 1 rfl rfl (iaH h ‹_› (by omega) fun zb zo zk zv zc => ?_))
   refine lh0 h ‹_› ‹_› (by rfl) ?_
   refine leS (hvi.hp h) ?_
   refine Bn_ltT (by omega) (If_T (faS (ld1 h 1 rfl rfl (iaH h ‹_› (by omega) fun zb zo zk zv zc => ?_))))
   refine lh0 h ‹_› ‹_› (by rfl) ?_
   refine iaH h ‹_› (by omega) fun zb zo zk zv zc => ?_
   refine lhA h ‹_› ‹_› (by rfl) ?_
   refine alS h fun g2 w h => ?_
   refine stA h 0 rfl rfl rfl rfl fun w h => ?_
   replace h := h.dr
   refine dfS (dl1 h 0 rfl rfl (Dv_eqT (by omega) (GdP_T (dfS (GdP_T (dl1 h 2 rfl rfl (GdP_T (dfS (GdP_T (dlA h 0 rfl rfl ?_))))))))))
   refine GdP_T (Gd_T (cl1 h n_ref37_of (cc4 h.ext) fun w h => ?_))
   refine Kg_T ?_
   refine kl1 h 2 rfl rfl (GdP_T (diHz h ‹_› (by omega) (by omega) fun zb zo zk zv zc => ?_))
   refine GdP_T (dh0 h ‹_› ‹_› (by rfl) ?_)
   refine GdP_T (Dv_eqT (by omega) (PickP_T (If_T (ldA h 0 rfl rfl ?_))))
   refine bs1A h (by rfl) (by decide) (by rfl) (by decide) fun v1 w h => ?_
   refine apR (by rfl) (by decide) h 2 rfl (qZ 0 h rfl) (by first | rfl | assumption) (by omega) fun v2 w h => ?_
   refine Bn_ad (by omega) (by omega) ?_
   dsimp only [List.set] at h
   refine ⟨⟨j + 1, by omega, rfl, ?_⟩, by show (Srd.store a i).length - ((j : Int) + 1).toNat < (Srd.store a i).length - (j : Int).toNat; omega⟩
   rw [hsn, List.length_append, List.flatMap_append]
   exact h.pick [2, 3] (by decide) rfl
  ·rw [if_neg (fun hc => h2 hc.2), List.append_nil] at hsn
   refine faS (ld1 h 1 rfl rfl (iaH h ‹_› (by omega) fun zb zo zk zv zc => ?_))
   refine lh0 h ‹_› ‹_› (by rfl) ?_
   refine leS (hvi.hp h) ?_
   refine Bn_ltT (by omega) (If_T (faS (ld1 h 1 rfl rfl (iaH h ‹_› (by omega) fun zb zo zk zv zc => ?_))))
   refine lh0 h ‹_› ‹_› (by rfl) ?_
   refine iaH h ‹_› (by omega) fun zb zo zk zv zc => ?_
   refine lhA h ‹_› ‹_› (by rfl) ?_
   refine alS h fun g2 w h => ?_
   refine stA h 0 rfl rfl rfl rfl fun w h => ?_
   replace h := h.dr
   refine dfS (dl1 h 0 rfl rfl (Dv_eqT (by omega) (GdP_T (dfS (GdP_T (dl1 h 2 rfl rfl (GdP_T (dfS (GdP_T (dlA h 0 rfl rfl ?_))))))))))
   refine GdP_T (Gd_T (cl1 h n_ref37_of (cc4 h.ext) fun w h => ?_))
   refine Kg_T ?_
   refine kl1 h 2 rfl rfl (GdP_T (diHz h ‹_› (by omega) (by omega) fun zb zo zk zv zc => ?_))
   refine GdP_T (dh0 h ‹_› ‹_› (by rfl) ?_)
   refine GdP_T (Dv_eqF (by omega) (PickP_T (If_F (Bn_ad (by omega) (by omega) ?_))))
   dsimp only [List.set] at h
   refine ⟨⟨j + 1, by omega, rfl, ?_⟩, by show (Srd.store a i).length - ((j : Int) + 1).toNat < (Srd.store a i).length - (j : Int).toNat; omega⟩
   rw [hsn]
   exact h.drop 1
 ·rw [if_neg (fun hc => h1 hc.1), List.append_nil] at hsn
  refine faS (ld1 h 1 rfl rfl (iaH h ‹_› (by omega) fun zb zo zk zv zc => ?_))
  refine lh0 h ‹_› ‹_› (by rfl) ?_
  refine leS (hvi.hp h) ?_
  refine Bn_ltT (by omega) (If_T (faS (ld1 h 1 rfl rfl (iaH h ‹_› (by omega) fun zb zo zk zv zc => ?_))))
  refine lh0 h ‹_› ‹_› (by rfl) ?_
  refine iaH h ‹_› (by omega) fun zb zo zk zv zc => ?_
  refine lhA h ‹_› ‹_› (by rfl) ?_
  refine alS h fun g2 w h => ?_
  refine stA h 0 rfl rfl rfl rfl fun w h => ?_
  replace h := h.dr
  refine dfS (dl1 h 0 rfl rfl (Dv_eqF (by omega) (GdP_FT (GdP_FT (GdP_FT (GdP_FT (GdP_FT (Gd_FT (Kg_FT ?_)))))))))
  refine GdP_FT (GdP_FT (GdP_FT (PickP_F (If_F (Bn_ad (by omega) (by omega) ?_)))))
  dsimp only [List.set] at h
  refine ⟨⟨j + 1, by omega, rfl, ?_⟩, by show (Srd.store a i).length - ((j : Int) + 1).toNat < (Srd.store a i).length - (j : Int).toNat; omega⟩
  rw [hsn]
  exact h.drop 1
set_option maxHeartbeats 8000000 in
theorem r_stores : Calls Tryz.prog 88 #[vSh x a] w0 (Ret fun r w' => Ext w0 w' ∧ r = .bool true) := by
 have hk := hO.k
 have hnA := hO.nA
 have hsv := hR.st
 have hone := hR.one
 have hal := Srd.all_len a
 have cr1 := fun {W : World} (e : Ext w0 W) => r_owned (w0 := W) (hR.ext e) hO
 have cc3 := fun {W : World} {n lo hi : Int} (_ : Ext w0 W) (h : lo ≤ n ∧ n ≤ hi) => r_inT (w := W) h
 apply e_ref37_stores
 unfold s_ref37_stores
 have h := Hp.init [] w0
 refine bxA h fun g1 w h => ?_
 refine Lp1.mk (fun i W => ∃ n : Nat, n ≤ a.k ∧ i = .int .i64 n ∧ Hp [] w0 W [bx g1 tSh (cS x a)]) (fun i _ => match i with | .int _ i' => a.k - i'.toNat | _ => 0) ⟨0, by omega, rfl, h⟩ ?_
 clear h
 rintro _ W ⟨i, hi, rfl, h⟩
 by_cases hik : i < a.k
 ·refine Exists.elim (hR.at hik) fun v hv => ?_
  have hvi := hv.2
  have sv : Seg (x.ls.flatMap fV) (i * 1) (fV v) := flat_seg (f := fV) (fun _ => rfl) hv.1
  have hsl : (Srd.store a i).length ≤ 400 := Nat.le_trans (Srd.store_len a i) hnA
  refine faS (ld1 h 0 rfl rfl (leS (hsv.hp h) ?_))
  refine Bn_ltT (by omega) (If_T (faS (ld1 h 0 rfl rfl (iaH h ‹_› (by omega) fun zb zo zk zv zc => ?_))))
  refine lh0 h ‹_› ‹_› (by rfl) ?_
  refine Lp1.mk (fun k W => ∃ j : Nat, j ≤ (Srd.store a i).length ∧ k = .int .i64 j ∧ Hp [] w0 W [bx g1 tSh (cS x a)]) (fun i' _ => match i' with | .int _ i' => (Srd.store a i).length - i'.toNat | _ => 0) ⟨0, by omega, rfl, h⟩ ?_
  clear h
  rintro _ W ⟨j, hj, rfl, h⟩
  by_cases hjl : j < (Srd.store a i).length
  rotate_left
  ·refine leS (hvi.hp h) ?_
   refine Bn_ltF (by omega) (If_F (Bn_ad (by omega) (by omega) ?_))
   exact ⟨⟨i + 1, by omega, rfl, h⟩, by show a.k - ((i : Int) + 1).toNat < a.k - (i : Int).toNat; omega⟩
  refine Exists.elim (p := fun y => (Srd.store a i)[j]? = some y) ⟨_, List.getElem?_eq_getElem hjl⟩ fun y hy => ?_
  have sy : Seg ((Srd.store a i).flatMap fH) (j * 11) (fH y) := flat_seg (f := fH) (fun _ => rfl) hy
  have hyo := Srd.store_mem (List.mem_of_getElem? hy)
  have hvf := hO.vf _ (Srd.all_mem hyo.1).1
  have hb2 := (Srd.all_mem hyo.1).2
  have hin : 0 ≤ y.2 ∧ y.2 ≤ (a.A.length : Int) - 1 := by omega
  have cc4 := fun {W : World} (_ : Ext w0 W) => r_VF (w := W) (f := y.1) hvf
  have hno := Srd.store_new hO hy
  have hsub : ∀ {w : World} {u : Value}, SlC w 11 u j (((Srd.store a i).flatMap fH).take (j * 11)) → SlC w 11 u ((Srd.store a i).take j).length (((Srd.store a i).take j).flatMap fH) := fun {w u} hs => by
   rw [flat_take (f := fH) (c := 11) (fun _ => rfl)] at hs
   rw [List.length_take, Nat.min_eq_left hj]
   exact hs
  have hpr : ∀ j' : Nat, j' + 1 = j → ∃ u, (Srd.store a i)[j']? = some u ∧ u.2 < y.2 := fun j' hj' => by
   have h1 : j' < (Srd.store a i).length := by omega
   refine ⟨_, List.getElem?_eq_getElem h1, ?_⟩
   have h2 := List.pairwise_iff_getElem.1 (Srd.store_asc a i) j' j h1 hjl (by omega)
   rwa [(List.getElem?_eq_some_iff.1 hy).2] at h2
  have cch := fun {W : World} {u : Value} (_ : Ext w0 W) (hs : SlC W 11 u j (((Srd.store a i).flatMap fH).take (j * 11))) => r_has (w0 := W) (l := (Srd.store a i).take j) (f := y.1) (b := false) (hsub hs) (by rw [List.length_take]; omega) ⟨fun h => (by cases h), fun ⟨z, hz, hs⟩ => absurd hs (hno z hz)⟩
  by_cases hj0 : j = 0
  ·refine leS (hvi.hp h) ?_
   refine Bn_ltT (by omega) (If_T ?_)
   replace h := h.dr
   refine diH h ‹_› (by omega) fun zb zo zk zv zc => ?_
   refine dfS (dhP h ‹_› ‹_› (by rfl) ?_)
   refine cl1 h n_ref14_ValidFact (cc4 h.ext) fun w h => ?_
   refine Dv_nT (GdP_F (GdP_F (GdP_F (diH h ‹_› (by omega) fun zb zo zk zv zc => ?_))))
   refine GdP_F (dfS (GdP_F (dh1 h ‹_› ‹_› (by rfl) ?_)))
   refine GdP_F (dfS (GdP_F (dl1 h 0 rfl rfl (GdP_F (Dv_su (by omega) (by omega) (Gd_F (cl1 h n_ref37_in (cc3 h.ext ‹_›) fun w h => ?_)))))))
   refine GdP_F (Dv_nT (PickP_F (GdP_F (GdP_F (Dv_gtF (by omega) (GdP_F (GdP_FT (GdP_FT (GdP_FT (GdP_FT (GdP_FT (GdP_FT (GdP_FT (GdP_FT (GdP_FT (GdP_FT (GdP_FT (GdP_FT (GdP_F (PickP_F (PickP_F (GdP_F (GdP_F (GdP_F (dscH (hvi.hp h) (by omega) fun v1 p1 => ?_)))))))))))))))))))))))))
   refine GdP_F (GdP_F (GdP_F (diH h ‹_› (by omega) fun zb zo zk zv zc => ?_)))
   refine GdP_F (dfS (GdP_F (dhP h ‹_› ‹_› (by rfl) ?_)))
   refine Gd_F (cl1 h n_ref37_has (cch h.ext (by first | exact (p1.2 _ (hvi.hp h)) | assumption)) fun w h => ?_)
   refine PickP_F (If_F (Bn_ad (by omega) (by omega) ?_))
   exact ⟨⟨j + 1, by omega, rfl, h⟩, by show (Srd.store a i).length - ((j : Int) + 1).toNat < (Srd.store a i).length - (j : Int).toNat; omega⟩
  ·refine Exists.elim (hpr (j - 1) (by omega)) fun u hu => ?_
   have su : Seg ((Srd.store a i).flatMap fH) (((j : Int) - 1).toNat * 11) (fH u) := by
    rw [show ((j : Int) - 1).toNat = j - 1 by omega]
    exact flat_seg (f := fH) (fun _ => rfl) hu.1
   have hlt := hu.2
   refine leS (hvi.hp h) ?_
   refine Bn_ltT (by omega) (If_T ?_)
   replace h := h.dr
   refine diH h ‹_› (by omega) fun zb zo zk zv zc => ?_
   refine dfS (dhP h ‹_› ‹_› (by rfl) ?_)
   refine cl1 h n_ref14_ValidFact (cc4 h.ext) fun w h => ?_
   refine Dv_nT (GdP_F (GdP_F (GdP_F (diH h ‹_› (by omega) fun zb zo zk zv zc => ?_))))
   refine GdP_F (dfS (GdP_F (dh1 h ‹_› ‹_› (by rfl) ?_)))
   refine GdP_F (dfS (GdP_F (dl1 h 0 rfl rfl (GdP_F (Dv_su (by omega) (by omega) (Gd_F (cl1 h n_ref37_in (cc3 h.ext ‹_›) fun w h => ?_)))))))
   refine GdP_F (Dv_nT (PickP_F (GdP_F (GdP_F (Dv_gtT (by omega) (GdP_F (GdP_T (GdP_T (GdP_T (diH h ‹_› (by omega) fun zb zo zk zv zc => ?_))))))))))
   refine GdP_T (dfS (GdP_T (dh1 h ‹_› ‹_› (by rfl) ?_)))
   refine GdP_T (GdP_T (GdP_T (Dv_su (by omega) (by omega) (GdP_T (diHz h ‹_› (by omega) (by omega) fun zb zo zk zv zc => ?_)))))
   refine GdP_T (dfS (GdP_T (dh1 h ‹_› ‹_› (by rfl) ?_)))
   refine GdP_T (Dv_leF (by omega) (GdP_F (PickP_T (PickP_F (GdP_F (GdP_F (GdP_F (dscH (hvi.hp h) (by omega) fun v1 p1 => ?_))))))))
   refine GdP_F (GdP_F (GdP_F (diH h ‹_› (by omega) fun zb zo zk zv zc => ?_)))
   refine GdP_F (dfS (GdP_F (dhP h ‹_› ‹_› (by rfl) ?_)))
   refine Gd_F (cl1 h n_ref37_has (cch h.ext (by first | exact (p1.2 _ (hvi.hp h)) | assumption)) fun w h => ?_)
   refine PickP_F (If_F (Bn_ad (by omega) (by omega) ?_))
   exact ⟨⟨j + 1, by omega, rfl, h⟩, by show (Srd.store a i).length - ((j : Int) + 1).toNat < (Srd.store a i).length - (j : Int).toNat; omega⟩
 refine faS (ld1 h 0 rfl rfl (leS (hsv.hp h) ?_))
 refine Bn_ltF (by omega) (If_F (ldA h 0 rfl rfl ?_))
 refine clR h n_ref37_owned (cr1 h.ext) fun v1 w h => ?_
 refine Lp1.mk (fun k W => ∃ j : Nat, j ≤ a.A.length ∧ k = .int .i64 j ∧ Hp [] w0 W [ro tHd 11 v1 a.A.length ((Srd.all a).flatMap fH), bx g1 tSh (cS x a)]) (fun i' _ => match i' with | .int _ i' => a.A.length - i'.toNat | _ => 0) ⟨0, by omega, rfl, h⟩ ?_
 clear h
 rintro _ W ⟨j, hj, rfl, h⟩
 by_cases hjl : j < a.A.length
 ·refine Exists.elim (p := fun y => (Srd.all a)[j]? = some y) ⟨_, List.getElem?_eq_getElem (by omega)⟩ fun y hy => ?_
  have sy : Seg ((Srd.all a).flatMap fH) (j * 11) (fH y) := flat_seg (f := fH) (fun _ => rfl) hy
  have hy2 : y.2 = j := by
   have h3 := Srd.all_get (a := a) (List.getElem?_eq_getElem hjl)
   rw [hy] at h3
   rw [Option.some.inj h3]
  refine leS (qZ 0 h rfl) ?_
  refine Bn_ltT (by omega) (If_T (iaR h 0 rfl (by omega) fun zg zk zv => ?_))
  refine faS (lr1 h 0 rfl ‹_› sy (by rfl) ?_)
  refine Bn_neF (by omega) (If_F (Bn_ad (by omega) (by omega) ?_))
  exact ⟨⟨j + 1, by omega, rfl, h⟩, by show a.A.length - ((j : Int) + 1).toNat < a.A.length - (j : Int).toNat; omega⟩
 refine leS (qZ 0 h rfl) ?_
 refine Bn_ltF (by omega) (If_F (leS (qZ 0 h rfl) ?_))
 refine faS (ld1 h 1 rfl rfl (Bn_eqT (by omega) ?_))
 exact Ret.mk ⟨h.ext, rfl⟩
end
section
variable {w0 : World} {x : Sx} {a : Ab} (hR : ShR w0 x a) (hO : Srd.Ok a)
include hR hO
set_option maxHeartbeats 16000000 in
theorem r_move : Calls Tryz.prog 89 #[vSh x a] w0 (Ret fun r w' => Ext w0 w' ∧ r = .bool true) := by
 have hk := hO.k
 have hnA := hO.nA
 have hsv := hR.st
 have hrv := hR.ro
 have hrl := hO.ro.len
 have hone := hR.one
 have hm := hO.mv
 have cc3 := fun {W : World} {n lo hi : Int} (_ : Ext w0 W) (h : lo ≤ n ∧ n ≤ hi) => r_inT (w := W) h
 apply e_ref37_move
 unfold s_ref37_move
 have h := Hp.init [] w0
 refine bxA h fun g1 w h => ?_
 refine faS (ldA h 0 rfl rfl ?_)
 refine alS h fun g2 w h => ?_
 refine stA h 0 rfl rfl rfl rfl fun w h => ?_
 refine faS (ld1 h 0 rfl rfl ?_)
 dsimp only [List.set] at h
 revert h; revert w; apply meet
 ·intro w lfT h
  by_cases h0 : a.mv.ph = 0
  ·have ez := hm.z h0
   have e1 : a.mv.sl = 0 := by rw [ez]; rfl
   have e2 : a.mv.fr = 0 := by rw [ez]; rfl
   have e3 : a.mv.to = 0 := by rw [ez]; rfl
   have e4 : a.mv.cp = 0 := by rw [ez]; rfl
   refine Bn_eqT (by omega) (Gd_T (faS (Gd_T (ld1 h 0 rfl rfl (Gd_T (Bn_neF (by omega) (Gd_T (Gd_F (faS (Gd_F (ld1 h 0 rfl rfl (Gd_F (Bn_neF (by omega) (Gd_T (Pick_F (Gd_T (Gd_F (faS (Gd_F (ld1 h 0 rfl rfl (Gd_F (Bn_neF (by omega) (Gd_T (Pick_F (Gd_T (Gd_F (faS (Gd_F (ld1 h 0 rfl rfl (Gd_F (Bn_neF (by omega) (Gd_T (Pick_F (Pick_T (If_F (faS (ld1 h 0 rfl rfl (Bn_neF (by omega) (Gd_FT ?_)))))))))))))))))))))))))))))))))))))))
   refine Gd_FT (Gd_FT (Gd_FT (Gd_FT (Gd_U (Gd_U (Gd_U (Gd_U (Gd_FT (Gd_FT (Gd_U (Gd_U (Gd_U (Gd_U (Gd_U (Gd_U (Gd_U (Gd_U (Gd_FT (Gd_FT (Gd_U (Gd_U (Gd_U (Gd_U (Gd_U (Gd_U (Gd_U (Gd_U (Gd_FT (Gd_FT (Gd_U (Gd_U (Gd_U (Gd_U (Gd_U (Gd_FT (Pick_F (If_F ?_)))))))))))))))))))))))))))))))))))))
   exact lfT _ h
  ·have h7 := hm.sl h0
   have h8 := hm.fr h0
   have h9 := hm.to h0
   have hne := hm.ne h0
   have hph := hm.ph
   have p0 : 1 ≤ a.mv.ph ∧ a.mv.ph ≤ 2 := by omega
   have p1 : 0 ≤ a.mv.sl ∧ a.mv.sl ≤ 7 := h7
   have p2 : 0 ≤ a.mv.fr ∧ a.mv.fr ≤ (a.k : Int) - 1 := by omega
   have p3 : 0 ≤ a.mv.to ∧ a.mv.to ≤ (a.k : Int) - 1 := by omega
   refine Bn_eqF (by omega) (Gd_FT (Gd_FT (Gd_FT (Gd_FT (Gd_U (Gd_U (Gd_U (Gd_FT (Gd_FT (Gd_U (Gd_U (Gd_U (Gd_FT (Gd_FT (Gd_U (Gd_U (Gd_U (Gd_FT (Pick_F (If_F (faS (ld1 h 0 rfl rfl (Bn_neT (by omega) (Gd_T (faS (Gd_T (ld1 h 0 rfl rfl (Gd_T (cl1 h n_ref37_in (cc3 h.ext ‹_›) fun w h => ?_)))))))))))))))))))))))))))))
   refine Gd_T (Un_T (Gd_T (Gd_F (faS (Gd_F (ld1 h 0 rfl rfl (Gd_F (cl1 h n_ref37_in (cc3 h.ext ‹_›) fun w h => ?_))))))))
   refine Gd_F (Un_T (Gd_T (Pick_F (Gd_T (Gd_F (faS (Gd_F (ld1 h 0 rfl rfl (Gd_F (faS (Gd_F (ld1 h 1 rfl rfl (Gd_F (leS (hsv.hp h) ?_))))))))))))))
   refine Gd_F (Bn_su (by omega) (by omega) (Gd_F (cl1 h n_ref37_in (cc3 h.ext ‹_›) fun w h => ?_)))
   refine Gd_F (Un_T (Gd_T (Pick_F (Gd_T (Gd_F (faS (Gd_F (ld1 h 0 rfl rfl (Gd_F (faS (Gd_F (ld1 h 1 rfl rfl (Gd_F (leS (hsv.hp h) ?_))))))))))))))
   refine Gd_F (Bn_su (by omega) (by omega) (Gd_F (cl1 h n_ref37_in (cc3 h.ext ‹_›) fun w h => ?_)))
   refine Gd_F (Un_T (Gd_T (Pick_F (Gd_T (Gd_F (faS (Gd_F (ld1 h 0 rfl rfl (Gd_F (faS (Gd_F (ld1 h 0 rfl rfl (Gd_F (Bn_eqF (by omega) (Gd_T (Pick_F (Pick_T (If_F ?_))))))))))))))))))
   exact lfT _ h
 intro w h
 refine Lp1.mk (fun i W => ∃ j : Nat, j ≤ a.k ∧ i = .int .i64 j ∧ Hp [] w0 W [bx g2 tMv (fM a.mv), bx g1 tSh (cS x a)]) (fun i _ => match i with | .int _ i' => a.k - i'.toNat | _ => 0) ⟨0, by omega, rfl, h⟩ ?_
 clear h
 rintro _ W ⟨i, hi, rfl, h⟩
 by_cases hik : i < a.k
 ·refine Exists.elim (hR.at hik) fun v hv => ?_
  have hvi := hv.2
  have sv : Seg (x.ls.flatMap fV) (i * 1) (fV v) := flat_seg (f := fV) (fun _ => rfl) hv.1
  have hsl : (Srd.store a i).length ≤ 400 := Nat.le_trans (Srd.store_len a i) hnA
  refine faS (ld1 h 1 rfl rfl (leS (hsv.hp h) ?_))
  refine Bn_ltT (by omega) (If_T (Lp1.mk (fun j W => ∃ n : Nat, n ≤ 8 ∧ j = .int .i64 n ∧ Hp [] w0 W [bx g2 tMv (fM a.mv), bx g1 tSh (cS x a)]) (fun j _ => match j with | .int _ j' => 8 - j'.toNat | _ => 0) ⟨0, by omega, rfl, h⟩ ?_))
  clear h
  rintro _ W ⟨j, hj, rfl, h⟩
  by_cases hj8 : j < 8
  rotate_left
  ·refine Bn_ltF (by omega) (If_F (Bn_ad (by omega) (by omega) ?_))
   exact ⟨⟨i + 1, by omega, rfl, h⟩, by show a.k - ((i : Int) + 1).toNat < a.k - (i : Int).toNat; omega⟩
  have cr5 := fun {W : World} (e : Ext w0 W) => r_slots (w0 := W) (s := (j : Int)) (hvi.ext e) (by omega) (tr_store hO)
  have hri : ∃ r, a.ro[j]? = some r ∧ r = Srd.roAt a.ro j := by
   refine ⟨_, List.getElem?_eq_getElem (by omega), ?_⟩
   unfold Srd.roAt
   rw [List.getD_eq_getElem?_getD, Int.toNat_natCast, List.getElem?_eq_getElem (by omega)]
   rfl
  refine Exists.elim hri fun r hri => ?_
  have sr : Seg (a.ro.flatMap fI) (j * 1) (fI r) := flat_seg (f := fI) (fun _ => rfl) hri.1
  have hol : (ofS (j : Int) (Srd.store a i)).length ≤ (Srd.store a i).length := List.length_filter_le _ _
  have hnone : r ≠ i → ¬ (a.mv.ph = 1 ∧ (i : Int) = a.mv.to ∧ (j : Int) = a.mv.sl) → ¬ (a.mv.ph = 2 ∧ (i : Int) = a.mv.fr ∧ (j : Int) = a.mv.sl) → (ofS (j : Int) (Srd.store a i)).length = 0 := fun q1 q2 q3 => by
   rw [Srd.of_none (by rw [← hri.2]; exact q1) q2 q3]; rfl
  have hph := hm.ph
  have hcase : a.mv.ph = 0 ∨ (a.mv.ph = 1 ∧ (i : Int) ≠ a.mv.to) ∨ (a.mv.ph = 1 ∧ (i : Int) = a.mv.to ∧ (j : Int) ≠ a.mv.sl) ∨ (a.mv.ph = 1 ∧ (i : Int) = a.mv.to ∧ (j : Int) = a.mv.sl) ∨ (a.mv.ph = 2 ∧ (i : Int) ≠ a.mv.fr) ∨ (a.mv.ph = 2 ∧ (i : Int) = a.mv.fr ∧ (j : Int) ≠ a.mv.sl) ∨ (a.mv.ph = 2 ∧ (i : Int) = a.mv.fr ∧ (j : Int) = a.mv.sl) := by omega
  by_cases hr : r = i
  ·rcases hcase with c | c | c | c | c | c | c
   ·refine Bn_ltT (by omega) (If_T (faS (ld1 h 1 rfl rfl (iaH h ‹_› (by omega) fun zb zo zk zv zc => ?_))))
    refine lh0 h ‹_› ‹_› (by rfl) ?_
    refine clR h n_ref37_slots (cr5 h.ext) fun v1 w h => ?_
    refine faS (ld1 h 1 rfl rfl (Bn_eqF (by omega) (Gd_FT (Gd_FT (Gd_FT (Gd_FT (Pick_F (Gd_FT (Gd_FT (Gd_FT (Gd_FT (Pick_F (Gd_F (faS (Gd_F (ld1 h 1 rfl rfl (Gd_F (Bn_eqF (by omega) (Gd_F (Gd_FT (Gd_FT (Gd_FT (Gd_FT (Gd_F (Pick_F (Gd_F (Gd_FT (Gd_FT (Gd_FT (Gd_FT (Gd_F (Pick_F (Pick_F (faS (ld1 h 2 rfl rfl (iaH h ‹_› (by omega) fun zb zo zk zv zc => ?_))))))))))))))))))))))))))))))))))))
    refine lh0 h ‹_› ‹_› (by rfl) ?_
    refine Bn_neF (by omega) (Gd_FT (Gd_FT (Pick_F (Gd_FT (Gd_FT (Gd_FT (Pick_F (If_F (Bn_ad (by omega) (by omega) ?_)))))))))
    exact ⟨⟨j + 1, by omega, rfl, h.drop 1⟩, by show 8 - ((j : Int) + 1).toNat < 8 - (j : Int).toNat; omega⟩
   ·refine Bn_ltT (by omega) (If_T (faS (ld1 h 1 rfl rfl (iaH h ‹_› (by omega) fun zb zo zk zv zc => ?_))))
    refine lh0 h ‹_› ‹_› (by rfl) ?_
    refine clR h n_ref37_slots (cr5 h.ext) fun v1 w h => ?_
    refine faS (ld1 h 1 rfl rfl (Bn_eqT (by omega) (Gd_T (Gd_T (faS (Gd_T (ld1 h 1 rfl rfl (Gd_T (Bn_eqF (by omega) (Pick_T (Gd_FT (Gd_FT (Gd_FT (Gd_FT (Pick_F (Gd_F (faS (Gd_F (ld1 h 1 rfl rfl (Gd_F (Bn_eqF (by omega) (Gd_F (Gd_FT (Gd_FT (Gd_FT (Gd_FT (Gd_F (Pick_F (Gd_F (Gd_FT (Gd_FT (Gd_FT (Gd_FT (Gd_F (Pick_F (Pick_F (faS (ld1 h 2 rfl rfl (iaH h ‹_› (by omega) fun zb zo zk zv zc => ?_)))))))))))))))))))))))))))))))))))))))
    refine lh0 h ‹_› ‹_› (by rfl) ?_
    refine Bn_neF (by omega) (Gd_FT (Gd_FT (Pick_F (Gd_FT (Gd_FT (Gd_FT (Pick_F (If_F (Bn_ad (by omega) (by omega) ?_)))))))))
    exact ⟨⟨j + 1, by omega, rfl, h.drop 1⟩, by show 8 - ((j : Int) + 1).toNat < 8 - (j : Int).toNat; omega⟩
   ·refine Bn_ltT (by omega) (If_T (faS (ld1 h 1 rfl rfl (iaH h ‹_› (by omega) fun zb zo zk zv zc => ?_))))
    refine lh0 h ‹_› ‹_› (by rfl) ?_
    refine clR h n_ref37_slots (cr5 h.ext) fun v1 w h => ?_
    refine faS (ld1 h 1 rfl rfl (Bn_eqT (by omega) (Gd_T (Gd_T (faS (Gd_T (ld1 h 1 rfl rfl (Gd_T (Bn_eqT (by omega) (Pick_T (Gd_T (Gd_T (faS (Gd_T (ld1 h 1 rfl rfl (Gd_T (Bn_eqF (by omega) (Pick_T (Gd_F (faS (Gd_F (ld1 h 1 rfl rfl (Gd_F (Bn_eqF (by omega) (Gd_F (Gd_FT (Gd_FT (Gd_FT (Gd_FT (Gd_F (Pick_F (Gd_F (Gd_FT (Gd_FT (Gd_FT (Gd_FT (Gd_F (Pick_F (Pick_F ?_)))))))))))))))))))))))))))))))))))))))
    refine faS (ld1 h 2 rfl rfl (iaH h ‹_› (by omega) fun zb zo zk zv zc => ?_))
    refine lh0 h ‹_› ‹_› (by rfl) ?_
    refine Bn_neF (by omega) (Gd_FT (Gd_FT (Pick_F (Gd_FT (Gd_FT (Gd_FT (Pick_F (If_F (Bn_ad (by omega) (by omega) ?_)))))))))
    exact ⟨⟨j + 1, by omega, rfl, h.drop 1⟩, by show 8 - ((j : Int) + 1).toNat < 8 - (j : Int).toNat; omega⟩
   ·refine Bn_ltT (by omega) (If_T (faS (ld1 h 1 rfl rfl (iaH h ‹_› (by omega) fun zb zo zk zv zc => ?_))))
    refine lh0 h ‹_› ‹_› (by rfl) ?_
    refine clR h n_ref37_slots (cr5 h.ext) fun v1 w h => ?_
    refine faS (ld1 h 1 rfl rfl (Bn_eqT (by omega) (Gd_T (Gd_T (faS (Gd_T (ld1 h 1 rfl rfl (Gd_T (Bn_eqT (by omega) (Pick_T (Gd_T (Gd_T (faS (Gd_T (ld1 h 1 rfl rfl (Gd_T (Bn_eqT (by omega) (Pick_T (Gd_TF (Gd_TF (Gd_TF (Gd_TF (Gd_U (Gd_U (Gd_U (Gd_U (Gd_TF (Gd_TF (Gd_U (Gd_U (Gd_U (Gd_U (Gd_TF (Pick_T (faS (ld1 h 2 rfl rfl (iaH h ‹_› (by omega) fun zb zo zk zv zc => ?_)))))))))))))))))))))))))))))))))))))
    refine lh0 h ‹_› ‹_› (by rfl) ?_
    refine Bn_neF (by omega) (Gd_FT (Gd_FT (Pick_F (Gd_FT (Gd_FT (Gd_FT (Pick_F (If_F (Bn_ad (by omega) (by omega) ?_)))))))))
    exact ⟨⟨j + 1, by omega, rfl, h.drop 1⟩, by show 8 - ((j : Int) + 1).toNat < 8 - (j : Int).toNat; omega⟩
   ·refine Bn_ltT (by omega) (If_T (faS (ld1 h 1 rfl rfl (iaH h ‹_› (by omega) fun zb zo zk zv zc => ?_))))
    refine lh0 h ‹_› ‹_› (by rfl) ?_
    refine clR h n_ref37_slots (cr5 h.ext) fun v1 w h => ?_
    refine faS (ld1 h 1 rfl rfl (Bn_eqF (by omega) (Gd_FT (Gd_FT (Gd_FT (Gd_FT (Pick_F (Gd_FT (Gd_FT (Gd_FT (Gd_FT (Pick_F (Gd_F (faS (Gd_F (ld1 h 1 rfl rfl (Gd_F (Bn_eqT (by omega) (Gd_F (Gd_T (Gd_T (faS (Gd_T (ld1 h 1 rfl rfl (Gd_T (Bn_eqF (by omega) (Gd_F (Pick_T (Gd_F (Gd_FT (Gd_FT (Gd_FT (Gd_FT (Gd_F (Pick_F (Pick_F (faS (ld1 h 2 rfl rfl (iaH h ‹_› (by omega) fun zb zo zk zv zc => ?_)))))))))))))))))))))))))))))))))))))))
    refine lh0 h ‹_› ‹_› (by rfl) ?_
    refine Bn_neF (by omega) (Gd_FT (Gd_FT (Pick_F (Gd_FT (Gd_FT (Gd_FT (Pick_F (If_F (Bn_ad (by omega) (by omega) ?_)))))))))
    exact ⟨⟨j + 1, by omega, rfl, h.drop 1⟩, by show 8 - ((j : Int) + 1).toNat < 8 - (j : Int).toNat; omega⟩
   ·refine Bn_ltT (by omega) (If_T (faS (ld1 h 1 rfl rfl (iaH h ‹_› (by omega) fun zb zo zk zv zc => ?_))))
    refine lh0 h ‹_› ‹_› (by rfl) ?_
    refine clR h n_ref37_slots (cr5 h.ext) fun v1 w h => ?_
    refine faS (ld1 h 1 rfl rfl (Bn_eqF (by omega) (Gd_FT (Gd_FT (Gd_FT (Gd_FT (Pick_F (Gd_FT (Gd_FT (Gd_FT (Gd_FT (Pick_F (Gd_F (faS (Gd_F (ld1 h 1 rfl rfl (Gd_F (Bn_eqT (by omega) (Gd_F (Gd_T (Gd_T (faS (Gd_T (ld1 h 1 rfl rfl (Gd_T (Bn_eqT (by omega) (Gd_F (Pick_T (Gd_F (Gd_T (Gd_T (faS (Gd_T (ld1 h 1 rfl rfl (Gd_T (Bn_eqF (by omega) (Gd_F (Pick_T (Pick_F ?_)))))))))))))))))))))))))))))))))))))))
    refine faS (ld1 h 2 rfl rfl (iaH h ‹_› (by omega) fun zb zo zk zv zc => ?_))
    refine lh0 h ‹_› ‹_› (by rfl) ?_
    refine Bn_neF (by omega) (Gd_FT (Gd_FT (Pick_F (Gd_FT (Gd_FT (Gd_FT (Pick_F (If_F (Bn_ad (by omega) (by omega) ?_)))))))))
    exact ⟨⟨j + 1, by omega, rfl, h.drop 1⟩, by show 8 - ((j : Int) + 1).toNat < 8 - (j : Int).toNat; omega⟩
   ·refine Bn_ltT (by omega) (If_T (faS (ld1 h 1 rfl rfl (iaH h ‹_› (by omega) fun zb zo zk zv zc => ?_))))
    refine lh0 h ‹_› ‹_› (by rfl) ?_
    refine clR h n_ref37_slots (cr5 h.ext) fun v1 w h => ?_
    refine faS (ld1 h 1 rfl rfl (Bn_eqF (by omega) (Gd_FT (Gd_FT (Gd_FT (Gd_FT (Pick_F (Gd_FT (Gd_FT (Gd_FT (Gd_FT (Pick_F (Gd_F (faS (Gd_F (ld1 h 1 rfl rfl (Gd_F (Bn_eqT (by omega) (Gd_F (Gd_T (Gd_T (faS (Gd_T (ld1 h 1 rfl rfl (Gd_T (Bn_eqT (by omega) (Gd_F (Pick_T (Gd_F (Gd_T (Gd_T (faS (Gd_T (ld1 h 1 rfl rfl (Gd_T (Bn_eqT (by omega) (Gd_F (Pick_T (Pick_F ?_)))))))))))))))))))))))))))))))))))))))
    refine faS (ld1 h 2 rfl rfl (iaH h ‹_› (by omega) fun zb zo zk zv zc => ?_))
    refine lh0 h ‹_› ‹_› (by rfl) ?_
    refine Bn_neF (by omega) (Gd_FT (Gd_FT (Pick_F (Gd_FT (Gd_FT (Gd_FT (Pick_F (If_F (Bn_ad (by omega) (by omega) ?_)))))))))
    exact ⟨⟨j + 1, by omega, rfl, h.drop 1⟩, by show 8 - ((j : Int) + 1).toNat < 8 - (j : Int).toNat; omega⟩
  ·rcases hcase with c | c | c | c | c | c | c
   ·have hz := hnone hr (by omega) (by omega)
    refine Bn_ltT (by omega) (If_T (faS (ld1 h 1 rfl rfl (iaH h ‹_› (by omega) fun zb zo zk zv zc => ?_))))
    refine lh0 h ‹_› ‹_› (by rfl) ?_
    refine clR h n_ref37_slots (cr5 h.ext) fun v1 w h => ?_
    refine faS (ld1 h 1 rfl rfl (Bn_eqF (by omega) (Gd_FT (Gd_FT (Gd_FT (Gd_FT (Pick_F (Gd_FT (Gd_FT (Gd_FT (Gd_FT (Pick_F (Gd_F (faS (Gd_F (ld1 h 1 rfl rfl (Gd_F (Bn_eqF (by omega) (Gd_F (Gd_FT (Gd_FT (Gd_FT (Gd_FT (Gd_F (Pick_F (Gd_F (Gd_FT (Gd_FT (Gd_FT (Gd_FT (Gd_F (Pick_F (Pick_F (faS (ld1 h 2 rfl rfl (iaH h ‹_› (by omega) fun zb zo zk zv zc => ?_))))))))))))))))))))))))))))))))))))
    refine lh0 h ‹_› ‹_› (by rfl) ?_
    refine Bn_neT (by omega) (Gd_T (Gd_T (Un_F (Pick_T (Gd_T (Gd_T (leS (qZ 0 h rfl) ?_)))))))
    refine Gd_T (Bn_gtF (by omega) (Pick_T (If_F (Bn_ad (by omega) (by omega) ?_))))
    exact ⟨⟨j + 1, by omega, rfl, h.drop 1⟩, by show 8 - ((j : Int) + 1).toNat < 8 - (j : Int).toNat; omega⟩
   ·have hz := hnone hr (by omega) (by omega)
    refine Bn_ltT (by omega) (If_T (faS (ld1 h 1 rfl rfl (iaH h ‹_› (by omega) fun zb zo zk zv zc => ?_))))
    refine lh0 h ‹_› ‹_› (by rfl) ?_
    refine clR h n_ref37_slots (cr5 h.ext) fun v1 w h => ?_
    refine faS (ld1 h 1 rfl rfl (Bn_eqT (by omega) (Gd_T (Gd_T (faS (Gd_T (ld1 h 1 rfl rfl (Gd_T (Bn_eqF (by omega) (Pick_T (Gd_FT (Gd_FT (Gd_FT (Gd_FT (Pick_F (Gd_F (faS (Gd_F (ld1 h 1 rfl rfl (Gd_F (Bn_eqF (by omega) (Gd_F (Gd_FT (Gd_FT (Gd_FT (Gd_FT (Gd_F (Pick_F (Gd_F (Gd_FT (Gd_FT (Gd_FT (Gd_FT (Gd_F (Pick_F (Pick_F (faS (ld1 h 2 rfl rfl (iaH h ‹_› (by omega) fun zb zo zk zv zc => ?_)))))))))))))))))))))))))))))))))))))))
    refine lh0 h ‹_› ‹_› (by rfl) ?_
    refine Bn_neT (by omega) (Gd_T (Gd_T (Un_F (Pick_T (Gd_T (Gd_T (leS (qZ 0 h rfl) ?_)))))))
    refine Gd_T (Bn_gtF (by omega) (Pick_T (If_F (Bn_ad (by omega) (by omega) ?_))))
    exact ⟨⟨j + 1, by omega, rfl, h.drop 1⟩, by show 8 - ((j : Int) + 1).toNat < 8 - (j : Int).toNat; omega⟩
   ·have hz := hnone hr (by omega) (by omega)
    refine Bn_ltT (by omega) (If_T (faS (ld1 h 1 rfl rfl (iaH h ‹_› (by omega) fun zb zo zk zv zc => ?_))))
    refine lh0 h ‹_› ‹_› (by rfl) ?_
    refine clR h n_ref37_slots (cr5 h.ext) fun v1 w h => ?_
    refine faS (ld1 h 1 rfl rfl (Bn_eqT (by omega) (Gd_T (Gd_T (faS (Gd_T (ld1 h 1 rfl rfl (Gd_T (Bn_eqT (by omega) (Pick_T (Gd_T (Gd_T (faS (Gd_T (ld1 h 1 rfl rfl (Gd_T (Bn_eqF (by omega) (Pick_T (Gd_F (faS (Gd_F (ld1 h 1 rfl rfl (Gd_F (Bn_eqF (by omega) (Gd_F (Gd_FT (Gd_FT (Gd_FT (Gd_FT (Gd_F (Pick_F (Gd_F (Gd_FT (Gd_FT (Gd_FT (Gd_FT (Gd_F (Pick_F (Pick_F ?_)))))))))))))))))))))))))))))))))))))))
    refine faS (ld1 h 2 rfl rfl (iaH h ‹_› (by omega) fun zb zo zk zv zc => ?_))
    refine lh0 h ‹_› ‹_› (by rfl) ?_
    refine Bn_neT (by omega) (Gd_T (Gd_T (Un_F (Pick_T (Gd_T (Gd_T (leS (qZ 0 h rfl) ?_)))))))
    refine Gd_T (Bn_gtF (by omega) (Pick_T (If_F (Bn_ad (by omega) (by omega) ?_))))
    exact ⟨⟨j + 1, by omega, rfl, h.drop 1⟩, by show 8 - ((j : Int) + 1).toNat < 8 - (j : Int).toNat; omega⟩
   ·refine Bn_ltT (by omega) (If_T (faS (ld1 h 1 rfl rfl (iaH h ‹_› (by omega) fun zb zo zk zv zc => ?_))))
    refine lh0 h ‹_› ‹_› (by rfl) ?_
    refine clR h n_ref37_slots (cr5 h.ext) fun v1 w h => ?_
    refine faS (ld1 h 1 rfl rfl (Bn_eqT (by omega) (Gd_T (Gd_T (faS (Gd_T (ld1 h 1 rfl rfl (Gd_T (Bn_eqT (by omega) (Pick_T (Gd_T (Gd_T (faS (Gd_T (ld1 h 1 rfl rfl (Gd_T (Bn_eqT (by omega) (Pick_T (Gd_TF (Gd_TF (Gd_TF (Gd_TF (Gd_U (Gd_U (Gd_U (Gd_U (Gd_TF (Gd_TF (Gd_U (Gd_U (Gd_U (Gd_U (Gd_TF (Pick_T (faS (ld1 h 2 rfl rfl (iaH h ‹_› (by omega) fun zb zo zk zv zc => ?_)))))))))))))))))))))))))))))))))))))
    refine lh0 h ‹_› ‹_› (by rfl) ?_
    refine Bn_neT (by omega) (Gd_T (Gd_T (Un_T (Pick_T (Gd_FT (Gd_FT (Gd_FT (Pick_F (If_F (Bn_ad (by omega) (by omega) ?_))))))))))
    exact ⟨⟨j + 1, by omega, rfl, h.drop 1⟩, by show 8 - ((j : Int) + 1).toNat < 8 - (j : Int).toNat; omega⟩
   ·have hz := hnone hr (by omega) (by omega)
    refine Bn_ltT (by omega) (If_T (faS (ld1 h 1 rfl rfl (iaH h ‹_› (by omega) fun zb zo zk zv zc => ?_))))
    refine lh0 h ‹_› ‹_› (by rfl) ?_
    refine clR h n_ref37_slots (cr5 h.ext) fun v1 w h => ?_
    refine faS (ld1 h 1 rfl rfl (Bn_eqF (by omega) (Gd_FT (Gd_FT (Gd_FT (Gd_FT (Pick_F (Gd_FT (Gd_FT (Gd_FT (Gd_FT (Pick_F (Gd_F (faS (Gd_F (ld1 h 1 rfl rfl (Gd_F (Bn_eqT (by omega) (Gd_F (Gd_T (Gd_T (faS (Gd_T (ld1 h 1 rfl rfl (Gd_T (Bn_eqF (by omega) (Gd_F (Pick_T (Gd_F (Gd_FT (Gd_FT (Gd_FT (Gd_FT (Gd_F (Pick_F (Pick_F (faS (ld1 h 2 rfl rfl (iaH h ‹_› (by omega) fun zb zo zk zv zc => ?_)))))))))))))))))))))))))))))))))))))))
    refine lh0 h ‹_› ‹_› (by rfl) ?_
    refine Bn_neT (by omega) (Gd_T (Gd_T (Un_F (Pick_T (Gd_T (Gd_T (leS (qZ 0 h rfl) ?_)))))))
    refine Gd_T (Bn_gtF (by omega) (Pick_T (If_F (Bn_ad (by omega) (by omega) ?_))))
    exact ⟨⟨j + 1, by omega, rfl, h.drop 1⟩, by show 8 - ((j : Int) + 1).toNat < 8 - (j : Int).toNat; omega⟩
   ·have hz := hnone hr (by omega) (by omega)
    refine Bn_ltT (by omega) (If_T (faS (ld1 h 1 rfl rfl (iaH h ‹_› (by omega) fun zb zo zk zv zc => ?_))))
    refine lh0 h ‹_› ‹_› (by rfl) ?_
    refine clR h n_ref37_slots (cr5 h.ext) fun v1 w h => ?_
    refine faS (ld1 h 1 rfl rfl (Bn_eqF (by omega) (Gd_FT (Gd_FT (Gd_FT (Gd_FT (Pick_F (Gd_FT (Gd_FT (Gd_FT (Gd_FT (Pick_F (Gd_F (faS (Gd_F (ld1 h 1 rfl rfl (Gd_F (Bn_eqT (by omega) (Gd_F (Gd_T (Gd_T (faS (Gd_T (ld1 h 1 rfl rfl (Gd_T (Bn_eqT (by omega) (Gd_F (Pick_T (Gd_F (Gd_T (Gd_T (faS (Gd_T (ld1 h 1 rfl rfl (Gd_T (Bn_eqF (by omega) (Gd_F (Pick_T (Pick_F ?_)))))))))))))))))))))))))))))))))))))))
    refine faS (ld1 h 2 rfl rfl (iaH h ‹_› (by omega) fun zb zo zk zv zc => ?_))
    refine lh0 h ‹_› ‹_› (by rfl) ?_
    refine Bn_neT (by omega) (Gd_T (Gd_T (Un_F (Pick_T (Gd_T (Gd_T (leS (qZ 0 h rfl) ?_)))))))
    refine Gd_T (Bn_gtF (by omega) (Pick_T (If_F (Bn_ad (by omega) (by omega) ?_))))
    exact ⟨⟨j + 1, by omega, rfl, h.drop 1⟩, by show 8 - ((j : Int) + 1).toNat < 8 - (j : Int).toNat; omega⟩
   ·refine Bn_ltT (by omega) (If_T (faS (ld1 h 1 rfl rfl (iaH h ‹_› (by omega) fun zb zo zk zv zc => ?_))))
    refine lh0 h ‹_› ‹_› (by rfl) ?_
    refine clR h n_ref37_slots (cr5 h.ext) fun v1 w h => ?_
    refine faS (ld1 h 1 rfl rfl (Bn_eqF (by omega) (Gd_FT (Gd_FT (Gd_FT (Gd_FT (Pick_F (Gd_FT (Gd_FT (Gd_FT (Gd_FT (Pick_F (Gd_F (faS (Gd_F (ld1 h 1 rfl rfl (Gd_F (Bn_eqT (by omega) (Gd_F (Gd_T (Gd_T (faS (Gd_T (ld1 h 1 rfl rfl (Gd_T (Bn_eqT (by omega) (Gd_F (Pick_T (Gd_F (Gd_T (Gd_T (faS (Gd_T (ld1 h 1 rfl rfl (Gd_T (Bn_eqT (by omega) (Gd_F (Pick_T (Pick_F ?_)))))))))))))))))))))))))))))))))))))))
    refine faS (ld1 h 2 rfl rfl (iaH h ‹_› (by omega) fun zb zo zk zv zc => ?_))
    refine lh0 h ‹_› ‹_› (by rfl) ?_
    refine Bn_neT (by omega) (Gd_T (Gd_T (Un_T (Pick_T (Gd_FT (Gd_FT (Gd_FT (Pick_F (If_F (Bn_ad (by omega) (by omega) ?_))))))))))
    exact ⟨⟨j + 1, by omega, rfl, h.drop 1⟩, by show 8 - ((j : Int) + 1).toNat < 8 - (j : Int).toNat; omega⟩
 have : i = a.k := by omega
 subst this
 by_cases h1 : a.mv.ph = 1
 ·have h0 : a.mv.ph ≠ 0 := by omega
  have h7 := hm.sl h0
  have h8 := hm.fr h0
  have h9 := hm.to h0
  have hc := hm.c1 h1
  have hc1 := hc.1
  have p4 : -1 ≤ a.mv.cp ∧ a.mv.cp ≤ (a.A.length : Int) - 1 := by omega
  refine Exists.elim (hR.at (i := a.mv.fr.toNat) (by omega)) fun vf hvf => ?_
  refine Exists.elim (hR.at (i := a.mv.to.toNat) (by omega)) fun vt hvt => ?_
  have hf2 := hvf.2
  have ht2 := hvt.2
  rw [show ((a.mv.fr.toNat : Nat) : Int) = a.mv.fr by omega] at hf2
  rw [show ((a.mv.to.toNat : Nat) : Int) = a.mv.to by omega] at ht2
  have sf : Seg (x.ls.flatMap fV) (a.mv.fr.toNat * 1) (fV vf) := flat_seg (f := fV) (fun _ => rfl) hvf.1
  have st : Seg (x.ls.flatMap fV) (a.mv.to.toNat * 1) (fV vt) := flat_seg (f := fV) (fun _ => rfl) hvt.1
  have sr : Seg (a.ro.flatMap fI) (a.mv.sl.toNat * 1) (fI (Srd.roAt a.ro a.mv.sl)) := ro_seg hO h7 hrl
  have hlf : (Srd.store a a.mv.fr).length ≤ 400 := Nat.le_trans (Srd.store_len a a.mv.fr) hnA
  have hlt : (Srd.store a a.mv.to).length ≤ 400 := Nat.le_trans (Srd.store_len a a.mv.to) hnA
  have hlo : ∀ l : List Hd, (ofS a.mv.sl l).length ≤ l.length := fun l => List.length_filter_le _ _
  have hl1 := hlo (Srd.store a a.mv.fr)
  have hl2 := hlo (Srd.store a a.mv.to)
  have cr5 := fun {W : World} (e : Ext w0 W) => r_slots (w0 := W) (s := a.mv.sl) (hf2.ext e) (by omega) (tr_store hO)
  have cr6 := fun {W : World} (e : Ext w0 W) => r_slots (w0 := W) (s := a.mv.sl) (ht2.ext e) (by omega) (tr_store hO)
  refine faS (ld1 h 1 rfl rfl (leS (hsv.hp h) ?_))
  refine Bn_ltF (by omega) (If_F (faS (ld1 h 0 rfl rfl (Bn_eqT (by omega) (If_T ?_)))))
  replace h := h.dr
  refine dfS (dl1 h 1 rfl rfl (dfS (dl1 h 0 rfl rfl (diHz h ‹_› (by omega) (by omega) fun zb zo zk zv zc => ?_))))
  refine dh0 h ‹_› ‹_› (by rfl) ?_
  refine dfS (dl1 h 0 rfl rfl (clR h n_ref37_slots (cr5 h.ext) fun v1 w h => ?_))
  replace h := h.dr
  refine dfS (dl1 h 2 rfl rfl (dfS (dl1 h 1 rfl rfl (diHz h ‹_› (by omega) (by omega) fun zb zo zk zv zc => ?_))))
  refine dh0 h ‹_› ‹_› (by rfl) ?_
  refine dfS (dl1 h 1 rfl rfl (Dv_eqT (by omega) (GdP_T (dfS (GdP_T (dl1 h 1 rfl rfl (GdP_T (dfS (GdP_T (dl1 h 2 rfl rfl (GdP_T (Dv_su (by omega) (by omega) (Gd_T (cl1 h n_ref37_in (cc3 h.ext ‹_›) fun w h => ?_))))))))))))))
  refine PickP_T (GdP_T (dfS (GdP_T (dl1 h 2 rfl rfl (GdP_T (dfS (GdP_T (dl1 h 1 rfl rfl (GdP_T (diHz h ‹_› (by omega) (by omega) fun zb zo zk zv zc => ?_))))))))))
  refine GdP_T (dh0 h ‹_› ‹_› (by rfl) ?_)
  refine GdP_T (dfS (GdP_T (dl1 h 1 rfl rfl (GdP_T (GdP_T (dfS (GdP_T (dl1 h 1 rfl rfl (Gd_T (clR h n_ref37_slots (cr6 h.ext) fun v2 w h => ?_))))))))))
  refine Kg_T ?_
  refine kl1 h 2 rfl rfl (Gd_T (clR (T := fun v => v) h n_ref37_upto (r_upto (qZ 1 h rfl) (by omega)) fun u w h => ?_))
  have e : ((ofS a.mv.sl (Srd.store a a.mv.fr)).filter fun y => decide (y.2 ≤ a.mv.cp)) = ofS a.mv.sl (Srd.store a a.mv.to) := Srd.copy_same hO h1
  rw [e] at h
  refine Gd_T (cl1 h n_ref37_equal (r_equal (qZ 1 h rfl) (qZ 0 h rfl) (by omega)) fun w h => ?_)
  refine PickP_T ?_
  exact Ret.mk ⟨h.ext, rfl⟩
 by_cases h2 : a.mv.ph = 2
 ·have h0 : a.mv.ph ≠ 0 := by omega
  have h7 := hm.sl h0
  have h8 := hm.fr h0
  have h9 := hm.to h0
  have hc := hm.c2 h2
  have hc1 := hc.1
  have hc2 := hc.2.1
  have hd := Srd.drop_in hO h2
  refine Exists.elim (hR.at (i := a.mv.fr.toNat) (by omega)) fun vf hvf => ?_
  refine Exists.elim (hR.at (i := a.mv.to.toNat) (by omega)) fun vt hvt => ?_
  have hf2 := hvf.2
  have ht2 := hvt.2
  rw [show ((a.mv.fr.toNat : Nat) : Int) = a.mv.fr by omega] at hf2
  rw [show ((a.mv.to.toNat : Nat) : Int) = a.mv.to by omega] at ht2
  have sf : Seg (x.ls.flatMap fV) (a.mv.fr.toNat * 1) (fV vf) := flat_seg (f := fV) (fun _ => rfl) hvf.1
  have st : Seg (x.ls.flatMap fV) (a.mv.to.toNat * 1) (fV vt) := flat_seg (f := fV) (fun _ => rfl) hvt.1
  have sr : Seg (a.ro.flatMap fI) (a.mv.sl.toNat * 1) (fI (Srd.roAt a.ro a.mv.sl)) := ro_seg hO h7 hrl
  have hlf : (Srd.store a a.mv.fr).length ≤ 400 := Nat.le_trans (Srd.store_len a a.mv.fr) hnA
  have hlt : (Srd.store a a.mv.to).length ≤ 400 := Nat.le_trans (Srd.store_len a a.mv.to) hnA
  have hl1 : (ofS a.mv.sl (Srd.store a a.mv.fr)).length ≤ (Srd.store a a.mv.fr).length := List.length_filter_le _ _
  have hpos : 0 < (ofS a.mv.sl (Srd.store a a.mv.fr)).length := List.length_pos_iff.2 hd.2
  have cr5 := fun {W : World} (e : Ext w0 W) => r_slots (w0 := W) (s := a.mv.sl) (hf2.ext e) (by omega) (tr_store hO)
  refine faS (ld1 h 1 rfl rfl (leS (hsv.hp h) ?_))
  refine Bn_ltF (by omega) (If_F (faS (ld1 h 0 rfl rfl (Bn_eqF (by omega) (If_F (faS (ld1 h 0 rfl rfl (Bn_eqT (by omega) (If_T ?_)))))))))
  replace h := h.dr
  refine dfS (dl1 h 1 rfl rfl (dfS (dl1 h 0 rfl rfl (diHz h ‹_› (by omega) (by omega) fun zb zo zk zv zc => ?_))))
  refine dh0 h ‹_› ‹_› (by rfl) ?_
  refine dfS (dl1 h 0 rfl rfl (clR h n_ref37_slots (cr5 h.ext) fun v1 w h => ?_))
  refine Lp1.mk (fun k W => ∃ j : Nat, j ≤ (ofS a.mv.sl (Srd.store a a.mv.fr)).length ∧ k = .int .i64 j ∧ Hp [] w0 W [ro tHd 11 v1 (ofS a.mv.sl (Srd.store a a.mv.fr)).length ((ofS a.mv.sl (Srd.store a a.mv.fr)).flatMap fH), bx g2 tMv (fM a.mv), bx g1 tSh (cS x a)]) (fun i' _ => match i' with | .int _ i' => (ofS a.mv.sl (Srd.store a a.mv.fr)).length - i'.toNat | _ => 0) ⟨0, by omega, rfl, h⟩ ?_
  clear h
  rintro _ W ⟨j, hj, rfl, h⟩
  by_cases hjl : j < (ofS a.mv.sl (Srd.store a a.mv.fr)).length
  ·refine Exists.elim (p := fun y => (ofS a.mv.sl (Srd.store a a.mv.fr))[j]? = some y) ⟨_, List.getElem?_eq_getElem hjl⟩ fun y hy => ?_
   have sy : Seg ((ofS a.mv.sl (Srd.store a a.mv.fr)).flatMap fH) (j * 11) (fH y) := flat_seg (f := fH) (fun _ => rfl) hy
   have hin := hd.1 y (List.mem_of_getElem? hy)
   have cc6 := fun {W : World} (e : Ext w0 W) => r_holds (w0 := W) (ht2.ext e) (by omega) hin
   refine leS (qZ 0 h rfl) ?_
   refine Bn_ltT (by omega) (If_T ?_)
   replace h := h.dr
   refine dfS (dl1 h 2 rfl rfl (dfS (dl1 h 1 rfl rfl (diHz h ‹_› (by omega) (by omega) fun zb zo zk zv zc => ?_))))
   refine dh0 h ‹_› ‹_› (by rfl) ?_
   refine diR h 0 rfl (by omega) fun zg zk zv => ?_
   refine drA h 0 rfl ‹_› sy (by rfl) ?_
   refine cl1 h n_ref37_holds (cc6 h.ext) fun w h => ?_
   refine Dv_nT (If_F (Bn_ad (by omega) (by omega) ?_))
   exact ⟨⟨j + 1, by omega, rfl, h⟩, by show (ofS a.mv.sl (Srd.store a a.mv.fr)).length - ((j : Int) + 1).toNat < (ofS a.mv.sl (Srd.store a a.mv.fr)).length - (j : Int).toNat; omega⟩
  have : j = (ofS a.mv.sl (Srd.store a a.mv.fr)).length := by omega
  subst this
  refine leS (qZ 0 h rfl) ?_
  refine Bn_ltF (by omega) (If_F ?_)
  replace h := h.dr
  refine dfS (dl1 h 2 rfl rfl (dfS (dl1 h 1 rfl rfl (diHz h ‹_› (by omega) (by omega) fun zb zo zk zv zc => ?_))))
  refine dh0 h ‹_› ‹_› (by rfl) ?_
  refine dfS (dl1 h 1 rfl rfl (Dv_eqT (by omega) (GdP_T (dfS (GdP_T (dl1 h 1 rfl rfl (GdP_T (Dv_eqT (by omega) (PickP_T (GdP_T (GdP_T (dlS (qZ 0 h rfl) ?_))))))))))))
  refine GdP_T (Dv_gtT (by omega) (PickP_T ?_))
  exact Ret.mk ⟨h.ext, rfl⟩
 refine faS (ld1 h 1 rfl rfl (leS (hsv.hp h) ?_))
 refine Bn_ltF (by omega) (If_F (faS (ld1 h 0 rfl rfl (Bn_eqF (by omega) (If_F (faS (ld1 h 0 rfl rfl (Bn_eqF (by omega) (If_F ?_)))))))))
 exact Ret.mk ⟨h.ext, rfl⟩
set_option maxHeartbeats 16000000 in
theorem r_reader {r : Rd} {rv gv : Value} (hr : r ∈ a.rd) (h1 : SlC w0 1 rv r.ro.length (r.ro.flatMap fI)) (h2 : SlC w0 10 gv (got a r).length ((got a r).flatMap fF)) :
 Calls Tryz.prog 90 #[vSh x a, .agg #[.int .i64 r.id, .int .i64 r.up, rv, .int .i64 r.nx, gv]] w0 (Ret fun r w' => Ext w0 w' ∧ r = .bool true) := by
 have hk := hO.k
 have hnA := hO.nA
 have hsv := hR.st
 have hone := hR.one
 have ho := hO.rd r hr
 have hrl := ho.ro.len
 have hup := ho.up
 have hid := ho.id
 have hnx := ho.nx
 have p2 : 0 ≤ r.nx ∧ r.nx ≤ (a.k : Int) - 1 := by omega
 have hone1 := (slc_c1 h1).2
 have hone2 := (slc_c1 h2).2
 have cc3 := fun {W : World} {n lo hi : Int} (_ : Ext w0 W) (h : lo ≤ n ∧ n ≤ hi) => r_inT (w := W) h
 have cc2 := fun {W : World} (e : Ext w0 W) => r_route (w0 := W) (h1.ext e) ho.ro (by omega)
 have cr1 := fun {W : World} (e : Ext w0 W) => r_owned (w0 := W) (hR.ext e) hO
 have hlen : ∀ n, (gotL r ((Srd.all a).take n)).length ≤ n := fun n => Nat.le_trans (Srd.gotL_len _ _) (by rw [List.length_take]; omega)
 apply e_ref37_reader
 unfold s_ref37_reader
 have h := Hp.init [] w0
 refine bxA h fun g1 w h => ?_
 refine bxA h fun g2 w h => ?_
 refine faS (ld1 h 0 rfl rfl (cl1 h n_ref37_in (cc3 h.ext ‹_›) fun w h => ?_))
 refine Un_T (Gd_F (faS (Gd_F (ld1 h 0 rfl rfl (Gd_F (faS (Gd_F (ld1 h 1 rfl rfl (Gd_F (cl1 h n_ref37_in (cc3 h.ext ‹_›) fun w h => ?_))))))))))
 refine Gd_F (Un_T (Pick_F (Gd_F (faS (Gd_F (ld1 h 0 rfl rfl (Gd_F (faS (Gd_F (ld1 h 1 rfl rfl (Gd_F (leS (hsv.hp h) ?_))))))))))))
 refine Gd_F (cl1 h n_ref37_route (cc2 h.ext) fun w h => ?_)
 refine Gd_F (Un_T (Pick_F (Gd_F (faS (Gd_F (ld1 h 0 rfl rfl (Gd_F (faS (Gd_F (ld1 h 1 rfl rfl (Gd_F (leS (hsv.hp h) ?_))))))))))))
 refine Gd_F (Bn_su (by omega) (by omega) (Gd_F (cl1 h n_ref37_in (cc3 h.ext ‹_›) fun w h => ?_)))
 refine Gd_F (Un_T (Pick_F (If_F (ldA h 1 rfl rfl ?_))))
 refine clR h n_ref37_owned (cr1 h.ext) fun v1 w h => ?_
 have h0 := h.nil tFt 10
 refine Lp2.mk (fun u i W => ∃ j : Nat, j ≤ r.up.toNat ∧ i = .int .i64 j ∧ Hp [] w0 W [ro tFt 10 u (srt (gotL r ((Srd.all a).take j))).length ((srt (gotL r ((Srd.all a).take j))).flatMap fF), ro tHd 11 v1 a.A.length ((Srd.all a).flatMap fH), bx g2 tRd [.int .i64 r.id, .int .i64 r.up, rv, .int .i64 r.nx, gv], bx g1 tSh (cS x a)])
  (fun _ i _ => match i with | .int _ i' => r.up.toNat - i'.toNat | _ => 0) ⟨0, by omega, rfl, h0⟩ ?_
 clear h h0
 rintro u _ W ⟨j, hj, rfl, h⟩
 by_cases hjl : j < r.up.toNat
 rotate_left
 ·have : j = r.up.toNat := by omega
  subst this
  rw [← Srd.got_eq hup.1] at h
  have hgl := Srd.got_len a r
  refine faS (ld1 h 2 rfl rfl (Bn_ltF (by omega) (If_F (faS (ld1 h 2 rfl rfl (cl1 h n_ref37_SameFacts (c_SameFacts (qZ 0 h rfl) (h2.ext h.ext) (by omega)) fun w h => ?_))))))
  exact Ret.mk ⟨h.ext, rfl⟩
 have hal : j < (Srd.all a).length := by rw [Srd.all_len]; omega
 refine Exists.elim (p := fun y => (Srd.all a)[j]? = some y) ⟨_, List.getElem?_eq_getElem hal⟩ fun y hy => ?_
 have hya : y ∈ Srd.all a := List.mem_of_getElem? hy
 have hvf := hO.vf _ (Srd.all_mem hya).1
 have hy2 : y.2 = j := by
  have h3 := Srd.all_get (a := a) (List.getElem?_eq_getElem (by rw [← Srd.all_len]; exact hal))
  rw [hy] at h3
  rw [Option.some.inj h3]
 have sy : Seg ((Srd.all a).flatMap fH) (j * 11) (fH y) := flat_seg (f := fH) (fun _ => rfl) hy
 have sr : Seg (r.ro.flatMap fI) ((y.1.tr % 8).toNat * 1) (fI (Srd.roAt r.ro (y.1.tr % 8))) := ro_seg hO (Srd.slot_bd hvf) hrl
 have cc4 := fun {W : World} (_ : Ext w0 W) => r_of (w := W) (f := y.1) hvf.1
 have hgs := Srd.got_snoc hO r hy
 have hgl := hlen j
 have hsl2 := srt_len (gotL r ((Srd.all a).take j))
 by_cases hlt : Srd.roAt r.ro (y.1.tr % 8) < r.nx
 ·rw [if_pos (show Srd.roAt r.ro (Srd.slot y.1) < r.nx from hlt)] at hgs
  refine faS (ld1 h 2 rfl rfl (Bn_ltT (by omega) (If_T ?_)))
  replace h := h.dr
  refine dfS (dl1 h 2 rfl rfl (diR h 1 rfl (by omega) fun zg zk zv => ?_))
  refine dfS (drP h 1 rfl ‹_› sy (by rfl) ?_)
  refine cl1 h n_ref37_of (cc4 h.ext) fun w h => ?_
  refine kl1 h 2 rfl rfl (diHz h ‹_› (by omega) (by omega) fun zb zo zk zv zc => ?_)
  refine dh0 h ‹_› ‹_› (by rfl) ?_
  refine faS (ld1 h 2 rfl rfl (Bn_ltT (by omega) (If_T (iaR h 1 rfl (by omega) fun zg zk zv => ?_))))
  refine faS (lrP h 1 rfl ‹_› sy (by rfl) ?_)
  refine clR (T := fun v => v) h n_ref37_ordered (r_ordered (qZ 0 h rfl) (by omega)) fun u w h => ?_
  refine Bn_ad (by omega) (by omega) ?_
  refine ⟨⟨j + 1, by omega, rfl, ?_⟩, by show r.up.toNat - ((j : Int) + 1).toNat < r.up.toNat - (j : Int).toNat; omega⟩
  rw [hgs]
  exact h.pick [0, 2, 3, 4] (by decide) rfl
 ·rw [if_neg (show ¬ Srd.roAt r.ro (Srd.slot y.1) < r.nx from hlt)] at hgs
  have hth := Srd.rd_there hO hr hya (by omega) (by show r.nx ≤ Srd.roAt r.ro (y.1.tr % 8); omega)
  have hat := Srd.roAt_bd ho.ro (Srd.slot_bd hvf)
  have hat : 0 ≤ Srd.roAt r.ro (y.1.tr % 8) ∧ Srd.roAt r.ro (y.1.tr % 8) < a.k := hat
  refine Exists.elim (hR.at (i := (Srd.roAt r.ro (y.1.tr % 8)).toNat) (by omega)) fun vt hvt => ?_
  have ht2 := hvt.2
  rw [show (((Srd.roAt r.ro (y.1.tr % 8)).toNat : Nat) : Int) = Srd.roAt r.ro (y.1.tr % 8) by omega] at ht2
  have st : Seg (x.ls.flatMap fV) ((Srd.roAt r.ro (y.1.tr % 8)).toNat * 1) (fV vt) := flat_seg (f := fV) (fun _ => rfl) hvt.1
  have hlt2 : (Srd.store a (Srd.roAt r.ro (y.1.tr % 8))).length ≤ 400 := Nat.le_trans (Srd.store_len a _) hnA
  have cc5 := fun {W : World} (e : Ext w0 W) => r_holds (w0 := W) (ht2.ext e) (by omega) hth
  refine faS (ld1 h 2 rfl rfl (Bn_ltT (by omega) (If_T ?_)))
  replace h := h.dr
  refine dfS (dl1 h 2 rfl rfl (diR h 1 rfl (by omega) fun zg zk zv => ?_))
  refine dfS (drP h 1 rfl ‹_› sy (by rfl) ?_)
  refine cl1 h n_ref37_of (cc4 h.ext) fun w h => ?_
  refine kl1 h 2 rfl rfl (diHz h ‹_› (by omega) (by omega) fun zb zo zk zv zc => ?_)
  refine dh0 h ‹_› ‹_› (by rfl) ?_
  refine faS (ld1 h 2 rfl rfl (Bn_ltF (by omega) (If_F ?_)))
  replace h := h.dr
  refine dfS (dl1 h 3 rfl rfl (diHz h ‹_› (by omega) (by omega) fun zb zo zk zv zc => ?_))
  refine dh0 h ‹_› ‹_› (by rfl) ?_
  refine diR h 1 rfl (by omega) fun zg zk zv => ?_
  refine drA h 1 rfl ‹_› sy (by rfl) ?_
  refine cl1 h n_ref37_holds (cc5 h.ext) fun w h => ?_
  refine Dv_nT (If_F (Bn_ad (by omega) (by omega) ?_))
  refine ⟨⟨j + 1, by omega, rfl, ?_⟩, by show r.up.toNat - ((j : Int) + 1).toNat < r.up.toNat - (j : Int).toNat; omega⟩
  rw [hgs]
  exact h
set_option maxHeartbeats 16000000 in
theorem r_Valid : Calls Tryz.prog 49 #[vSh x a] w0 (Ret fun r w' => Ext w0 w' ∧ r = .bool true) := by
 have hk := hO.k
 have hnA := hO.nA
 have hnr := hO.nr
 have hsv := hR.st
 have hrv := hR.ro
 have hrd := hR.rd
 have hrs := hR.rs
 have hone := hR.one
 have hone5 := hone.2.2.2.2
 have hrl : x.rs.length = a.rd.length := by rw [← hrs, List.length_map]
 have p1 : 2 ≤ (a.k : Int) ∧ (a.k : Int) ≤ 4 := by omega
 have p2 : 0 ≤ (a.A.length : Int) ∧ (a.A.length : Int) ≤ 400 := by omega
 have cc3 := fun {W : World} {n lo hi : Int} (_ : Ext w0 W) (h : lo ≤ n ∧ n ≤ hi) => r_inT (w := W) h
 have cc2 := fun {W : World} (e : Ext w0 W) => r_route (w0 := W) (hrv.ext e) hO.ro (by omega)
 have cc4 := fun {W : World} (e : Ext w0 W) => r_stores (w0 := W) (hR.ext e) hO
 have cc5 := fun {W : World} (e : Ext w0 W) => r_move (w0 := W) (hR.ext e) hO
 apply e_ref37_Valid
 unfold s_ref37_Valid
 have h := Hp.init [] w0
 refine bxA h fun g1 w h => ?_
 refine faS (ld1 h 0 rfl rfl (leS (hsv.hp h) ?_))
 refine cl1 h n_ref37_in (cc3 h.ext ‹_›) fun w h => ?_
 refine Un_T (Gd_F (faS (Gd_F (ld1 h 0 rfl rfl (Gd_F (faS (Gd_F (ld1 h 0 rfl rfl (Gd_F (leS (hsv.hp h) ?_))))))))))
 refine Gd_F (cl1 h n_ref37_route (cc2 h.ext) fun w h => ?_)
 refine Gd_F (Un_T (Pick_F (Gd_F (faS (Gd_F (ld1 h 0 rfl rfl (Gd_F (cl1 h n_ref37_in (cc3 h.ext ‹_›) fun w h => ?_))))))))
 refine Gd_F (Un_T (Pick_F (Gd_F (faS (Gd_F (ld1 h 0 rfl rfl (Gd_F (leS (hrd.hp h) ?_))))))))
 refine Gd_F (Bn_gtF (by omega) (Pick_F (If_F (Lp1.mk (fun i W => ∃ j : Nat, j ≤ a.k ∧ i = .int .i64 j ∧ Hp [] w0 W [bx g1 tSh (cS x a)]) (fun i _ => match i with | .int _ i' => a.k - i'.toNat | _ => 0) ⟨0, by omega, rfl, h⟩ ?_))))
 clear h
 rintro _ W ⟨i, hi, rfl, h⟩
 by_cases hik : i < a.k
 ·refine Exists.elim (hR.at hik) fun v hv => ?_
  have hvi := hv.2
  have sv : Seg (x.ls.flatMap fV) (i * 1) (fV v) := flat_seg (f := fV) (fun _ => rfl) hv.1
  have hsl : (Srd.store a i).length ≤ 400 := Nat.le_trans (Srd.store_len a i) hnA
  refine faS (ld1 h 0 rfl rfl (leS (hsv.hp h) ?_))
  refine Bn_ltT (by omega) (If_T (faS (ld1 h 0 rfl rfl (iaH h ‹_› (by omega) fun zb zo zk zv zc => ?_))))
  refine lh0 h ‹_› ‹_› (by rfl) ?_
  refine leS (hvi.hp h) ?_
  refine Bn_gtF (by omega) (If_F (Bn_ad (by omega) (by omega) ?_))
  exact ⟨⟨i + 1, by omega, rfl, h⟩, by show a.k - ((i : Int) + 1).toNat < a.k - (i : Int).toNat; omega⟩
 refine faS (ld1 h 0 rfl rfl (leS (hsv.hp h) ?_))
 refine Bn_ltF (by omega) (If_F (ldA h 0 rfl rfl ?_))
 refine cl1 h n_ref37_stores (cc4 h.ext) fun w h => ?_
 refine Un_T (Gd_F (ldA h 0 rfl rfl ?_))
 refine Gd_F (cl1 h n_ref37_move (cc5 h.ext) fun w h => ?_)
 refine Gd_F (Un_T (Pick_F (If_F (Lp1.mk (fun i W => ∃ j : Nat, j ≤ x.rs.length ∧ i = .int .i64 j ∧ Hp [] w0 W [bx g1 tSh (cS x a)]) (fun i _ => match i with | .int _ i' => x.rs.length - i'.toNat | _ => 0) ⟨0, by omega, rfl, h⟩ ?_))))
 clear h
 rintro _ W ⟨j, hj, rfl, h⟩
 by_cases hjl : j < x.rs.length
 rotate_left
 ·refine faS (ld1 h 0 rfl rfl (leS (hrd.hp h) ?_))
  refine Bn_ltF (by omega) (If_F ?_)
  exact Ret.mk ⟨h.ext, rfl⟩
 refine Exists.elim (p := fun r => x.rs[j]? = some r) ⟨_, List.getElem?_eq_getElem hjl⟩ fun r hr => ?_
 have hrm : r ∈ x.rs := List.mem_of_getElem? hr
 have hra : r.1 ∈ a.rd := by rw [← hrs]; exact List.mem_map.2 ⟨r, hrm, rfl⟩
 have sr : Seg (x.rs.flatMap fR) (j * 5) (fR r) := flat_seg (f := fR) (fun _ => rfl) hr
 have ho := hone5 r hrm
 have hrr := hR.rr r hrm
 have hpr : ∀ j' : Nat, j' + 1 = j → ∃ u, x.rs[j']? = some u ∧ u.1.id < r.1.id := fun j' hj' => by
  have h1 : j' < x.rs.length := by omega
  refine ⟨_, List.getElem?_eq_getElem h1, ?_⟩
  have h2 := hO.ids
  rw [← hrs, List.pairwise_map] at h2
  have h2 := List.pairwise_iff_getElem.1 h2 j' j h1 hjl (by omega)
  rwa [(List.getElem?_eq_some_iff.1 hr).2] at h2
 have cc6 := fun {W : World} (e : Ext w0 W) => r_reader (w0 := W) (hR.ext e) hO hra (hrr.1.ext e) (hrr.2.ext e)
 by_cases hj0 : j = 0
 ·refine faS (ld1 h 0 rfl rfl (leS (hrd.hp h) ?_))
  refine Bn_ltT (by omega) (If_T ?_)
  replace h := h.dr
  refine dlA h 0 rfl rfl ?_
  refine dfS (dl1 h 0 rfl rfl (diH h ‹_› (by omega) fun zb zo zk zv zc => ?_))
  refine dhA h ‹_› ‹_› (by rfl) ?_
  refine cl1 h n_ref37_reader (cc6 h.ext) fun w h => ?_
  refine Dv_nT (GdP_F (GdP_F (Dv_gtF (by omega) (GdP_F (GdP_FT (GdP_FT (GdP_FT (GdP_FT (GdP_FT (GdP_FT (GdP_FT (GdP_FT (GdP_FT (GdP_FT (GdP_FT (GdP_FT (GdP_FT (GdP_FT (GdP_F (PickP_F (PickP_F (If_F (Bn_ad (by omega) (by omega) ?_)))))))))))))))))))))))
  exact ⟨⟨j + 1, by omega, rfl, h⟩, by show x.rs.length - ((j : Int) + 1).toNat < x.rs.length - (j : Int).toNat; omega⟩
 ·refine Exists.elim (hpr (j - 1) (by omega)) fun u hu => ?_
  have su : Seg (x.rs.flatMap fR) (((j : Int) - 1).toNat * 5) (fR u) := by
   rw [show ((j : Int) - 1).toNat = j - 1 by omega]
   exact flat_seg (f := fR) (fun _ => rfl) hu.1
  have hlt := hu.2
  refine faS (ld1 h 0 rfl rfl (leS (hrd.hp h) ?_))
  refine Bn_ltT (by omega) (If_T ?_)
  replace h := h.dr
  refine dlA h 0 rfl rfl ?_
  refine dfS (dl1 h 0 rfl rfl (diH h ‹_› (by omega) fun zb zo zk zv zc => ?_))
  refine dhA h ‹_› ‹_› (by rfl) ?_
  refine cl1 h n_ref37_reader (cc6 h.ext) fun w h => ?_
  refine Dv_nT (GdP_F (GdP_F (Dv_gtT (by omega) (GdP_F (GdP_T (dfS (GdP_T (dl1 h 0 rfl rfl (GdP_T (GdP_T (diH h ‹_› (by omega) fun zb zo zk zv zc => ?_)))))))))))
  refine GdP_T (dfS (GdP_T (dh1 h ‹_› ‹_› (by rfl) ?_)))
  refine GdP_T (dfS (GdP_T (dl1 h 0 rfl rfl (GdP_T (GdP_T (Dv_su (by omega) (by omega) (GdP_T (diHz h ‹_› (by omega) (by omega) fun zb zo zk zv zc => ?_))))))))
  refine GdP_T (dfS (GdP_T (dh1 h ‹_› ‹_› (by rfl) ?_)))
  refine GdP_T (Dv_leF (by omega) (GdP_F (PickP_T (PickP_F (If_F (Bn_ad (by omega) (by omega) ?_))))))
  exact ⟨⟨j + 1, by omega, rfl, h⟩, by show x.rs.length - ((j : Int) + 1).toNat < x.rs.length - (j : Int).toNat; omega⟩
end
theorem r_New {w0 : World} {k : Nat} (hk : 2 ≤ k ∧ k ≤ 4) : Calls Tryz.prog 22 #[.int .i64 k] w0 (Ret fun r w' => ∃ x, r = .tuple #[vSh x (Srd.new k), .int .i64 0] ∧ Hp [] w0 w' [shE x (Srd.new k) (.slice none 0 0) []]) := by
 have cc1 := fun {W : World} (_ : Ext w0 W) => r_inT (w := W) (n := k) (lo := 2) (hi := 4) (by omega)
 apply e_ref37_New
 unfold s_ref37_New
 have h := Hp.init [] w0
 refine alS h fun g1 w h => ?_
 refine cl1 h n_ref37_in (cc1 h.ext) fun w h => ?_
 refine Un_T (If_F (msS fV (.slice none 0 0) rfl (by decide) h (n := k) (by omega) (by show k * 1 ≤ _; omega) fun sv w hsv h => ?_))
 refine bdS (PC.cons (by first | assumption | exact qY 0 h rfl) PC.nil) (by rfl) ?_
 refine alS h fun g2 w h => ?_
 refine stA h 0 rfl rfl (by exact oneC (a := []) (b := [_, _, _, _, _, _, _, _]) (qZ 1 h rfl) rfl rfl) rfl fun w h => ?_
 dsimp only [List.set] at h
 have h0 := h.nil tIn 1
 refine Lp1.mk (fun i W => ∃ (j : Nat) (rv : Value), j ≤ 8 ∧ i = .int .i64 j ∧ Hp [] w0 W (ro tIn 1 rv j (((List.range j).map fun s : Nat => ((s % k : Nat) : Int)).flatMap fI) :: bx g2 tSh [sv, rv, .int .i64 0, .int .i64 0, .int .i64 0, .int .i64 0, .int .i64 0, .int .i64 0, .slice none 0 0] :: ro tHs 1 sv k ((List.replicate k (.slice none 0 0)).flatMap fV) :: [bx g1 tSh [.slice none 0 0, .slice none 0 0, .int .i64 0, .int .i64 0, .int .i64 0, .int .i64 0, .int .i64 0, .int .i64 0, .slice none 0 0]]))
  (fun i _ => match i with | .int _ i' => 8 - i'.toNat | _ => 0) ⟨0, .slice none 0 0, by omega, rfl, h0⟩ ?_
 clear h h0
 rintro _ W ⟨j, rv, hj, rfl, h⟩
 by_cases hjl : j < 8
 ·refine Bn_ltT (by omega) (If_T ?_)
  replace h := h.dr
  refine dfS (dl1 h 1 rfl rfl (Dv_rm (by omega) (by omega) ?_))
  rw [show (j : Int) % (k : Int) = ((j % k : Nat) : Int) from (Int.natCast_emod _ _).symm]
  have hsn : (List.range (j + 1)).map (fun s : Nat => ((s % k : Nat) : Int)) = (List.range j).map (fun s : Nat => ((s % k : Nat) : Int)) ++ [((j % k : Nat) : Int)] := by rw [List.range_succ, List.map_append]; rfl
  refine bs1A h (by rfl) (by decide) (by rfl) (by decide) fun v1 w h => ?_
  refine kl1 h 2 rfl rfl (apR (by rfl) (by decide) h 1 rfl (qZ 0 h rfl) (by first | rfl | assumption) (by omega) fun v2 w h => ?_)
  refine dfS (st1w h 2 rfl (qZ 1 h rfl) rfl fun w h => ?_)
  refine Bn_ad (by omega) (by omega) ?_
  dsimp only [List.set] at h
  refine ⟨⟨j + 1, v2, by omega, rfl, ?_⟩, by show 8 - ((j : Int) + 1).toNat < 8 - (j : Int).toNat; omega⟩
  rw [hsn, List.flatMap_append]
  exact h.pick [1, 2, 3, 4] (by decide) rfl
 have : j = 8 := by omega
 subst this
 refine Bn_ltF (by omega) (If_F (ldA h 1 rfl rfl ?_))
 have hcs := slc_c1 (qZ 2 h rfl)
 have hcr := slc_c1 (qZ 0 h rfl)
 refine stA h 3 rfl rfl (by simp only [List.all_cons, List.all_nil, hcs.2, hcr.2]; rfl) rfl fun w h => ?_
 dsimp only [List.set] at h
 refine rcA h 3 rfl rfl ?_
 have hnil : ∀ {W : World} {c : Nat}, SlC W c (.slice none 0 0) 0 [] := fun {W c} => ⟨by simp, .inl ⟨rfl, rfl⟩⟩
 have hst : ∀ i : Int, Srd.store (Srd.new k) i = [] := fun i => rfl
 have hl8 : (Srd.new k).ro.length = 8 := by simp [Srd.new]
 have h5 := h.pick [0, 2] (by decide) rfl
 refine Ret.mk ⟨⟨sv, rv, .slice none 0 0, List.replicate k (.slice none 0 0), []⟩, rfl, Hp.all (Lc := [_, _]) (Lr := []) h5 shE_sm (fun w hq => ?_) fun q hq => ?_⟩
 ·refine ⟨⟨ownsRow_sl (hq _ (List.mem_cons_of_mem _ List.mem_cons_self)), fun i v hv => ?_, ?_, hnil, rfl, fun r hr => by cases hr⟩, hnil⟩
  ·have hv2 : v = .slice none 0 0 := by
    have := List.mem_of_getElem? hv
    exact (List.mem_replicate.1 this).2
   rw [hv2, hst]
   exact hnil
  ·rw [hl8]
   exact ownsRow_sl (hq _ List.mem_cons_self)
 ·simp only [kS, List.mem_append, List.flatMap_nil, List.mem_flatMap, List.mem_replicate] at hq
  rcases hq with (hq | hq | hq | ⟨v, hv, hq⟩ | hq) | hq
  ·exact ⟨_, List.mem_cons_of_mem _ List.mem_cons_self, hq⟩
  ·exact ⟨_, List.mem_cons_self, hq⟩
  ·simp [kB, Value.ownBlock] at hq
  ·rw [hv.2] at hq
   simp [kB, Value.ownBlock] at hq
  ·cases hq
  ·simp [kB, Value.ownBlock] at hq
theorem bnX1 {c : Bool} {w : World} {K : Value → World → Prop} (hk : K (.bool true) w) : Bn Tryz.prog .eql tX c v0X v0X w K :=
 bnEqC (xs := [0, 0, 0, 0, 0, 0, 0, 0, 0, 0, 0, 0, 0, 0, 0]) (ys := [0, 0, 0, 0, 0, 0, 0, 0, 0, 0, 0, 0, 0, 0, 0]) (by kernel_rfl) rfl rfl (by rw [decide_eq_true rfl]; exact hk)
section
variable {w0 : World}
theorem r_formed1 {f : Ft} : Calls Tryz.prog 50 #[vX 1 f 0 0 0 0] w0 (Ret fun q w' => Ext w0 w' ∧ q = .bool true) := by
 apply e_ref37_formed
 unfold s_ref37_formed
 have h := Hp.init [] w0
 refine bxA h fun g1 w h => ?_
 refine ldA h 0 rfl rfl ?_
 refine alS h fun g2 w h => ?_
 refine stA h 0 rfl rfl rfl rfl fun w h => ?_
 refine faS (st1 h 0 rfl rfl rfl rfl fun w h => ?_)
 dsimp only [List.set] at h
 refine Jn0.mk fun K hK => ?_
 refine faS (ld1 h 1 rfl rfl (Bn_eqT (by omega) (If_T (bdS PC.nil (by rfl) ?_))))
 refine faS (stA h 0 rfl rfl rfl rfl fun w h => ?_)
 dsimp only [List.set] at h
 refine hK _ ?_
 refine ldA h 0 rfl rfl ?_
 refine bdS PC.nil (by rfl) ?_
 refine bnX1 ?_
 exact Ret.mk ⟨h.ext, rfl⟩
theorem r_formed2 {s t : Int} : Calls Tryz.prog 50 #[vX 2 f0 s t 0 0] w0 (Ret fun q w' => Ext w0 w' ∧ q = .bool true) := by
 apply e_ref37_formed
 unfold s_ref37_formed
 have h := Hp.init [] w0
 refine bxA h fun g1 w h => ?_
 refine ldA h 0 rfl rfl ?_
 refine alS h fun g2 w h => ?_
 refine stA h 0 rfl rfl rfl rfl fun w h => ?_
 refine faS (st1 h 0 rfl rfl rfl rfl fun w h => ?_)
 dsimp only [List.set] at h
 refine Jn0.mk fun K hK => ?_
 refine faS (ld1 h 1 rfl rfl (Bn_eqF (by omega) (If_F (Bn_eqT (by omega) (If_T (faS (st1 h 0 rfl rfl rfl rfl fun w h => ?_)))))))
 refine faS (st1 h 0 rfl rfl rfl rfl fun w h => ?_)
 dsimp only [List.set] at h
 refine hK _ ?_
 refine ldA h 0 rfl rfl ?_
 refine bdS PC.nil (by rfl) ?_
 refine bnX1 ?_
 exact Ret.mk ⟨h.ext, rfl⟩
theorem r_formed3 {m : Int} : Calls Tryz.prog 50 #[vX 3 f0 0 0 m 0] w0 (Ret fun q w' => Ext w0 w' ∧ q = .bool true) := by
 apply e_ref37_formed
 unfold s_ref37_formed
 have h := Hp.init [] w0
 refine bxA h fun g1 w h => ?_
 refine ldA h 0 rfl rfl ?_
 refine alS h fun g2 w h => ?_
 refine stA h 0 rfl rfl rfl rfl fun w h => ?_
 refine faS (st1 h 0 rfl rfl rfl rfl fun w h => ?_)
 dsimp only [List.set] at h
 refine Jn0.mk fun K hK => ?_
 refine faS (ld1 h 1 rfl rfl (Bn_eqF (by omega) (If_F (Bn_eqF (by omega) (If_F (Jn1.mk fun K2 hK2 => ?_))))))
 refine Bn_eqT (by omega) (If_T (hK2 _ _ ?_))
 refine If_T (faS (st1 h 0 rfl rfl rfl rfl fun w h => ?_))
 dsimp only [List.set] at h
 refine hK _ ?_
 refine ldA h 0 rfl rfl ?_
 refine bdS PC.nil (by rfl) ?_
 refine bnX1 ?_
 exact Ret.mk ⟨h.ext, rfl⟩
theorem r_formed4 : Calls Tryz.prog 50 #[vX 4 f0 0 0 0 0] w0 (Ret fun q w' => Ext w0 w' ∧ q = .bool true) := by
 apply e_ref37_formed
 unfold s_ref37_formed
 have h := Hp.init [] w0
 refine bxA h fun g1 w h => ?_
 refine ldA h 0 rfl rfl ?_
 refine alS h fun g2 w h => ?_
 refine stA h 0 rfl rfl rfl rfl fun w h => ?_
 refine faS (st1 h 0 rfl rfl rfl rfl fun w h => ?_)
 dsimp only [List.set] at h
 refine Jn0.mk fun K hK => ?_
 refine faS (ld1 h 1 rfl rfl (Bn_eqF (by omega) (If_F (Bn_eqF (by omega) (If_F (Jn1.mk fun K2 hK2 => ?_))))))
 refine Bn_eqF (by omega) (If_F (Bn_eqF (by omega) (hK2 _ _ ?_)))
 refine If_F (Jn1.mk fun K3 hK3 => ?_)
 refine Bn_eqF (by omega) (If_F (Bn_eqF (by omega) (hK3 _ _ ?_)))
 refine If_F (Bn_eqT (by omega) (If_T (If_T (hK _ ?_))))
 refine ldA h 0 rfl rfl ?_
 refine bdS PC.nil (by rfl) ?_
 refine bnX1 ?_
 exact Ret.mk ⟨h.ext, rfl⟩
theorem r_formed5 {m : Int} : Calls Tryz.prog 50 #[vX 5 f0 0 0 m 0] w0 (Ret fun q w' => Ext w0 w' ∧ q = .bool true) := by
 apply e_ref37_formed
 unfold s_ref37_formed
 have h := Hp.init [] w0
 refine bxA h fun g1 w h => ?_
 refine ldA h 0 rfl rfl ?_
 refine alS h fun g2 w h => ?_
 refine stA h 0 rfl rfl rfl rfl fun w h => ?_
 refine faS (st1 h 0 rfl rfl rfl rfl fun w h => ?_)
 dsimp only [List.set] at h
 refine Jn0.mk fun K hK => ?_
 refine faS (ld1 h 1 rfl rfl (Bn_eqF (by omega) (If_F (Bn_eqF (by omega) (If_F (Jn1.mk fun K2 hK2 => ?_))))))
 refine Bn_eqF (by omega) (If_F (Bn_eqT (by omega) (hK2 _ _ ?_)))
 refine If_T (faS (st1 h 0 rfl rfl rfl rfl fun w h => ?_))
 dsimp only [List.set] at h
 refine hK _ ?_
 refine ldA h 0 rfl rfl ?_
 refine bdS PC.nil (by rfl) ?_
 refine bnX1 ?_
 exact Ret.mk ⟨h.ext, rfl⟩
theorem r_formed6 : Calls Tryz.prog 50 #[vX 6 f0 0 0 0 0] w0 (Ret fun q w' => Ext w0 w' ∧ q = .bool true) := by
 apply e_ref37_formed
 unfold s_ref37_formed
 have h := Hp.init [] w0
 refine bxA h fun g1 w h => ?_
 refine ldA h 0 rfl rfl ?_
 refine alS h fun g2 w h => ?_
 refine stA h 0 rfl rfl rfl rfl fun w h => ?_
 refine faS (st1 h 0 rfl rfl rfl rfl fun w h => ?_)
 dsimp only [List.set] at h
 refine Jn0.mk fun K hK => ?_
 refine faS (ld1 h 1 rfl rfl (Bn_eqF (by omega) (If_F (Bn_eqF (by omega) (If_F (Jn1.mk fun K2 hK2 => ?_))))))
 refine Bn_eqF (by omega) (If_F (Bn_eqF (by omega) (hK2 _ _ ?_)))
 refine If_F (Jn1.mk fun K3 hK3 => ?_)
 refine Bn_eqF (by omega) (If_F (Bn_eqF (by omega) (hK3 _ _ ?_)))
 refine If_F (Bn_eqF (by omega) (If_F (Bn_eqT (by omega) (If_T (hK _ ?_)))))
 refine ldA h 0 rfl rfl ?_
 refine bdS PC.nil (by rfl) ?_
 refine bnX1 ?_
 exact Ret.mk ⟨h.ext, rfl⟩
theorem r_formed7 {r : Int} : Calls Tryz.prog 50 #[vX 7 f0 0 0 0 r] w0 (Ret fun q w' => Ext w0 w' ∧ q = .bool true) := by
 apply e_ref37_formed
 unfold s_ref37_formed
 have h := Hp.init [] w0
 refine bxA h fun g1 w h => ?_
 refine ldA h 0 rfl rfl ?_
 refine alS h fun g2 w h => ?_
 refine stA h 0 rfl rfl rfl rfl fun w h => ?_
 refine faS (st1 h 0 rfl rfl rfl rfl fun w h => ?_)
 dsimp only [List.set] at h
 refine Jn0.mk fun K hK => ?_
 refine faS (ld1 h 1 rfl rfl (Bn_eqF (by omega) (If_F (Bn_eqF (by omega) (If_F (Jn1.mk fun K2 hK2 => ?_))))))
 refine Bn_eqF (by omega) (If_F (Bn_eqF (by omega) (hK2 _ _ ?_)))
 refine If_F (Jn1.mk fun K3 hK3 => ?_)
 refine Bn_eqT (by omega) (If_T (hK3 _ _ ?_))
 refine If_T (faS (st1 h 0 rfl rfl rfl rfl fun w h => ?_))
 dsimp only [List.set] at h
 refine hK _ ?_
 refine ldA h 0 rfl rfl ?_
 refine bdS PC.nil (by rfl) ?_
 refine bnX1 ?_
 exact Ret.mk ⟨h.ext, rfl⟩
theorem r_formed8 {r : Int} : Calls Tryz.prog 50 #[vX 8 f0 0 0 0 r] w0 (Ret fun q w' => Ext w0 w' ∧ q = .bool true) := by
 apply e_ref37_formed
 unfold s_ref37_formed
 have h := Hp.init [] w0
 refine bxA h fun g1 w h => ?_
 refine ldA h 0 rfl rfl ?_
 refine alS h fun g2 w h => ?_
 refine stA h 0 rfl rfl rfl rfl fun w h => ?_
 refine faS (st1 h 0 rfl rfl rfl rfl fun w h => ?_)
 dsimp only [List.set] at h
 refine Jn0.mk fun K hK => ?_
 refine faS (ld1 h 1 rfl rfl (Bn_eqF (by omega) (If_F (Bn_eqF (by omega) (If_F (Jn1.mk fun K2 hK2 => ?_))))))
 refine Bn_eqF (by omega) (If_F (Bn_eqF (by omega) (hK2 _ _ ?_)))
 refine If_F (Jn1.mk fun K3 hK3 => ?_)
 refine Bn_eqF (by omega) (If_F (Bn_eqT (by omega) (hK3 _ _ ?_)))
 refine If_T (faS (st1 h 0 rfl rfl rfl rfl fun w h => ?_))
 dsimp only [List.set] at h
 refine hK _ ?_
 refine ldA h 0 rfl rfl ?_
 refine bdS PC.nil (by rfl) ?_
 refine bnX1 ?_
 exact Ret.mk ⟨h.ext, rfl⟩
theorem r_formed {c : Cmd} : Calls Tryz.prog 50 #[vCmd c] w0 (Ret fun q w' => Ext w0 w' ∧ q = .bool true) := by
 cases c with
 | put f => exact r_formed1
 | beg s t => exact r_formed2
 | cop m => exact r_formed3
 | sw => exact r_formed4
 | dro m => exact r_formed5
 | cra => exact r_formed6
 | opn r => exact r_formed7
 | rea r => exact r_formed8
end
abbrev zR : List Value := [.slice none 0 0, .slice none 0 0, .int .i64 0, .int .i64 0, .int .i64 0, .int .i64 0, .int .i64 0, .int .i64 0, .slice none 0 0]
def rfL (x : Sx) (a : Ab) : List Et :=
 ro tHs 1 x.sv a.k (x.ls.flatMap fV) :: ro tIn 1 x.rv 8 (a.ro.flatMap fI) :: ro tRd 5 x.dv x.rs.length (x.rs.flatMap fR) :: (ros tHd 11 (rwS a x.ls) ++ (ros tIn 1 (rwO x.rs) ++ ros tFt 10 (rwG a x.rs)))
set_option maxHeartbeats 16000000 in
theorem r_Copy {w0 : World} {x : Sx} {a : Ab} (hR : ShR w0 x a) (hO : Srd.Ok a) : Calls Tryz.prog 51 #[vSh x a] w0 (Ret fun r w' => ∃ x', r = vSh x' a ∧ x'.rs.map (·.1) = a.rd ∧ x'.ls.length = a.k ∧ Hp [] w0 w' (rfL x' a)) := by
 have hk := hO.k
 have hnA := hO.nA
 have hnr := hO.nr
 have hsv := hR.st
 have hrv := hR.ro
 have hrd := hR.rd
 have hrs := hR.rs
 have hone := hR.one
 have hal := hR.all9
 have hrl : x.rs.length = a.rd.length := by rw [← hrs, List.length_map]
 have hr8 := hO.ro.len
 have hkl := hR.k
 apply e_ref37_Copy
 unfold s_ref37_Copy
 have h := Hp.init [] w0
 refine bxA h fun g1 w h => ?_
 refine alS h fun g2 w h => ?_
 refine ldA h 1 rfl rfl ?_
 refine alS h fun g3 w h => ?_
 refine stA h 0 rfl rfl hal rfl fun w h => ?_
 dsimp only [List.set] at h
 refine faS (st1 h 0 rfl rfl rfl rfl fun w h => ?_)
 dsimp only [List.set] at h
 have h0 := h.nil tHs 1
 refine Lp1.mk (fun i W => ∃ (j : Nat) (sv : Value) (us : List Value), j ≤ a.k ∧ i = .int .i64 j ∧ us.length = j ∧
  Hp [] w0 W (ro tHs 1 sv j (us.flatMap fV) :: bx g3 tSh [sv, x.rv, .int .i64 a.A.length, .int .i64 a.mv.ph, .int .i64 a.mv.sl, .int .i64 a.mv.fr, .int .i64 a.mv.to, .int .i64 a.mv.cp, x.dv] :: bx g2 tSh zR :: bx g1 tSh (cS x a) :: (ros tHd 11 (rwS a us) ++ [])))
  (fun i _ => match i with | .int _ i' => a.k - i'.toNat | _ => 0) ⟨0, .slice none 0 0, [], by omega, rfl, rfl, h0⟩ ?_
 clear h h0
 rintro _ W ⟨j, sv, us, hj, rfl, huj, h⟩
 by_cases hjl : j < a.k
 ·refine Exists.elim (hR.at hjl) fun v hv => ?_
  have hvi := hv.2
  have ssv : Seg (x.ls.flatMap fV) (j * 1) (fV v) := flat_seg (f := fV) (fun _ => rfl) hv.1
  have hsl : (Srd.store a j).length ≤ 400 := Nat.le_trans (Srd.store_len a j) hnA
  have ha1 : (((Srd.store a j).flatMap fH).all fun x => x.oneCell') = true := one_fH _
  refine faS (ld1 h 3 rfl rfl (leS (hsv.hp h) ?_))
  refine Bn_ltT (by omega) (If_T ?_)
  replace h := h.dr
  refine dfS (dl1 h 1 rfl rfl (dfS (dl1 h 3 rfl rfl (diH h ‹_› (by omega) fun zb zo zk zv zc => ?_))))
  refine dh0 h ‹_› ‹_› (by rfl) ?_
  refine bs0 h fun v1 w h => ?_
  refine kl1 h 2 rfl rfl (kl1 h 4 rfl rfl (kh0 h ‹_› ‹_› (by rfl) ?_))
  refine apR (by rfl) (by decide) h 0 rfl (hvi.hp h) (by first | rfl | assumption) (by omega) fun v2 w h => ?_
  refine kl1 h 2 rfl rfl ?_
  dsimp only [List.set] at h
  have hn0 : ∀ v, ro tHd 11 v (0 + (Srd.store a j).length) ([] ++ (Srd.store a j).flatMap fH) = ro tHd 11 v (Srd.store a j).length ((Srd.store a j).flatMap fH) := fun v => by rw [Nat.zero_add, List.nil_append]
  rw [hn0] at h
  have hc1 := slc_c1 (qZ 0 h rfl)
  refine bs1V h (by rfl) hc1.1 fun v3 w h => ?_
  have ha2 : (([v2] : List Value).all fun x => x.oneCell') = true := by simp only [List.all_cons, List.all_nil, hc1.2]; rfl
  refine kl1 h 3 rfl rfl (apR (by rfl) (by decide) h 2 rfl (qZ 0 h rfl) (by first | rfl | assumption) (by omega) fun v4 w h => ?_)
  refine dfS (st1w h 3 rfl (qZ 2 h rfl) rfl fun w h => ?_)
  refine Bn_ad (by omega) (by omega) ?_
  dsimp only [List.set] at h
  have e : ros tHd 11 (rwS a (us ++ [v2])) = ros tHd 11 (rwS a us) ++ [ro tHd 11 v2 (Srd.store a j).length ((Srd.store a j).flatMap fH)] := by
   rw [rwS_snoc, huj]
   unfold ros
   rw [List.map_append]
   rfl
  have e2 : (us ++ [v2]).flatMap fV = us.flatMap fV ++ [v2] := by rw [List.flatMap_append]; rfl
  refine ⟨⟨j + 1, v4, us ++ [v2], by omega, rfl, by rw [List.length_append, huj]; rfl, ?_⟩, by show a.k - ((j : Int) + 1).toNat < a.k - (j : Int).toNat; omega⟩
  rw [e, e2, List.append_nil]
  have h4 := h.drop 1
  rw [List.append_nil] at h4
  exact h4.perm (List.perm_append_comm (l₁ := [_]) (l₂ := _ :: _ :: _ :: _ :: _))
 have : j = a.k := by omega
 subst this
 have ha3 : ((a.ro.flatMap fI).all fun x => x.oneCell') = true := one_fI _
 refine faS (ld1 h 3 rfl rfl (leS (hsv.hp h) ?_))
 refine Bn_ltF (by omega) (If_F (bs0 h fun v1 w h => ?_))
 refine faS (ld1 h 4 rfl rfl (apR (by rfl) (by decide) h 0 rfl (hrv.hp h) (by first | rfl | assumption) (by omega) fun v2 w h => ?_))
 refine faS (st1w h 2 rfl (qZ 0 h rfl) rfl fun w h => ?_)
 refine faS (st1 h 2 rfl rfl rfl rfl fun w h => ?_)
 dsimp only [List.set] at h
 have hn0 : ∀ v, ro tIn 1 v (0 + a.ro.length) ([] ++ a.ro.flatMap fI) = ro tIn 1 v 8 (a.ro.flatMap fI) := fun v => by rw [Nat.zero_add, List.nil_append, hr8]
 rw [hn0] at h
 rw [List.append_nil] at h
 have h0 : Hp [] w0 w (ro tRd 5 (.slice none 0 0) 0 (([] : List RV).flatMap fR) :: ro tIn 1 v2 8 (a.ro.flatMap fI) :: ro tHs 1 sv a.k (us.flatMap fV) :: bx g3 tSh [sv, v2, .int .i64 a.A.length, .int .i64 a.mv.ph, .int .i64 a.mv.sl, .int .i64 a.mv.fr, .int .i64 a.mv.to, .int .i64 a.mv.cp, .slice none 0 0] :: bx g2 tSh zR :: bx g1 tSh (cS x a) :: (ros tHd 11 (rwS a us) ++ (ros tIn 1 (rwO []) ++ ros tFt 10 (rwG a [])))) := by
  have e : (ros tHd 11 (rwS a us) ++ (ros tIn 1 (rwO []) ++ ros tFt 10 (rwG a []))) = ros tHd 11 (rwS a us) := List.append_nil _
  rw [e]
  exact h.nil tRd 5
 refine Lp1.mk (fun i W => ∃ (j : Nat) (dv : Value) (rs' : List RV), j ≤ x.rs.length ∧ i = .int .i64 j ∧ rs'.length = j ∧ rs'.map (·.1) = (x.rs.take j).map (·.1) ∧
  Hp [] w0 W (ro tRd 5 dv j (rs'.flatMap fR) :: ro tIn 1 v2 8 (a.ro.flatMap fI) :: ro tHs 1 sv a.k (us.flatMap fV) :: bx g3 tSh [sv, v2, .int .i64 a.A.length, .int .i64 a.mv.ph, .int .i64 a.mv.sl, .int .i64 a.mv.fr, .int .i64 a.mv.to, .int .i64 a.mv.cp, dv] :: bx g2 tSh zR :: bx g1 tSh (cS x a) :: (ros tHd 11 (rwS a us) ++ (ros tIn 1 (rwO rs') ++ ros tFt 10 (rwG a rs')))))
  (fun i _ => match i with | .int _ i' => x.rs.length - i'.toNat | _ => 0) ⟨0, .slice none 0 0, [], by omega, rfl, rfl, rfl, h0⟩ ?_
 clear h h0 hn0
 rintro _ W ⟨j, dv, rs', hj, rfl, hrj, hrm, h⟩
 by_cases hjl : j < x.rs.length
 rotate_left
 ·have : j = x.rs.length := by omega
  subst this
  rw [List.take_length] at hrm
  rw [← hrj] at h
  have hc1 := slc_c1 (qZ 0 h rfl)
  have hc2 := slc_c1 (qZ 1 h rfl)
  have hc3 := slc_c1 (qZ 2 h rfl)
  refine faS (ld1 h 5 rfl rfl (leS (hrd.hp h) ?_))
  refine Bn_ltF (by omega) (If_F (ldA h 3 rfl rfl ?_))
  refine stA h 4 rfl rfl (by simp only [List.all_cons, List.all_nil, hc1.2, hc2.2, hc3.2]; rfl) rfl fun w h => ?_
  dsimp only [List.set] at h
  refine rcA h 4 rfl rfl ?_
  refine Ret.mk ⟨⟨sv, v2, dv, us, rs'⟩, rfl, hrm.trans hrs, huj, ?_⟩
  have h5 := Hp.perm h (List.reverse_perm [ro tRd 5 dv rs'.length (rs'.flatMap fR), ro tIn 1 v2 8 (a.ro.flatMap fI), ro tHs 1 sv a.k (us.flatMap fV)] |>.symm.append_right (bx g3 tSh _ :: bx g2 tSh _ :: bx g1 tSh (cS x a) :: (ros tHd 11 (rwS a us) ++ (ros tIn 1 (rwO rs') ++ ros tFt 10 (rwG a rs')))))
  exact (Hp.perm h5 (List.perm_append_comm (l₁ := [_, _, _]) (l₂ := [_, _, _]) |>.append_right (ros tHd 11 (rwS a us) ++ (ros tIn 1 (rwO rs') ++ ros tFt 10 (rwG a rs'))))).drop 3
 refine Exists.elim (p := fun r => x.rs[j]? = some r) ⟨_, List.getElem?_eq_getElem hjl⟩ fun r hr => ?_
 have hrr := hR.rr r (List.mem_of_getElem? hr)
 have hra : r.1 ∈ a.rd := by rw [← hrs]; exact List.mem_map.2 ⟨r, List.mem_of_getElem? hr, rfl⟩
 have hgl := Srd.got_len a r.1
 have hrl8 := (hO.rd r.1 hra).ro.len
 have ho := hone.2.2.2.2 r (List.mem_of_getElem? hr)
 have sr : Seg (x.rs.flatMap fR) (j * 5) (fR r) := flat_seg (f := fR) (fun _ => rfl) hr
 have hv1 := hrr.1
 have hv2 := hrr.2
 have ha4 : ((r.1.ro.flatMap fI).all fun x => x.oneCell') = true := one_fI _
 have ha5 : (((got a r.1).flatMap fF).all fun x => x.oneCell') = true := one_fF _
 refine faS (ld1 h 5 rfl rfl (leS (hrd.hp h) ?_))
 refine Bn_ltT (by omega) (If_T (faS (ld1 h 5 rfl rfl (iaH h ‹_› (by omega) fun zb zo zk zv zc => ?_))))
 refine lhA h ‹_› ‹_› (by rfl) ?_
 refine alS h fun g4 w h => ?_
 refine stA h 0 rfl rfl (by simp only [List.all_cons, List.all_nil, ho.1, ho.2]; rfl) rfl fun w h => ?_
 dsimp only [List.set] at h
 refine bs0 h fun v3 w h => ?_
 refine faS (ld1 h 1 rfl rfl (apR (by rfl) (by decide) h 0 rfl (hv1.hp h) (by first | rfl | assumption) (by omega) fun v4 w h => ?_))
 refine faS (st1w h 1 rfl (qZ 0 h rfl) rfl fun w h => ?_)
 refine bs0 h fun v5 w h => ?_
 refine faS (ld1 h 2 rfl rfl (apR (by rfl) (by decide) h 0 rfl (hv2.hp h) (by first | rfl | assumption) (by omega) fun v6 w h => ?_))
 refine faS (st1w h 2 rfl (qZ 0 h rfl) rfl fun w h => ?_)
 dsimp only [List.set] at h
 refine faS (ld1 h 6 rfl rfl (ldA h 2 rfl rfl ?_))
 refine bs1A h (by rfl) (by decide) (by rfl) (by decide) fun v7 w h => ?_
 have hn4 : ∀ v, ro tIn 1 v (0 + r.1.ro.length) ([] ++ r.1.ro.flatMap fI) = ro tIn 1 v r.1.ro.length (r.1.ro.flatMap fI) := fun v => by rw [Nat.zero_add, List.nil_append]
 have hn6 : ∀ v, ro tFt 10 v (0 + (got a r.1).length) ([] ++ (got a r.1).flatMap fF) = ro tFt 10 v (got a r.1).length ((got a r.1).flatMap fF) := fun v => by rw [Nat.zero_add, List.nil_append]
 rw [hn4, hn6] at h
 have hc4 := slc_c1 (qZ 2 h rfl)
 have hc6 := slc_c1 (qZ 1 h rfl)
 have ha6 : (([.int .i64 r.1.id, .int .i64 r.1.up, v4, .int .i64 r.1.nx, v6] : List Value).all fun x => x.oneCell') = true := by simp only [List.all_cons, List.all_nil, hc4.2, hc6.2]; rfl
 refine apR (by rfl) (by decide) h 4 rfl (qZ 0 h rfl) (by first | rfl | assumption) (by omega) fun v8 w h => ?_
 refine faS (st1w h 7 rfl (qZ 4 h rfl) rfl fun w h => ?_)
 refine Bn_ad (by omega) (by omega) ?_
 dsimp only [List.set] at h
 refine ⟨⟨j + 1, v8, rs' ++ [(r.1, v4, v6)], by omega, rfl, by rw [List.length_append, hrj]; rfl, ?_, ?_⟩, by show x.rs.length - ((j : Int) + 1).toNat < x.rs.length - (j : Int).toNat; omega⟩
 ·rw [List.map_append, hrm, List.take_add_one, hr, List.map_append]; rfl
 ·have eo : ros tIn 1 (rwO (rs' ++ [(r.1, v4, v6)])) = ros tIn 1 (rwO rs') ++ [ro tIn 1 v4 r.1.ro.length (r.1.ro.flatMap fI)] := by
   unfold rwO ros; rw [List.map_append, List.map_append]; rfl
  have eg : ros tFt 10 (rwG a (rs' ++ [(r.1, v4, v6)])) = ros tFt 10 (rwG a rs') ++ [ro tFt 10 v6 (got a r.1).length ((got a r.1).flatMap fF)] := by
   unfold rwG ros; rw [List.map_append, List.map_append]; rfl
  have er : (rs' ++ [(r.1, v4, v6)]).flatMap fR = rs'.flatMap fR ++ fR (r.1, v4, v6) := by rw [List.flatMap_append]; simp
  rw [eo, eg, er]
  have h7 := (Hp.perm (h.drop 1) (List.perm_middle (l₁ := [_, _]))).drop 1
  exact Hp.perm h7 (permP (A := _ :: _ :: _ :: _ :: _ :: [_]))
theorem fin_rowsR {S : List Nat} {w0 w : World} {n : Nat} {x : Sx} {a : Ab} {fv : Value} {l : List Ft} {rows : List Et} (hn : n = x.rs.length) (h : Hp S w0 w (Eng.ro tHs 1 x.sv a.k (x.ls.flatMap fV) :: Eng.ro tIn 1 x.rv a.ro.length (a.ro.flatMap fI) :: Eng.ro tRd 5 x.dv n (x.rs.flatMap fR) :: rows))
 (hls : ∀ (i : Nat) (v : Value), x.ls[i]? = some v → Has rows 11 v (Srd.store a i).length ((Srd.store a i).flatMap fH)) (hrs : x.rs.map (·.1) = a.rd)
 (hro : ∀ r ∈ x.rs, Has rows 1 r.2.1 r.1.ro.length (r.1.ro.flatMap fI)) (hgo : ∀ r ∈ x.rs, Has rows 10 r.2.2 (got a r.1).length ((got a r.1).flatMap fF))
 (hfv : (fv = .slice none 0 0 ∧ l = []) ∨ Has rows 10 fv l.length (l.flatMap fF)) : Hp S w0 w [shE x a fv l] := by
 subst hn
 refine Hp.all (Lc := Eng.ro tHs 1 x.sv a.k (x.ls.flatMap fV) :: Eng.ro tIn 1 x.rv a.ro.length (a.ro.flatMap fI) :: Eng.ro tRd 5 x.dv x.rs.length (x.rs.flatMap fR) :: rows) (Lr := []) (e := shE x a fv l) (by rw [List.append_nil]; exact h) shE_sm (fun w hw => ?_) fun k hk => ?_
 ·have rw' : ∀ {c n v xs}, Has rows c v n xs → SlC w c v n xs := fun ⟨e, he, hq, _⟩ => hq w (hw e (by simp [he]))
  refine ⟨⟨ownsRow_sl (hw (Eng.ro tHs 1 x.sv a.k (x.ls.flatMap fV)) (by simp)), fun i v hv => rw' (hls i v hv), ownsRow_sl (hw (Eng.ro tIn 1 x.rv a.ro.length (a.ro.flatMap fI)) (by simp)), ownsRow_sl (hw (Eng.ro tRd 5 x.dv x.rs.length (x.rs.flatMap fR)) (by simp)), hrs, fun r hr => ⟨rw' (hro r hr), rw' (hgo r hr)⟩⟩, ?_⟩
  rcases hfv with ⟨rfl, rfl⟩ | hfv
  ·exact ⟨rfl, .inl ⟨rfl, rfl⟩⟩
  ·exact rw' hfv
 ·have kk : ∀ {c n v xs}, Has rows c v n xs → k ∈ kB v → ∃ y ∈ Eng.ro tHs 1 x.sv a.k (x.ls.flatMap fV) :: Eng.ro tIn 1 x.rv a.ro.length (a.ro.flatMap fI) :: Eng.ro tRd 5 x.dv x.rs.length (x.rs.flatMap fR) :: rows, k ∈ y.ks := fun ⟨e, he, _, hq⟩ hk => ⟨e, by simp [he], hq k hk⟩
  simp only [kS, List.mem_append] at hk
  rcases hk with (hk | hk | hk | hk | hk) | hk
  ·exact ⟨_, List.mem_cons_self, hk⟩
  ·exact ⟨_, List.mem_cons_of_mem _ List.mem_cons_self, hk⟩
  ·exact ⟨_, List.mem_cons_of_mem _ (List.mem_cons_of_mem _ List.mem_cons_self), hk⟩
  ·obtain ⟨v, hv, hkv⟩ := List.mem_flatMap.1 hk
   obtain ⟨i, hi, rfl⟩ := List.getElem_of_mem hv
   exact kk (hls i _ (List.getElem?_eq_getElem hi)) hkv
  ·obtain ⟨r, hr, hkr⟩ := List.mem_flatMap.1 hk
   rcases List.mem_append.1 hkr with h1 | h1
   ·exact kk (hro r hr) h1
   ·exact kk (hgo r hr) h1
  ·rcases hfv with ⟨rfl, _⟩ | hfv
   ·simp [kB, Value.ownBlock] at hk
   ·exact kk hfv hk
structure Rin (S : List Nat) (w : World) (x : Sx) (a : Ab) : Prop where
 h : Hp S w w (rfL x a)
 ok : Srd.Ok a
 rs : x.rs.map (·.1) = a.rd
 ls : x.ls.length = a.k
theorem Rin.one {S : List Nat} {w : World} {x : Sx} {a : Ab} (h : Rin S w x a) : x.sv.oneCell' = true ∧ x.rv.oneCell' = true ∧ x.dv.oneCell' = true := by
 have h1 := h.h
 unfold rfL at h1
 exact ⟨(slc_c1 (h1.sl (i := 0) rfl)).2, (slc_c1 (h1.sl (i := 1) rfl)).2, (slc_c1 (h1.sl (i := 2) rfl)).2⟩
theorem rfL_take {S : List Nat} {w0 w : World} {x : Sx} {a : Ab} {i : Nat} {v : Value} (h : Hp S w0 w (rfL x a)) (hi : x.ls[i]? = some v) :
 Hp S w0 w (ro tHd 11 v (Srd.store a i).length ((Srd.store a i).flatMap fH) :: ro tHs 1 x.sv a.k (x.ls.flatMap fV) :: ro tIn 1 x.rv 8 (a.ro.flatMap fI) :: ro tRd 5 x.dv x.rs.length (x.rs.flatMap fR) :: (ros tHd 11 ((rwS a x.ls).eraseIdx i) ++ (ros tIn 1 (rwO x.rs) ++ ros tFt 10 (rwG a x.rs)))) := by
 unfold rfL at h
 have h1 := Hp.perm h (List.perm_append_comm (l₁ := [_, _, _]) (l₂ := ros tHd 11 (rwS a x.ls) ++ (ros tIn 1 (rwO x.rs) ++ ros tFt 10 (rwG a x.rs))))
 rw [List.append_assoc] at h1
 have h2 := ros_take (rwS_at hi) h1
 rw [← List.append_assoc] at h2
 refine Hp.perm h2 ?_
 exact List.Perm.cons _ (List.perm_append_comm (l₂ := [_, _, _]))
theorem Rin.shR {S : List Nat} {w : World} {x : Sx} {a : Ab} (hc : Rin S w x a) : ShR w x a := by
 have h := hc.h
 unfold rfL at h
 rw [← hc.ok.ro.len] at h
 have := fin_rowsR (a := a) (fv := .slice none 0 0) (l := []) rfl h (fun i v hv => has_S (us := x.ls) (fun e he => by simp [he]) i v hv) hc.rs (has_O fun e he => by simp [he]) (has_G (a := a) fun e he => by simp [he]) (.inl ⟨rfl, rfl⟩)
 exact (this.get (i := 0) rfl : _ ∧ _).1
def MvAns (S : List Nat) (w0 : World) (x : Sx) (a : Ab) : Option (Ab × List Ft) → Value → World → Prop
 | some p, q, w' => ∃ x', q = .tuple #[vSh x' p.1, .bool true] ∧ Hp S w0 w' [shE x' p.1 (.slice none 0 0) []]
 | none, q, w' => q = .tuple #[vSh x a, .bool false] ∧ Ext w0 w'
section
variable {w0 : World} {S : List Nat} {x : Sx} {a : Ab} (hc : Rin S w0 x a)
include hc
set_option maxHeartbeats 8000000 in
theorem r_beg {s t : Int} : Calls Tryz.prog 56 #[vSh x a, vX 2 f0 s t 0 0] w0 (Ret (MvAns S w0 x a (Srd.step a (.beg s t)))) := by
 have hO := hc.ok
 have hk := hO.k
 have hrl := hO.ro.len
 have hone := hc.one
 have hal := hc.shR.all9
 by_cases hok : a.mv.ph = 0 ∧ (0 ≤ s ∧ s ≤ 7) ∧ (0 ≤ t ∧ t < a.k) ∧ Srd.roAt a.ro s ≠ t
 ·obtain ⟨h0, hs, ht, hne⟩ := hok
  rw [show Srd.step a (.beg s t) = some ({ a with mv := ⟨1, s, Srd.roAt a.ro s, t, -1⟩ }, []) from if_pos ⟨h0, hs, ht, hne⟩]
  have p2 : 0 ≤ t ∧ t ≤ (a.k : Int) - 1 := by omega
  have sr : Seg (a.ro.flatMap fI) (s.toNat * 1) (fI (Srd.roAt a.ro s)) := ro_seg hO hs hrl
  apply e_ref37_moving
  unfold s_ref37_moving
  have h := hc.h
  unfold rfL at h
  refine bxA h fun g1 w h => ?_
  refine bxA h fun g2 w h => ?_
  refine alS h fun g3 w h => ?_
  refine faS (ldA h 2 rfl rfl ?_)
  refine alS h fun g4 w h => ?_
  refine stA h 0 rfl rfl rfl rfl fun w h => ?_
  refine faS (ld1 h 2 rfl rfl (Bn_eqT (by omega) (If_T ?_)))
  replace h := h.dr
  refine dfS (dl1 h 0 rfl rfl (Dv_neF (by omega) (GdP_F (dfS (GdP_F (dl1 h 2 rfl rfl (Gd_F ?_)))))))
  dsimp only [List.set] at h
  refine cl1 h n_ref37_in (r_inT hs) fun w h => ?_
  refine GdP_F (Dv_nT (PickP_F (GdP_F (dfS (GdP_F (dl1 h 2 rfl rfl (GdP_F (dfS (GdP_F (dl1 h 3 rfl rfl (GdP_F (dlS (qZ 4 h rfl) ?_))))))))))))
  refine GdP_F (Dv_su (by omega) (by omega) (Gd_F (cl1 h n_ref37_in (r_inT p2) fun w h => ?_)))
  refine GdP_F (Dv_nT (PickP_F (GdP_F (dfS (GdP_F (dl1 h 3 rfl rfl (GdP_F (dfS (GdP_F (dl1 h 2 rfl rfl (GdP_F (diRz h 5 rfl (by omega) (by omega) fun zg zk zv => ?_))))))))))))
  refine GdP_F (dr0 h 5 rfl ‹_› sr (by rfl) ?_)
  refine GdP_F (dfS (GdP_F (dl1 h 2 rfl rfl (GdP_F (Dv_eqF (by omega) (PickP_F (If_F ?_)))))))
  replace h := h.dr
  refine dfS (dl1 h 2 rfl rfl (dfS (dl1 h 3 rfl rfl (dfS (dl1 h 2 rfl rfl (diRz h 5 rfl (by omega) (by omega) fun zg zk zv => ?_))))))
  refine dr0 h 5 rfl ‹_› sr (by rfl) ?_
  refine dfS (dl1 h 2 rfl rfl (dbS (PC.cons (by rfl) (PC.cons (by rfl) (PC.cons (by rfl) (PC.cons (by rfl) (PC.cons (by rfl) PC.nil))))) (by rfl) ?_))
  refine dfS (stA h 3 rfl rfl rfl rfl fun w h => ?_)
  refine ldA h 3 rfl rfl ?_
  dsimp only [List.set] at h
  refine stA h 1 rfl rfl (by simp only [List.all_cons, List.all_nil, hone.1, hone.2.1, hone.2.2]; rfl) rfl fun w h => ?_
  dsimp only [List.set] at h
  refine rcA h 1 rfl rfl ?_
  have h := h.drop 4
  have e8 := hrl
  rw [← e8] at h
  exact Ret.mk ⟨x, rfl, fin_rowsR (a := { a with mv := ⟨1, s, Srd.roAt a.ro s, t, -1⟩ }) rfl h (fun i v hv => by
   rw [Srd.store_beg hO h0]
   exact has_S (us := x.ls) (fun e he => by simp [he]) i v hv) hc.rs (has_O fun e he => by simp [he]) (has_G (a := a) fun e he => by simp [he]) (.inl ⟨rfl, rfl⟩)⟩
 rw [show Srd.step a (.beg s t) = none from if_neg hok]
 have hR := hc.shR
 have hsv := hR.st
 have hrv := hR.ro
 apply e_ref37_moving
 unfold s_ref37_moving
 have h := Hp.init [] w0
 refine bxA h fun g1 w h => ?_
 refine bxA h fun g2 w h => ?_
 refine alS h fun g3 w h => ?_
 refine faS (ldA h 2 rfl rfl ?_)
 refine alS h fun g4 w h => ?_
 refine stA h 0 rfl rfl rfl rfl fun w h => ?_
 refine faS (ld1 h 2 rfl rfl (Bn_eqT (by omega) (If_T ?_)))
 replace h := h.dr
 refine dfS (dl1 h 0 rfl rfl ?_)
 dsimp only [List.set] at h
 by_cases h0 : a.mv.ph = 0
 rotate_left
 ·refine Dv_neT (by omega) (GdP_TF (GdP_TF (Gd_TF (GdP_TF (PickP_T (GdP_TF (GdP_TF (GdP_TF (GdP_TF (GdP_TF (GdP_TF (Gd_TF (GdP_TF (PickP_T (GdP_TF (GdP_TF (GdP_TF (GdP_TF (GdP_TF (GdP_TF (GdP_TF (GdP_TF (GdP_TF (PickP_T (If_T (ldA h 3 rfl rfl ?_))))))))))))))))))))))))))
  refine stA h 1 rfl rfl hal rfl fun w h => ?_
  dsimp only [List.set] at h
  refine rcA h 1 rfl rfl ?_
  exact Ret.mk ⟨rfl, h.ext⟩
 by_cases hs : 0 ≤ s ∧ s ≤ 7
 rotate_left
 ·refine Dv_neF (by omega) (GdP_F (dfS (GdP_F (dl1 h 2 rfl rfl (Gd_F (cl1 h n_ref37_in (r_inF hs) fun w h => ?_))))))
  refine GdP_F (Dv_nF (PickP_F (GdP_TF (GdP_TF (GdP_TF (GdP_TF (GdP_TF (GdP_TF (Gd_TF (GdP_TF (PickP_T (GdP_TF (GdP_TF (GdP_TF (GdP_TF (GdP_TF (GdP_TF (GdP_TF (GdP_TF (GdP_TF (PickP_T (If_T (ldA h 3 rfl rfl ?_)))))))))))))))))))))))
  refine stA h 1 rfl rfl hal rfl fun w h => ?_
  dsimp only [List.set] at h
  refine rcA h 1 rfl rfl ?_
  exact Ret.mk ⟨rfl, h.ext⟩
 by_cases ht : 0 ≤ t ∧ t ≤ (a.k : Int) - 1
 rotate_left
 ·refine Dv_neF (by omega) (GdP_F (dfS (GdP_F (dl1 h 2 rfl rfl (Gd_F (cl1 h n_ref37_in (r_inT hs) fun w h => ?_))))))
  refine GdP_F (Dv_nT (PickP_F (GdP_F (dfS (GdP_F (dl1 h 2 rfl rfl (GdP_F (dfS (GdP_F (dl1 h 3 rfl rfl (GdP_F (dlS (hsv.hp h) ?_))))))))))))
  refine GdP_F (Dv_su (by omega) (by omega) (Gd_F (cl1 h n_ref37_in (r_inF ht) fun w h => ?_)))
  refine GdP_F (Dv_nF (PickP_F (GdP_TF (GdP_TF (GdP_TF (GdP_TF (GdP_TF (GdP_TF (GdP_TF (GdP_TF (GdP_TF (PickP_T (If_T (ldA h 3 rfl rfl ?_))))))))))))))
  refine stA h 1 rfl rfl hal rfl fun w h => ?_
  dsimp only [List.set] at h
  refine rcA h 1 rfl rfl ?_
  exact Ret.mk ⟨rfl, h.ext⟩
 have hne : Srd.roAt a.ro s = t := by
  apply Classical.byContradiction
  intro hq
  exact hok ⟨h0, hs, by omega, hq⟩
 have sr : Seg (a.ro.flatMap fI) (s.toNat * 1) (fI (Srd.roAt a.ro s)) := ro_seg hO hs hrl
 refine Dv_neF (by omega) (GdP_F (dfS (GdP_F (dl1 h 2 rfl rfl (Gd_F (cl1 h n_ref37_in (r_inT hs) fun w h => ?_))))))
 refine GdP_F (Dv_nT (PickP_F (GdP_F (dfS (GdP_F (dl1 h 2 rfl rfl (GdP_F (dfS (GdP_F (dl1 h 3 rfl rfl (GdP_F (dlS (hsv.hp h) ?_))))))))))))
 refine GdP_F (Dv_su (by omega) (by omega) (Gd_F (cl1 h n_ref37_in (r_inT ht) fun w h => ?_)))
 refine GdP_F (Dv_nT (PickP_F (GdP_F (dfS (GdP_F (dl1 h 3 rfl rfl (GdP_F (dfS (GdP_F (dl1 h 2 rfl rfl (GdP_F (diHz h ‹_› (by omega) (by omega) fun zb zo zk zv zc => ?_))))))))))))
 refine GdP_F (dh0 h ‹_› ‹_› (by rfl) ?_)
 refine GdP_F (dfS (GdP_F (dl1 h 2 rfl rfl (GdP_F (Dv_eqT (by omega) (PickP_F (If_T (ldA h 3 rfl rfl ?_))))))))
 refine stA h 1 rfl rfl hal rfl fun w h => ?_
 dsimp only [List.set] at h
 refine rcA h 1 rfl rfl ?_
 exact Ret.mk ⟨rfl, h.ext⟩
set_option maxHeartbeats 8000000 in
theorem r_sw : Calls Tryz.prog 56 #[vSh x a, vX 4 f0 0 0 0 0] w0 (Ret (MvAns S w0 x a (Srd.step a .sw))) := by
 have hO := hc.ok
 have hk := hO.k
 have hrl := hO.ro.len
 have hone := hc.one
 have hal := hc.shR.all9
 have hm := hO.mv
 have hR := hc.shR
 by_cases h1 : a.mv.ph = 1
 rotate_left
 ·rw [show Srd.step a .sw = none from if_neg fun h => h1 h.1]
  apply e_ref37_moving
  unfold s_ref37_moving
  have h := Hp.init [] w0
  refine bxA h fun g1 w h => ?_
  refine bxA h fun g2 w h => ?_
  refine alS h fun g3 w h => ?_
  refine faS (ldA h 2 rfl rfl ?_)
  refine alS h fun g4 w h => ?_
  refine stA h 0 rfl rfl rfl rfl fun w h => ?_
  refine faS (ld1 h 2 rfl rfl (Bn_eqF (by omega) (If_F (Bn_eqF (by omega) (If_F (Bn_eqT (by omega) (If_T (faS (ld1 h 0 rfl rfl (Bn_neT (by omega) (If_T (ldA h 3 rfl rfl ?_))))))))))))
  dsimp only [List.set] at h
  refine stA h 1 rfl rfl hal rfl fun w h => ?_
  dsimp only [List.set] at h
  refine rcA h 1 rfl rfl ?_
  exact Ret.mk ⟨rfl, h.ext⟩
 have h0 : a.mv.ph ≠ 0 := by omega
 have hs := hm.sl h0
 have hfr := hm.fr h0
 have hto := hm.to h0
 have hne := hm.ne h0
 refine Exists.elim (p := fun v => x.ls[a.mv.fr.toNat]? = some v) ⟨_, List.getElem?_eq_getElem (by rw [hc.ls]; omega)⟩ fun v hvx => ?_
 have hzz : ((a.mv.fr.toNat : Nat) : Int) = a.mv.fr := by omega
 have sf : Seg (x.ls.flatMap fV) (a.mv.fr.toNat * 1) (fV v) := flat_seg (f := fV) (fun _ => rfl) hvx
 have hsl : (Srd.store a a.mv.fr).length ≤ 400 := Nat.le_trans (Srd.store_len a a.mv.fr) hO.nA
 have hol : (ofS a.mv.sl (Srd.store a a.mv.fr)).length ≤ (Srd.store a a.mv.fr).length := List.length_filter_le _ _
 by_cases hn : Srd.nums a a.mv.sl (a.mv.cp + 1) a.A.length = []
 rotate_left
 ·rw [show Srd.step a .sw = none from if_neg fun h => hn h.2]
  have hsv := hR.st
  have hvi := hR.ls a.mv.fr.toNat v hvx
  rw [hzz] at hvi
  refine Exists.elim (Srd.sw_some hO h1 hn) fun y0 hy0 => ?_
  have hz : 0 < (ofS a.mv.sl (Srd.store a a.mv.fr)).length := List.length_pos_of_mem hy0.1
  refine Exists.elim (p := fun y => (ofS a.mv.sl (Srd.store a a.mv.fr))[(ofS a.mv.sl (Srd.store a a.mv.fr)).length - 1]? = some y) ⟨_, List.getElem?_eq_getElem (by omega)⟩ fun y hy => ?_
  have sy : Seg ((ofS a.mv.sl (Srd.store a a.mv.fr)).flatMap fH) ((((ofS a.mv.sl (Srd.store a a.mv.fr)).length : Int) - 1).toNat * 11) (fH y) := by
   rw [show (((ofS a.mv.sl (Srd.store a a.mv.fr)).length : Int) - 1).toNat = (ofS a.mv.sl (Srd.store a a.mv.fr)).length - 1 by omega]
   exact flat_seg (f := fH) (fun _ => rfl) hy
  have hyl := Srd.of_last hy0.1 hy
  have hy1 := hy0.2
  have cr5 := fun {W : World} (e : Ext w0 W) => r_slots (w0 := W) (s := a.mv.sl) (hvi.ext e) (by omega) (tr_store hO)
  apply e_ref37_moving
  unfold s_ref37_moving
  have h := Hp.init [] w0
  refine bxA h fun g1 w h => ?_
  refine bxA h fun g2 w h => ?_
  refine alS h fun g3 w h => ?_
  refine faS (ldA h 2 rfl rfl ?_)
  refine alS h fun g4 w h => ?_
  refine stA h 0 rfl rfl rfl rfl fun w h => ?_
  refine faS (ld1 h 2 rfl rfl (Bn_eqF (by omega) (If_F (Bn_eqF (by omega) (If_F (Bn_eqT (by omega) (If_T (faS (ld1 h 0 rfl rfl (Bn_neF (by omega) (If_F ?_)))))))))))
  replace h := h.dr
  refine dfS (dl1 h 3 rfl rfl (dfS (dl1 h 0 rfl rfl (diHz h ‹_› (by omega) (by omega) fun zb zo zk zv zc => ?_))))
  refine dh0 h ‹_› ‹_› (by rfl) ?_
  refine dfS (dl1 h 0 rfl rfl (clR h n_ref37_slots (cr5 h.ext) fun v1 w h => ?_))
  replace h := h.dr
  refine dlS (qZ 0 h rfl) ?_
  refine Dv_gtT (by omega) (GdP_T (GdP_T (GdP_T (dlS (qZ 0 h rfl) ?_))))
  refine GdP_T (Dv_su (by omega) (by omega) (GdP_T (diRz h 0 rfl (by omega) (by omega) fun zg zk zv => ?_)))
  refine GdP_T (dfS (GdP_T (dr1 h 0 rfl ‹_› sy (by rfl) ?_)))
  refine GdP_T (dfS (GdP_T (dl1 h 1 rfl rfl (GdP_T (Dv_gtT (by omega) (PickP_T (If_T (ldA h 4 rfl rfl ?_))))))))
  dsimp only [List.set] at h
  refine stA h 2 rfl rfl hal rfl fun w h => ?_
  dsimp only [List.set] at h
  refine rcA h 2 rfl rfl ?_
  exact Ret.mk ⟨rfl, h.ext⟩
 rw [show Srd.step a .sw = some (Srd.endd { a with ro := a.ro.set a.mv.sl.toNat a.mv.to, mv := { a.mv with ph := 2, cp := 0 }, lo := 0, hi := a.A.length }, []) from if_pos ⟨h1, hn⟩]
 have h := rfL_take hc.h hvx
 rw [hzz] at h
 have hall := Srd.sw_all hO h1 hn
 obtain ⟨b, hb⟩ : ∃ b : Ab, b = { a with ro := a.ro.set a.mv.sl.toNat a.mv.to, mv := { a.mv with ph := 2, cp := 0 }, lo := 0, hi := a.A.length } := ⟨_, rfl⟩
 have hst := Srd.store_sw hO h1 hn
 rw [← hb] at hst ⊢
 have hb2 : b.mv.ph = 2 := by rw [hb]
 have hbr : Srd.roAt b.ro b.mv.sl = b.mv.to := by
  rw [hb]
  show Srd.roAt (a.ro.set a.mv.sl.toNat a.mv.to) a.mv.sl = a.mv.to
  rw [Srd.roAt_set hrl hs hs, if_pos rfl]
 have hbn : b.mv.fr ≠ b.mv.to := by rw [hb]; exact hne
 have hmv := Srd.endd_len hb2 hbr hbn
 have hA : b.A = a.A := by rw [hb]
 have hkk : b.k = a.k := by rw [hb]
 have hbrd : b.rd = a.rd := by rw [hb]
 have hbro : b.ro = a.ro.set a.mv.sl.toNat a.mv.to := by rw [hb]
 have hball : Srd.all b = Srd.all a := by unfold Srd.all; rw [hA]
 have e1 : b.mv = { a.mv with ph := 2, cp := 0 } := by rw [hb]
 rw [hst, e1] at hmv
 have hmv : (Srd.endd b).mv = if (ofS a.mv.sl (Srd.store a a.mv.fr)).length = 0 then mv0 else { a.mv with ph := 2, cp := 0 } := hmv
 have hr8 : (Srd.endd b).ro.length = 8 := by rw [Srd.endd_ro, hbro, List.length_set]; exact hrl
 have hfin : ∀ {w : World}, Hp S w0 w (ro tHd 11 v (Srd.store a a.mv.fr).length ((Srd.store a a.mv.fr).flatMap fH) :: ro tHs 1 x.sv a.k (x.ls.flatMap fV) :: ro tIn 1 x.rv 8 ((a.ro.set a.mv.sl.toNat a.mv.to).flatMap fI) :: ro tRd 5 x.dv x.rs.length (x.rs.flatMap fR) :: (ros tHd 11 ((rwS a x.ls).eraseIdx a.mv.fr.toNat) ++ (ros tIn 1 (rwO x.rs) ++ ros tFt 10 (rwG a x.rs)))) → Hp S w0 w [shE x (Srd.endd b) (.slice none 0 0) []] := fun {w} h => by
  have h := Hp.perm h (List.perm_middle (l₁ := [_, _, _])).symm
  rw [show a.k = (Srd.endd b).k by rw [Srd.endd_k, hkk], ← hbro, ← Srd.endd_ro b] at h
  rw [← hr8] at h
  refine fin_rowsR (a := Srd.endd b) rfl h (fun i v' hv => ?_) (by rw [Srd.endd_rd, hbrd]; exact hc.rs) (has_O fun e he => by simp [he]) (fun r hr => ?_) (.inl ⟨rfl, rfl⟩)
  ·rw [Srd.store_endd hb2, hst]
   by_cases hi : i = a.mv.fr.toNat
   ·subst hi
    rw [hvx] at hv
    cases hv
    rw [hzz]
    exact Has.ro (t := tHd) (by simp)
   ·exact has_E (us := x.ls) (k := a.mv.fr.toNat) (fun e he => by simp [he]) hi hv
  ·rw [Srd.got_of (a := a) (by rw [Srd.endd_all, hball])]
   exact has_G (a := a) (rs := x.rs) (fun e he => by simp [he]) r hr
 have hans : ∀ m : Mv, (Srd.endd b).mv = m → vSh x (Srd.endd b) = .agg #[x.sv, x.rv, .int .i64 a.A.length, .int .i64 m.ph, .int .i64 m.sl, .int .i64 m.fr, .int .i64 m.to, .int .i64 m.cp, x.dv] := fun m hm => by
  unfold vSh
  rw [hm, Srd.endd_A, hA]
 by_cases hz : (ofS a.mv.sl (Srd.store a a.mv.fr)).length = 0
 ·rw [if_pos hz] at hmv
  apply e_ref37_moving
  unfold s_ref37_moving
  refine bxA h fun g1 w h => ?_
  refine bxA h fun g2 w h => ?_
  refine alS h fun g3 w h => ?_
  refine faS (ldA h 2 rfl rfl ?_)
  refine alS h fun g4 w h => ?_
  refine stA h 0 rfl rfl rfl rfl fun w h => ?_
  refine faS (ld1 h 2 rfl rfl (Bn_eqF (by omega) (If_F (Bn_eqF (by omega) (If_F (Bn_eqT (by omega) (If_T (faS (ld1 h 0 rfl rfl (Bn_neF (by omega) (If_F ?_)))))))))))
  replace h := h.dr
  refine dfS (dl1 h 3 rfl rfl (dfS (dl1 h 0 rfl rfl (diRz h 5 rfl (by omega) (by omega) fun zg zk zv => ?_))))
  refine dr0 h 5 rfl ‹_› sf (by rfl) ?_
  refine dfS (dl1 h 0 rfl rfl ?_)
  dsimp only [List.set] at h
  refine clR (T := fun v => v) h n_ref37_slots (r_slots (qZ 4 h rfl) (by omega) (tr_store hO)) fun u w h => ?_
  replace h := h.dr
  refine dlS (qZ 0 h rfl) ?_
  refine Dv_gtF (by omega) (GdP_FT (GdP_FT (GdP_FT (GdP_FT (GdP_FT (GdP_FT (GdP_FT (GdP_FT (GdP_FT (GdP_FT (PickP_F (If_F (faS (ld1 h 4 rfl rfl (faS (ld1 h 1 rfl rfl (faS (ld1 h 1 rfl rfl (iaRz h 7 rfl (by omega) (by omega) fun zg zk zv => ?_)))))))))))))))))))
  refine stR1 h 7 rfl ‹_› (by rfl) (by rfl) (by omega) fun w h => ?_
  refine faS (faS (st1 h 4 rfl rfl rfl rfl fun w h => ?_))
  refine faS (faS (st1 h 4 rfl rfl rfl rfl fun w h => ?_))
  refine leS (qZ 0 h rfl) ?_
  refine Bn_eqT (by omega) (If_T (bdS PC.nil (by rfl) ?_))
  refine faS (stA h 4 rfl rfl rfl rfl fun w h => ?_)
  dsimp only [List.set] at h
  refine ldA h 4 rfl rfl ?_
  refine stA h 2 rfl rfl (by simp only [List.all_cons, List.all_nil, hone.1, hone.2.1, hone.2.2]; rfl) rfl fun w h => ?_
  dsimp only [List.set] at h
  refine rcA h 2 rfl rfl ?_
  have h := h.drop 5
  rw [set_fI] at h
  exact Ret.mk ⟨x, by show _ = Value.tuple #[vSh x (Srd.endd b), .bool true]; rw [hans mv0 hmv]; rfl, hfin h⟩
 ·rw [if_neg hz] at hmv
  refine Exists.elim (p := fun y => (ofS a.mv.sl (Srd.store a a.mv.fr))[(ofS a.mv.sl (Srd.store a a.mv.fr)).length - 1]? = some y) ⟨_, List.getElem?_eq_getElem (by omega)⟩ fun y hy => ?_
  have sy : Seg ((ofS a.mv.sl (Srd.store a a.mv.fr)).flatMap fH) ((((ofS a.mv.sl (Srd.store a a.mv.fr)).length : Int) - 1).toNat * 11) (fH y) := by
   rw [show (((ofS a.mv.sl (Srd.store a a.mv.fr)).length : Int) - 1).toNat = (ofS a.mv.sl (Srd.store a a.mv.fr)).length - 1 by omega]
   exact flat_seg (f := fH) (fun _ => rfl) hy
  have hyl := hall y (List.mem_of_getElem? hy)
  apply e_ref37_moving
  unfold s_ref37_moving
  refine bxA h fun g1 w h => ?_
  refine bxA h fun g2 w h => ?_
  refine alS h fun g3 w h => ?_
  refine faS (ldA h 2 rfl rfl ?_)
  refine alS h fun g4 w h => ?_
  refine stA h 0 rfl rfl rfl rfl fun w h => ?_
  refine faS (ld1 h 2 rfl rfl (Bn_eqF (by omega) (If_F (Bn_eqF (by omega) (If_F (Bn_eqT (by omega) (If_T (faS (ld1 h 0 rfl rfl (Bn_neF (by omega) (If_F ?_)))))))))))
  replace h := h.dr
  refine dfS (dl1 h 3 rfl rfl (dfS (dl1 h 0 rfl rfl (diRz h 5 rfl (by omega) (by omega) fun zg zk zv => ?_))))
  refine dr0 h 5 rfl ‹_› sf (by rfl) ?_
  refine dfS (dl1 h 0 rfl rfl ?_)
  dsimp only [List.set] at h
  refine clR (T := fun v => v) h n_ref37_slots (r_slots (qZ 4 h rfl) (by omega) (tr_store hO)) fun u w h => ?_
  replace h := h.dr
  refine dlS (qZ 0 h rfl) ?_
  refine Dv_gtT (by omega) (GdP_T (GdP_T (GdP_T (dlS (qZ 0 h rfl) ?_))))
  refine GdP_T (Dv_su (by omega) (by omega) (GdP_T (diRz h 0 rfl (by omega) (by omega) fun zg zk zv => ?_)))
  refine GdP_T (dfS (GdP_T (dr1 h 0 rfl ‹_› sy (by rfl) ?_)))
  refine GdP_T (dfS (GdP_T (dl1 h 1 rfl rfl (GdP_T (Dv_gtF (by omega) (PickP_T (If_F (faS (ld1 h 4 rfl rfl (faS (ld1 h 1 rfl rfl (faS (ld1 h 1 rfl rfl (iaRz h 7 rfl (by omega) (by omega) fun zg zk zv => ?_))))))))))))))
  refine stR1 h 7 rfl ‹_› (by rfl) (by rfl) (by omega) fun w h => ?_
  refine faS (faS (st1 h 4 rfl rfl rfl rfl fun w h => ?_))
  refine faS (faS (st1 h 4 rfl rfl rfl rfl fun w h => ?_))
  refine leS (qZ 0 h rfl) ?_
  refine Bn_eqF (by omega) (If_F (ldA h 4 rfl rfl ?_))
  dsimp only [List.set] at h
  refine stA h 2 rfl rfl (by simp only [List.all_cons, List.all_nil, hone.1, hone.2.1, hone.2.2]; rfl) rfl fun w h => ?_
  dsimp only [List.set] at h
  refine rcA h 2 rfl rfl ?_
  have h := h.drop 5
  rw [set_fI] at h
  exact Ret.mk ⟨x, by show _ = Value.tuple #[vSh x (Srd.endd b), .bool true]; rw [hans _ hmv], hfin h⟩
end
end Go.Proofs.YthdhnhghjecfkaaGreat
namespace Go.Proofs.YthdhnhghjecfkaaGreat
open Go Go.Eng Go.Proofs Go.RowKit
open Go.Srd (Ft VF Hd Mv mv0 Rd Ab Cmd got ltF sam srt plh ofS gotL delN cntL insR insN insS rdd cntP cpy CpI CpL)
set_option maxRecDepth 100000
theorem delN_tr {a : Ab} (hO : Srd.Ok a) {s i : Int} {m : Nat} : ∀ y ∈ delN s m (Srd.store a i), 0 ≤ y.1.tr ∧ y.1.tr ≤ 999 := fun y hy => by
 rw [← Srd.delB_kept] at hy
 obtain ⟨p, hp, rfl⟩ := List.mem_map.1 hy
 exact tr_store hO _ (List.of_mem_zip (List.mem_filter.1 hp).1).1
theorem tk_shR {S : List Nat} {w0 w : World} {x : Sx} {a : Ab} {i : Nat} {v : Value} (h : Hp S w0 w (ro tHd 11 v (Srd.store a i).length ((Srd.store a i).flatMap fH) :: ro tHs 1 x.sv a.k (x.ls.flatMap fV) :: ro tIn 1 x.rv 8 (a.ro.flatMap fI) :: ro tRd 5 x.dv x.rs.length (x.rs.flatMap fR) :: (ros tHd 11 ((rwS a x.ls).eraseIdx i) ++ (ros tIn 1 (rwO x.rs) ++ ros tFt 10 (rwG a x.rs)))))
 (hi : x.ls[i]? = some v) (hO : Srd.Ok a) (hrs : x.rs.map (·.1) = a.rd) : ShR w x a := by
 have h := Hp.perm h (List.perm_middle (l₁ := [_, _, _])).symm
 rw [← hO.ro.len] at h
 have := fin_rowsR (a := a) (fv := .slice none 0 0) (l := []) rfl h (fun j v' hv => by
  by_cases hj : j = i
  ·subst hj
   rw [hi] at hv
   cases hv
   exact Has.ro (t := tHd) (by simp)
  ·exact has_E (us := x.ls) (k := i) (fun e he => by simp [he]) hj hv) hrs (has_O fun e he => by simp [he]) (has_G (a := a) fun e he => by simp [he]) (.inl ⟨rfl, rfl⟩)
 exact (this.get (i := 0) rfl : _ ∧ _).1
section
variable {w0 : World} {S : List Nat} {x : Sx} {a : Ab} (hc : Rin S w0 x a)
include hc
set_option maxHeartbeats 8000000 in
theorem r_cra : Calls Tryz.prog 56 #[vSh x a, vX 6 f0 0 0 0 0] w0 (Ret (MvAns S w0 x a (Srd.step a .cra))) := by
 have hO := hc.ok
 have hk := hO.k
 have hrl := hO.ro.len
 have hone := hc.one
 have hal := hc.shR.all9
 have hm := hO.mv
 by_cases h1 : a.mv.ph = 1
 rotate_left
 ·by_cases h0 : a.mv.ph = 0
  ·rw [show Srd.step a .cra = none from if_pos h0]
   apply e_ref37_moving
   unfold s_ref37_moving
   have h := Hp.init [] w0
   refine bxA h fun g1 w h => ?_
   refine bxA h fun g2 w h => ?_
   refine alS h fun g3 w h => ?_
   refine faS (ldA h 2 rfl rfl ?_)
   refine alS h fun g4 w h => ?_
   refine stA h 0 rfl rfl rfl rfl fun w h => ?_
   refine faS (ld1 h 2 rfl rfl (Bn_eqF (by omega) (If_F (Bn_eqF (by omega) (If_F (Bn_eqF (by omega) (If_F (Bn_eqF (by omega) (If_F ?_)))))))))
   dsimp only [List.set] at h
   refine Jn0.mk fun K hK => ?_
   refine faS (ld1 h 0 rfl rfl (Bn_eqF (by omega) (If_F (hK _ ?_))))
   replace h := h.dr
   refine dlA h 3 rfl rfl ?_
   refine dfS (dl1 h 0 rfl rfl (Dv_neF (by omega) (stA h 1 rfl rfl hal rfl fun w h => ?_)))
   dsimp only [List.set] at h
   refine kl1 h 0 rfl rfl (rcA h 1 rfl rfl ?_)
   exact Ret.mk ⟨rfl, h.ext⟩
  ·have hph := hm.ph
   have h2 : a.mv.ph = 2 := by omega
   rw [show Srd.step a .cra = some (a, []) from (if_neg h0).trans (if_neg h1)]
   apply e_ref37_moving
   unfold s_ref37_moving
   have h := hc.h
   unfold rfL at h
   refine bxA h fun g1 w h => ?_
   refine bxA h fun g2 w h => ?_
   refine alS h fun g3 w h => ?_
   refine faS (ldA h 2 rfl rfl ?_)
   refine alS h fun g4 w h => ?_
   refine stA h 0 rfl rfl rfl rfl fun w h => ?_
   refine faS (ld1 h 2 rfl rfl (Bn_eqF (by omega) (If_F (Bn_eqF (by omega) (If_F (Bn_eqF (by omega) (If_F (Bn_eqF (by omega) (If_F ?_)))))))))
   dsimp only [List.set] at h
   refine Jn0.mk fun K hK => ?_
   refine faS (ld1 h 0 rfl rfl (Bn_eqF (by omega) (If_F (hK _ ?_))))
   replace h := h.dr
   refine dlA h 3 rfl rfl ?_
   refine dfS (dl1 h 0 rfl rfl (Dv_neT (by omega) (stA h 1 rfl rfl hal rfl fun w h => ?_)))
   dsimp only [List.set] at h
   refine kl1 h 0 rfl rfl (rcA h 1 rfl rfl ?_)
   have h := h.drop 4
   rw [← hrl] at h
   exact Ret.mk ⟨x, rfl, fin_rowsR (a := a) rfl h (fun i v hv => has_S (us := x.ls) (fun e he => by simp [he]) i v hv) hc.rs (has_O fun e he => by simp [he]) (has_G (a := a) fun e he => by simp [he]) (.inl ⟨rfl, rfl⟩)⟩
 have h0 : a.mv.ph ≠ 0 := by omega
 have hto := hm.to h0
 rw [show Srd.step a .cra = some ({ a with mv := mv0 }, []) from (if_neg h0).trans (if_pos h1)]
 refine Exists.elim (p := fun v => x.ls[a.mv.to.toNat]? = some v) ⟨_, List.getElem?_eq_getElem (by rw [hc.ls]; omega)⟩ fun v hvx => ?_
 have hzz : ((a.mv.to.toNat : Nat) : Int) = a.mv.to := by omega
 have sf : Seg (x.ls.flatMap fV) (a.mv.to.toNat * 1) (fV v) := flat_seg (f := fV) (fun _ => rfl) hvx
 have h := rfL_take hc.h hvx
 rw [hzz] at h
 have hsl : (Srd.store a a.mv.to).length ≤ 400 := Nat.le_trans (Srd.store_len a a.mv.to) hO.nA
 have hst := Srd.store_cra hO h1
 apply e_ref37_moving
 unfold s_ref37_moving
 refine bxA h fun g1 w h => ?_
 refine bxA h fun g2 w h => ?_
 refine alS h fun g3 w h => ?_
 refine faS (ldA h 2 rfl rfl ?_)
 refine alS h fun g4 w h => ?_
 refine stA h 0 rfl rfl rfl rfl fun w h => ?_
 refine faS (ld1 h 2 rfl rfl (Bn_eqF (by omega) (If_F (Bn_eqF (by omega) (If_F (Bn_eqF (by omega) (If_F (Bn_eqF (by omega) (If_F ?_)))))))))
 dsimp only [List.set] at h
 refine Jn0.mk fun K hK => ?_
 refine faS (ld1 h 0 rfl rfl (Bn_eqT (by omega) (If_T ?_)))
 replace h := h.dr
 refine dfS (dl1 h 3 rfl rfl (dfS (dl1 h 0 rfl rfl (dfS (dl1 h 3 rfl rfl (dfS (dl1 h 0 rfl rfl (diRz h 5 rfl (by omega) (by omega) fun zg zk zv => ?_))))))))
 refine dr0 h 5 rfl ‹_› sf (by rfl) ?_
 refine dfS (dl1 h 0 rfl rfl (clR (T := fun v => v) h n_ref37_without (r_without (m := 400) (qZ 4 h rfl) (by omega) (tr_store hO) (by omega)) fun u w h => ?_))
 refine kl1 h 4 rfl rfl (kl1 h 1 rfl rfl (diRz h 6 rfl (by omega) (by omega) fun zg zk zv => ?_))
 have hc2 := slc_c1 (qZ 0 h rfl)
 refine stR1 h 6 rfl zv hc2.1 hc2.2 (by omega) fun w h => ?_
 dsimp only [List.set] at h
 rw [show List.set (x.ls.flatMap fV) (0 + a.mv.to.toNat * 1) u = (x.ls.set a.mv.to.toNat u).flatMap fV from set_fV] at h
 refine bdS PC.nil (by rfl) ?_
 refine faS (stA h 4 rfl rfl rfl rfl fun w h => ?_)
 dsimp only [List.set] at h
 refine hK _ ?_
 replace h := h.dr
 refine dlA h 4 rfl rfl ?_
 refine dfS (dl1 h 1 rfl rfl (Dv_neT (by omega) (stA h 2 rfl rfl (by simp only [List.all_cons, List.all_nil, hone.1, hone.2.1, hone.2.2]; rfl) rfl fun w h => ?_)))
 dsimp only [List.set] at h
 refine kl1 h 1 rfl rfl (rcA h 2 rfl rfl ?_)
 have h := (Hp.perm h (List.perm_middle (l₁ := [_, _, _, _, _, _, _, _])).symm).drop 5
 have h : Hp S w0 w (ro tHs 1 x.sv a.k ((x.ls.set a.mv.to.toNat u).flatMap fV) :: ro tIn 1 x.rv 8 (a.ro.flatMap fI) :: ro tRd 5 x.dv x.rs.length (x.rs.flatMap fR) :: ro tHd 11 u (delN a.mv.sl 400 (Srd.store a a.mv.to)).length ((delN a.mv.sl 400 (Srd.store a a.mv.to)).flatMap fH) :: (ros tHd 11 ((rwS a x.ls).eraseIdx a.mv.to.toNat) ++ (ros tIn 1 (rwO x.rs) ++ ros tFt 10 (rwG a x.rs)))) := h
 rw [← hrl] at h
 refine Ret.mk ⟨{ x with ls := x.ls.set a.mv.to.toNat u }, rfl, fin_rowsR (x := { x with ls := x.ls.set a.mv.to.toNat u }) (a := { a with mv := mv0 }) rfl h (fun i v' hv => ?_) hc.rs (has_O fun e he => by simp [he]) (has_G (a := a) fun e he => by simp [he]) (.inl ⟨rfl, rfl⟩)⟩
 have hv : (x.ls.set a.mv.to.toNat u)[i]? = some v' := hv
 rw [hst]
 by_cases hi : i = a.mv.to.toNat
 ·subst hi
  rw [List.getElem?_set_self (by rw [hc.ls]; omega)] at hv
  cases hv
  rw [hzz, if_pos rfl]
  exact Has.ro (t := tHd) (by simp)
 ·rw [List.getElem?_set_ne (by omega)] at hv
  rw [if_neg (by omega)]
  exact has_E (us := x.ls) (k := a.mv.to.toNat) (fun e he => by simp [he]) hi hv
set_option maxHeartbeats 8000000 in
theorem r_dro {n : Nat} (hn1 : 1 ≤ n) (hn2 : n ≤ 1000000) : Calls Tryz.prog 56 #[vSh x a, vX 5 f0 0 0 (n : Int) 0] w0 (Ret (MvAns S w0 x a (Srd.step a (.dro n)))) := by
 have hO := hc.ok
 have hk := hO.k
 have hrl := hO.ro.len
 have hone := hc.one
 have hal := hc.shR.all9
 have hm := hO.mv
 have hR := hc.shR
 have hnr := hO.nr
 have hrsl : x.rs.length = a.rd.length := by rw [← hc.rs, List.length_map]
 by_cases h2 : a.mv.ph = 2
 rotate_left
 ·rw [show Srd.step a (.dro n) = none from if_neg fun h => h2 h.1]
  apply e_ref37_moving
  unfold s_ref37_moving
  have h := Hp.init [] w0
  refine bxA h fun g1 w h => ?_
  refine bxA h fun g2 w h => ?_
  refine alS h fun g3 w h => ?_
  refine faS (ldA h 2 rfl rfl ?_)
  refine alS h fun g4 w h => ?_
  refine stA h 0 rfl rfl rfl rfl fun w h => ?_
  refine faS (ld1 h 2 rfl rfl (Bn_eqF (by omega) (If_F (Bn_eqF (by omega) (If_F (Bn_eqF (by omega) (If_F (Bn_eqT (by omega) (If_T (faS (ld1 h 0 rfl rfl (Bn_neT (by omega) (Gd_TF (Gd_TF (Gd_TF (Pick_T (If_T (ldA h 3 rfl rfl ?_))))))))))))))))))
  dsimp only [List.set] at h
  refine stA h 1 rfl rfl hal rfl fun w h => ?_
  dsimp only [List.set] at h
  refine rcA h 1 rfl rfl ?_
  exact Ret.mk ⟨rfl, h.ext⟩
 have h0 : a.mv.ph ≠ 0 := by omega
 have hs := hm.sl h0
 have hfr := hm.fr h0
 have hne := hm.ne h0
 by_cases hw : ∀ r ∈ a.rd, ¬ (Srd.roAt r.ro a.mv.sl = a.mv.fr ∧ r.nx ≤ a.mv.fr)
 rotate_left
 ·rw [show Srd.step a (.dro n) = none from if_neg fun h => hw h.2.2]
  have hdv := hR.rd
  apply e_ref37_moving
  unfold s_ref37_moving
  have h := Hp.init [] w0
  refine bxA h fun g1 w h => ?_
  refine bxA h fun g2 w h => ?_
  refine alS h fun g3 w h => ?_
  refine faS (ldA h 2 rfl rfl ?_)
  refine alS h fun g4 w h => ?_
  refine stA h 0 rfl rfl rfl rfl fun w h => ?_
  refine faS (ld1 h 2 rfl rfl (Bn_eqF (by omega) (If_F (Bn_eqF (by omega) (If_F (Bn_eqF (by omega) (If_F (Bn_eqT (by omega) (If_T (faS (ld1 h 0 rfl rfl (Bn_neF (by omega) (Gd_F (faS (Gd_F (ld1 h 2 rfl rfl (Gd_F (Bn_ltF (by omega) (Pick_F (If_F ?_))))))))))))))))))))
  dsimp only [List.set] at h
  refine Lp1.mk (fun i W => ∃ j : Nat, j ≤ x.rs.length ∧ i = .int .i64 j ∧ (∀ r ∈ x.rs.take j, ¬ (Srd.roAt r.1.ro a.mv.sl = a.mv.fr ∧ r.1.nx ≤ a.mv.fr)) ∧ Hp [] w0 W [bx g4 tMv (fM a.mv), bx g3 tSh zR, bx g2 tX (fX 5 f0 0 0 (n : Int) 0), bx g1 tSh (cS x a)]) (fun i _ => match i with | .int _ i' => x.rs.length - i'.toNat | _ => 0) ⟨0, by omega, rfl, by simp, h⟩ ?_
  clear h
  rintro _ W ⟨j, hj, rfl, hpre, h⟩
  by_cases hjl : j < x.rs.length
  rotate_left
  ·exfalso
   have : j = x.rs.length := by omega
   subst this
   rw [List.take_length] at hpre
   refine hw fun r hr => ?_
   rw [← hc.rs] at hr
   obtain ⟨y, hy, rfl⟩ := List.mem_map.1 hr
   exact hpre y hy
  refine Exists.elim (p := fun r => x.rs[j]? = some r) ⟨_, List.getElem?_eq_getElem hjl⟩ fun r hr => ?_
  have hra : r.1 ∈ a.rd := by rw [← hc.rs]; exact List.mem_map.2 ⟨r, List.mem_of_getElem? hr, rfl⟩
  have sr : Seg (x.rs.flatMap fR) (j * 5) (fR r) := flat_seg (f := fR) (fun _ => rfl) hr
  have hrr := (hR.rr r (List.mem_of_getElem? hr)).1
  have hr8 := (hO.rd r.1 hra).ro.len
  have srr : Seg (r.1.ro.flatMap fI) (a.mv.sl.toNat * 1) (fI (Srd.roAt r.1.ro a.mv.sl)) := ro_seg hO hs hr8
  have hnx : (¬ (Srd.roAt r.1.ro a.mv.sl = a.mv.fr ∧ r.1.nx ≤ a.mv.fr)) → ∀ r ∈ x.rs.take (j + 1), ¬ (Srd.roAt r.1.ro a.mv.sl = a.mv.fr ∧ r.1.nx ≤ a.mv.fr) := fun hno y hy => by
   rw [List.take_add_one, hr] at hy
   rcases List.mem_append.1 hy with hy | hy
   ·exact hpre y hy
   ·have : y = r := by simpa using hy
    rw [this]; exact hno
  by_cases q1 : Srd.roAt r.1.ro a.mv.sl = a.mv.fr
  ·by_cases q2 : r.1.nx ≤ a.mv.fr
   ·refine faS (ld1 h 3 rfl rfl (leS (hdv.hp h) ?_))
    refine Bn_ltT (by omega) (If_T ?_)
    replace h := h.dr
    refine dfS (dl1 h 3 rfl rfl (diH h ‹_› (by omega) fun zb zo zk zv zc => ?_))
    refine dfS (dh1 h ‹_› ‹_› (by rfl) ?_)
    refine dfS (dl1 h 0 rfl rfl (diHz h ‹_› (by omega) (by omega) fun zb zo zk zv zc => ?_))
    refine dh0 h ‹_› ‹_› (by rfl) ?_
    refine dfS (dl1 h 0 rfl rfl (Dv_eqT (by omega) (GdP_T (dfS (GdP_T (dl1 h 3 rfl rfl (GdP_T (GdP_T (diH h ‹_› (by omega) fun zb zo zk zv zc => ?_)))))))))
    refine GdP_T (dfS (GdP_T (dh1 h ‹_› ‹_› (by rfl) ?_)))
    refine GdP_T (dfS (GdP_T (dl1 h 0 rfl rfl (GdP_T (Dv_leT (by omega) (PickP_T (If_T (ldA h 3 rfl rfl ?_))))))))
    refine stA h 1 rfl rfl hal rfl fun w h => ?_
    dsimp only [List.set] at h
    refine rcA h 1 rfl rfl ?_
    exact Ret.mk ⟨rfl, h.ext⟩
   ·have q3 := hnx fun hc => q2 hc.2
    refine faS (ld1 h 3 rfl rfl (leS (hdv.hp h) ?_))
    refine Bn_ltT (by omega) (If_T ?_)
    replace h := h.dr
    refine dfS (dl1 h 3 rfl rfl (diH h ‹_› (by omega) fun zb zo zk zv zc => ?_))
    refine dfS (dh1 h ‹_› ‹_› (by rfl) ?_)
    refine dfS (dl1 h 0 rfl rfl (diHz h ‹_› (by omega) (by omega) fun zb zo zk zv zc => ?_))
    refine dh0 h ‹_› ‹_› (by rfl) ?_
    refine dfS (dl1 h 0 rfl rfl (Dv_eqT (by omega) (GdP_T (dfS (GdP_T (dl1 h 3 rfl rfl (GdP_T (GdP_T (diH h ‹_› (by omega) fun zb zo zk zv zc => ?_)))))))))
    refine GdP_T (dfS (GdP_T (dh1 h ‹_› ‹_› (by rfl) ?_)))
    refine GdP_T (dfS (GdP_T (dl1 h 0 rfl rfl (GdP_T (Dv_leF (by omega) (PickP_T (If_F (Bn_ad (by omega) (by omega) ?_))))))))
    exact ⟨⟨j + 1, by omega, rfl, q3, h⟩, by show x.rs.length - ((j : Int) + 1).toNat < x.rs.length - (j : Int).toNat; omega⟩
  ·have q3 := hnx fun hc => q1 hc.1
   refine faS (ld1 h 3 rfl rfl (leS (hdv.hp h) ?_))
   refine Bn_ltT (by omega) (If_T ?_)
   replace h := h.dr
   refine dfS (dl1 h 3 rfl rfl (diH h ‹_› (by omega) fun zb zo zk zv zc => ?_))
   refine dfS (dh1 h ‹_› ‹_› (by rfl) ?_)
   refine dfS (dl1 h 0 rfl rfl (diHz h ‹_› (by omega) (by omega) fun zb zo zk zv zc => ?_))
   refine dh0 h ‹_› ‹_› (by rfl) ?_
   refine dfS (dl1 h 0 rfl rfl (Dv_eqF (by omega) (GdP_FT (GdP_FT (GdP_FT (GdP_FT (GdP_FT (GdP_FT (GdP_FT (GdP_FT (GdP_FT (PickP_F (If_F (Bn_ad (by omega) (by omega) ?_))))))))))))))
   exact ⟨⟨j + 1, by omega, rfl, q3, h⟩, by show x.rs.length - ((j : Int) + 1).toNat < x.rs.length - (j : Int).toNat; omega⟩
 have hstep : Srd.step a (.dro n) = some (Srd.endd { a with lo := (((Srd.nums a a.mv.sl a.lo a.hi).drop n).head?).getD a.hi }, []) := if_pos ⟨h2, by omega, hw⟩
 rw [hstep]
 refine Exists.elim (p := fun v => x.ls[a.mv.fr.toNat]? = some v) ⟨_, List.getElem?_eq_getElem (by rw [hc.ls]; omega)⟩ fun v hvx => ?_
 have hzz : ((a.mv.fr.toNat : Nat) : Int) = a.mv.fr := by omega
 have sf : Seg (x.ls.flatMap fV) (a.mv.fr.toNat * 1) (fV v) := flat_seg (f := fV) (fun _ => rfl) hvx
 have h := rfL_take hc.h hvx
 have hsl : (Srd.store a a.mv.fr).length ≤ 400 := Nat.le_trans (Srd.store_len a a.mv.fr) hO.nA
 obtain ⟨b, hb⟩ : ∃ b : Ab, b = { a with lo := (((Srd.nums a a.mv.sl a.lo a.hi).drop n).head?).getD a.hi } := ⟨_, rfl⟩
 have hst := Srd.store_dro hO h2 n
 rw [← hb] at hst ⊢
 have hb2 : b.mv.ph = 2 := by rw [hb]; exact h2
 have hmb : b.mv = a.mv := by rw [hb]
 have hbr : Srd.roAt b.ro b.mv.sl = b.mv.to := by rw [hb]; exact (hm.c2 h2).1
 have hbn : b.mv.fr ≠ b.mv.to := by rw [hb]; exact hne
 have hmv := Srd.endd_len hb2 hbr hbn
 have hA : b.A = a.A := by rw [hb]
 have hkk : b.k = a.k := by rw [hb]
 have hbrd : b.rd = a.rd := by rw [hb]
 have hbro : b.ro = a.ro := by rw [hb]
 have hball : Srd.all b = Srd.all a := by unfold Srd.all; rw [hA]
 rw [hst, hmb, if_pos rfl] at hmv
 have hr8 : (Srd.endd b).ro.length = 8 := by rw [Srd.endd_ro, hbro]; exact hrl
 have hdl : (delN a.mv.sl n (Srd.store a a.mv.fr)).length ≤ 1000 := Nat.le_trans delN_len (by omega)
 have hol : (ofS a.mv.sl (delN a.mv.sl n (Srd.store a a.mv.fr))).length ≤ (delN a.mv.sl n (Srd.store a a.mv.fr)).length := List.length_filter_le _ _
 have hfin : ∀ {w : World} {u : Value}, Hp S w0 w (ro tHs 1 x.sv a.k ((x.ls.set a.mv.fr.toNat u).flatMap fV) :: ro tIn 1 x.rv 8 (a.ro.flatMap fI) :: ro tRd 5 x.dv x.rs.length (x.rs.flatMap fR) :: ro tHd 11 u (delN a.mv.sl n (Srd.store a a.mv.fr)).length ((delN a.mv.sl n (Srd.store a a.mv.fr)).flatMap fH) :: (ros tHd 11 ((rwS a x.ls).eraseIdx a.mv.fr.toNat) ++ (ros tIn 1 (rwO x.rs) ++ ros tFt 10 (rwG a x.rs)))) → Hp S w0 w [shE { x with ls := x.ls.set a.mv.fr.toNat u } (Srd.endd b) (.slice none 0 0) []] := fun {w u} h => by
  rw [show a.k = (Srd.endd b).k by rw [Srd.endd_k, hkk], ← hbro, ← Srd.endd_ro b] at h
  rw [← hr8] at h
  refine fin_rowsR (x := { x with ls := x.ls.set a.mv.fr.toNat u }) (a := Srd.endd b) rfl h (fun i v' hv => ?_) (by rw [Srd.endd_rd, hbrd]; exact hc.rs) (has_O fun e he => by simp [he]) (fun r hr => ?_) (.inl ⟨rfl, rfl⟩)
  ·have hv : (x.ls.set a.mv.fr.toNat u)[i]? = some v' := hv
   rw [Srd.store_endd hb2, hst]
   by_cases hi : i = a.mv.fr.toNat
   ·subst hi
    rw [List.getElem?_set_self (by rw [hc.ls]; omega)] at hv
    cases hv
    rw [hzz, if_pos rfl]
    exact Has.ro (t := tHd) (by simp)
   ·rw [List.getElem?_set_ne (by omega)] at hv
    rw [if_neg (by omega)]
    exact has_E (us := x.ls) (k := a.mv.fr.toNat) (fun e he => by simp [he]) hi hv
  ·rw [Srd.got_of (a := a) (by rw [Srd.endd_all, hball])]
   exact has_G (a := a) (rs := x.rs) (fun e he => by simp [he]) r hr
 have hans : ∀ (m : Mv) (u : Value), (Srd.endd b).mv = m → vSh { x with ls := x.ls.set a.mv.fr.toNat u } (Srd.endd b) = .agg #[x.sv, x.rv, .int .i64 a.A.length, .int .i64 m.ph, .int .i64 m.sl, .int .i64 m.fr, .int .i64 m.to, .int .i64 m.cp, x.dv] := fun m u hm => by
  unfold vSh
  rw [hm, Srd.endd_A, hA]
 apply e_ref37_moving
 unfold s_ref37_moving
 refine bxA h fun g1 w h => ?_
 refine bxA h fun g2 w h => ?_
 refine alS h fun g3 w h => ?_
 refine faS (ldA h 2 rfl rfl ?_)
 refine alS h fun g4 w h => ?_
 refine stA h 0 rfl rfl rfl rfl fun w h => ?_
 refine faS (ld1 h 2 rfl rfl (Bn_eqF (by omega) (If_F (Bn_eqF (by omega) (If_F (Bn_eqF (by omega) (If_F (Bn_eqT (by omega) (If_T (faS (ld1 h 0 rfl rfl (Bn_neF (by omega) (Gd_F (faS (Gd_F (ld1 h 2 rfl rfl (Gd_F (Bn_ltF (by omega) (Pick_F (If_F ?_))))))))))))))))))))
 dsimp only [List.set] at h
 have hRw := tk_shR (h.drop 4) hvx hO hc.rs
 have hb4 := (h.get (i := 0) rfl : Blk _ _ _ _)
 have hb3 := (h.get (i := 1) rfl : Blk _ _ _ _)
 have hb2' := (h.get (i := 2) rfl : Blk _ _ _ _)
 have hb1 := (h.get (i := 3) rfl : Blk _ _ _ _)
 rw [hzz] at h
 have hL := h
 have hdv := hRw.rd
 clear h
 have h := Hp.init [] w
 refine Lp1.mk (fun i W => ∃ j : Nat, j ≤ x.rs.length ∧ i = .int .i64 j ∧ Hp [] w W []) (fun i _ => match i with | .int _ i' => x.rs.length - i'.toNat | _ => 0) ⟨0, by omega, rfl, h⟩ ?_
 clear h
 rintro _ W ⟨j, hj, rfl, h⟩
 by_cases hjl : j < x.rs.length
 ·refine Exists.elim (p := fun r => x.rs[j]? = some r) ⟨_, List.getElem?_eq_getElem hjl⟩ fun r hr => ?_
  have hra : r.1 ∈ a.rd := by rw [← hc.rs]; exact List.mem_map.2 ⟨r, List.mem_of_getElem? hr, rfl⟩
  have sr : Seg (x.rs.flatMap fR) (j * 5) (fR r) := flat_seg (f := fR) (fun _ => rfl) hr
  have hrr := (hRw.rr r (List.mem_of_getElem? hr)).1
  have hr8 := (hO.rd r.1 hra).ro.len
  have srr : Seg (r.1.ro.flatMap fI) (a.mv.sl.toNat * 1) (fI (Srd.roAt r.1.ro a.mv.sl)) := ro_seg hO hs hr8
  have hno := hw r.1 hra
  by_cases q1 : Srd.roAt r.1.ro a.mv.sl = a.mv.fr
  ·have q2 : ¬ r.1.nx ≤ a.mv.fr := fun hc => hno ⟨q1, hc⟩
   refine faS (lg1 h ‹_› (by rfl) ?_)
   refine leS (hdv.hp h) ?_
   refine Bn_ltT (by omega) (If_T ?_)
   replace h := h.dr
   refine dfS (dg1 h ‹_› (by rfl) ?_)
   refine diH h ‹_› (by omega) fun zb zo zk zv zc => ?_
   refine dfS (dh1 h ‹_› ‹_› (by rfl) ?_)
   refine dfS (dg1 h ‹_› (by rfl) ?_)
   refine diHz h ‹_› (by omega) (by omega) fun zb zo zk zv zc => ?_
   refine dh0 h ‹_› ‹_› (by rfl) ?_
   refine dfS (dg1 h ‹_› (by rfl) ?_)
   refine Dv_eqT (by omega) (GdP_T (dfS (GdP_T (dg1 h ‹_› (by rfl) ?_))))
   refine GdP_T (GdP_T (diH h ‹_› (by omega) fun zb zo zk zv zc => ?_))
   refine GdP_T (dfS (GdP_T (dh1 h ‹_› ‹_› (by rfl) ?_)))
   refine GdP_T (dfS (GdP_T (dg1 h ‹_› (by rfl) ?_)))
   refine GdP_T (Dv_leF (by omega) (PickP_T (If_F (Bn_ad (by omega) (by omega) ?_))))
   exact ⟨⟨j + 1, by omega, rfl, h⟩, by show x.rs.length - ((j : Int) + 1).toNat < x.rs.length - (j : Int).toNat; omega⟩
  ·refine faS (lg1 h ‹_› (by rfl) ?_)
   refine leS (hdv.hp h) ?_
   refine Bn_ltT (by omega) (If_T ?_)
   replace h := h.dr
   refine dfS (dg1 h ‹_› (by rfl) ?_)
   refine diH h ‹_› (by omega) fun zb zo zk zv zc => ?_
   refine dfS (dh1 h ‹_› ‹_› (by rfl) ?_)
   refine dfS (dg1 h ‹_› (by rfl) ?_)
   refine diHz h ‹_› (by omega) (by omega) fun zb zo zk zv zc => ?_
   refine dh0 h ‹_› ‹_› (by rfl) ?_
   refine dfS (dg1 h ‹_› (by rfl) ?_)
   refine Dv_eqF (by omega) (GdP_FT (GdP_FT (GdP_FT (GdP_FT (GdP_FT (GdP_FT (GdP_FT (GdP_FT (GdP_FT (PickP_F (If_F (Bn_ad (by omega) (by omega) ?_))))))))))))
   exact ⟨⟨j + 1, by omega, rfl, h⟩, by show x.rs.length - ((j : Int) + 1).toNat < x.rs.length - (j : Int).toNat; omega⟩
 have : j = x.rs.length := by omega
 subst this
 refine faS (lg1 h ‹_› (by rfl) ?_)
 refine leS (hdv.hp h) ?_
 refine Bn_ltF (by omega) (If_F ?_)
 replace h := h.dr
 refine dfS (dg1 h ‹_› (by rfl) ?_)
 refine dfS (dg1 h ‹_› (by rfl) ?_)
 refine dfS (dg1 h ‹_› (by rfl) ?_)
 refine dfS (dg1 h ‹_› (by rfl) ?_)
 have h := hL.x h.ext
 clear hL hdv hRw hb4 hb3 hb2' hb1
 refine diRz h 5 rfl (by omega) (by omega) fun zg zk zv => ?_
 refine dr0 h 5 rfl ‹_› sf (by rfl) ?_
 refine dfS (dl1 h 0 rfl rfl (dfS (dl1 h 2 rfl rfl (clR (T := fun v => v) h n_ref37_without (r_without (m := n) (qZ 4 h rfl) (by omega) (tr_store hO) (by omega)) fun u w h => ?_))))
 refine kl1 h 4 rfl rfl (kl1 h 1 rfl rfl (diRz h 6 rfl (by omega) (by omega) fun zg zk zv => ?_))
 have hc2 := slc_c1 (qZ 0 h rfl)
 refine stR1 h 6 rfl zv hc2.1 hc2.2 (by omega) fun w h => ?_
 dsimp only [List.set] at h
 rw [show List.set (x.ls.flatMap fV) (0 + a.mv.fr.toNat * 1) u = (x.ls.set a.mv.fr.toNat u).flatMap fV from set_fV] at h
 have sf2 : Seg ((x.ls.set a.mv.fr.toNat u).flatMap fV) (a.mv.fr.toNat * 1) (fV u) := flat_seg (f := fV) (fun _ => rfl) (by rw [List.getElem?_set_self (by rw [hc.ls]; omega)])
 replace h := h.dr
 refine dfS (dl1 h 4 rfl rfl (dfS (dl1 h 1 rfl rfl (diRz h 6 rfl (by omega) (by omega) fun zg zk zv => ?_))))
 refine dr0 h 6 rfl ‹_› ‹_› (by rfl) ?_
 refine dfS (dl1 h 1 rfl rfl (clR (T := fun v => v) h n_ref37_slots (r_slots (qZ 0 h rfl) (by omega) (delN_tr hO)) fun u2 w h => ?_))
 by_cases hz : (ofS a.mv.sl (delN a.mv.sl n (Srd.store a a.mv.fr))).length = 0
 ·rw [if_pos hz] at hmv
  refine dlS (qZ 0 h rfl) ?_
  refine Dv_eqT (by omega) (If_T (bdS PC.nil (by rfl) ?_))
  refine faS (stA h 5 rfl rfl rfl rfl fun w h => ?_)
  refine ldA h 5 rfl rfl ?_
  dsimp only [List.set] at h
  refine stA h 3 rfl rfl (by simp only [List.all_cons, List.all_nil, hone.1, hone.2.1, hone.2.2]; rfl) rfl fun w h => ?_
  dsimp only [List.set] at h
  refine rcA h 3 rfl rfl ?_
  have h := (Hp.perm (h.drop 1) (List.perm_middle (l₁ := [_, _, _, _, _, _, _, _])).symm).drop 5
  exact Ret.mk ⟨{ x with ls := x.ls.set a.mv.fr.toNat u }, by show _ = Value.tuple #[vSh { x with ls := x.ls.set a.mv.fr.toNat u } (Srd.endd b), .bool true]; rw [hans _ _ hmv]; rfl, hfin h⟩
 ·rw [if_neg hz] at hmv
  refine dlS (qZ 0 h rfl) ?_
  refine Dv_eqF (by omega) (If_F (ldA h 5 rfl rfl ?_))
  refine stA h 3 rfl rfl (by simp only [List.all_cons, List.all_nil, hone.1, hone.2.1, hone.2.2]; rfl) rfl fun w h => ?_
  dsimp only [List.set] at h
  refine rcA h 3 rfl rfl ?_
  have h := (Hp.perm (h.drop 1) (List.perm_middle (l₁ := [_, _, _, _, _, _, _, _])).symm).drop 5
  exact Ret.mk ⟨{ x with ls := x.ls.set a.mv.fr.toNat u }, by show _ = Value.tuple #[vSh { x with ls := x.ls.set a.mv.fr.toNat u } (Srd.endd b), .bool true]; rw [hans _ _ hmv], hfin h⟩
end
section
variable {w0 : World} {S : List Nat} {x : Sx} {a : Ab} (hc : Rin S w0 x a)
include hc
set_option maxHeartbeats 16000000 in
theorem r_cop {n : Nat} (hn1 : 1 ≤ n) (hn2 : n ≤ 1000000) : Calls Tryz.prog 56 #[vSh x a, vX 3 f0 0 0 (n : Int) 0] w0 (Ret (MvAns S w0 x a (Srd.step a (.cop n)))) := by
 have hO := hc.ok
 have hk := hO.k
 have hrl := hO.ro.len
 have hone := hc.one
 have hal := hc.shR.all9
 have hm := hO.mv
 have hnA := hO.nA
 by_cases h1 : a.mv.ph = 1
 rotate_left
 ·rw [show Srd.step a (.cop n) = none from if_neg fun h => h1 h.1]
  apply e_ref37_moving
  unfold s_ref37_moving
  have h := Hp.init [] w0
  refine bxA h fun g1 w h => ?_
  refine bxA h fun g2 w h => ?_
  refine alS h fun g3 w h => ?_
  refine faS (ldA h 2 rfl rfl ?_)
  refine alS h fun g4 w h => ?_
  refine stA h 0 rfl rfl rfl rfl fun w h => ?_
  refine faS (ld1 h 2 rfl rfl (Bn_eqF (by omega) (If_F (Bn_eqT (by omega) (If_T (faS (ld1 h 0 rfl rfl (Bn_neT (by omega) (Gd_TF (Gd_TF (Gd_TF (Pick_T (If_T (ldA h 3 rfl rfl ?_))))))))))))))
  dsimp only [List.set] at h
  refine stA h 1 rfl rfl hal rfl fun w h => ?_
  dsimp only [List.set] at h
  refine rcA h 1 rfl rfl ?_
  exact Ret.mk ⟨rfl, h.ext⟩
 have h0 : a.mv.ph ≠ 0 := by omega
 have hs := hm.sl h0
 have hfr := hm.fr h0
 have hto := hm.to h0
 have hne := hm.ne h0
 have hcps : ((Srd.nums a a.mv.sl (a.mv.cp + 1) a.A.length).take ((n : Int)).toNat).getLastD a.mv.cp = cpy a.mv.cp n (ofS a.mv.sl (Srd.store a a.mv.fr)) := by
  rw [Int.toNat_natCast]; exact Srd.cop_cp hO h1 n
 obtain ⟨fin, hfin⟩ : ∃ fin, fin = cpy a.mv.cp n (ofS a.mv.sl (Srd.store a a.mv.fr)) := ⟨_, rfl⟩
 rw [show Srd.step a (.cop n) = some ({ a with mv := { a.mv with cp := fin } }, []) by
  rw [hfin, ← hcps]
  exact if_pos ⟨h1, by omega⟩]
 refine Exists.elim (p := fun v => x.ls[a.mv.fr.toNat]? = some v) ⟨_, List.getElem?_eq_getElem (by rw [hc.ls]; omega)⟩ fun vf hvf => ?_
 refine Exists.elim (p := fun v => x.ls[a.mv.to.toNat]? = some v) ⟨_, List.getElem?_eq_getElem (by rw [hc.ls]; omega)⟩ fun v hvx => ?_
 have hzf : ((a.mv.fr.toNat : Nat) : Int) = a.mv.fr := by omega
 have hzz : ((a.mv.to.toNat : Nat) : Int) = a.mv.to := by omega
 have svf : Seg (x.ls.flatMap fV) (a.mv.fr.toNat * 1) (fV vf) := flat_seg (f := fV) (fun _ => rfl) hvf
 have hset0 : x.ls.set a.mv.to.toNat v = x.ls := by
  obtain ⟨q1, q2⟩ := List.getElem?_eq_some_iff.1 hvx
  rw [← q2]; exact List.set_getElem_self q1
 have svt : ∀ tv, Seg ((x.ls.set a.mv.to.toNat tv).flatMap fV) (a.mv.to.toNat * 1) (fV tv) := fun tv => flat_seg (f := fV) (fun _ => rfl) (by rw [List.getElem?_set_self (by rw [hc.ls]; omega)])
 have h := rfL_take hc.h hvx
 rw [hzz] at h
 have hfe : ∃ e ∈ ros tHd 11 ((rwS a x.ls).eraseIdx a.mv.to.toNat), ∀ w, e.Q w → SlC w 11 vf (Srd.store a a.mv.fr).length ((Srd.store a a.mv.fr).flatMap fH) := by
  have := has_E (rows := ros tHd 11 ((rwS a x.ls).eraseIdx a.mv.to.toNat)) (a := a) (us := x.ls) (k := a.mv.to.toNat) (i := a.mv.fr.toNat) (fun e he => he) (by omega) hvf
  rw [hzf] at this
  obtain ⟨e, he, hq, _⟩ := this
  exact ⟨e, he, hq⟩
 have hsl : (Srd.store a a.mv.fr).length ≤ 400 := Nat.le_trans (Srd.store_len a a.mv.fr) hnA
 have hst : ∀ c : Int, (stC a c).length ≤ 400 := fun c => Nat.le_trans (Srd.store_len _ _) hnA
 have hol : (ofS a.mv.sl (Srd.store a a.mv.fr)).length ≤ (Srd.store a a.mv.fr).length := List.length_filter_le _ _
 obtain ⟨ol, hole⟩ : ∃ ol, ol = ofS a.mv.sl (Srd.store a a.mv.fr) := ⟨_, rfl⟩
 have hoA : ol.length ≤ 400 := by rw [hole]; omega
 have hoth : ∀ i : Int, i ≠ a.mv.to → Srd.store { a with mv := { a.mv with cp := fin } } i = Srd.store a i := Srd.cpy_oth h1 fin
 obtain ⟨rest, hrest⟩ : ∃ rest, rest = ros tHd 11 ((rwS a x.ls).eraseIdx a.mv.to.toNat) ++ (ros tIn 1 (rwO x.rs) ++ ros tFt 10 (rwG a x.rs)) := ⟨_, rfl⟩
 rw [← hrest] at h
 have hfinish : ∀ {w : World} {tv : Value}, Hp S w0 w (ro tHd 11 tv (stC a fin).length ((stC a fin).flatMap fH) :: ro tHs 1 x.sv a.k ((x.ls.set a.mv.to.toNat tv).flatMap fV) :: ro tIn 1 x.rv 8 (a.ro.flatMap fI) :: ro tRd 5 x.dv x.rs.length (x.rs.flatMap fR) :: rest) → Hp S w0 w [shE { x with ls := x.ls.set a.mv.to.toNat tv } { a with mv := { a.mv with cp := fin } } (.slice none 0 0) []] := fun {w tv} h => by
  have h := Hp.perm h (List.perm_middle (l₁ := [_, _, _])).symm
  rw [← hrl] at h
  refine fin_rowsR (x := { x with ls := x.ls.set a.mv.to.toNat tv }) (a := { a with mv := { a.mv with cp := fin } }) rfl h (fun i v' hv => ?_) hc.rs (has_O fun e he => by simp [hrest, he]) (has_G (a := a) (rs := x.rs) fun e he => by simp [hrest, he]) (.inl ⟨rfl, rfl⟩)
  have hv : (x.ls.set a.mv.to.toNat tv)[i]? = some v' := hv
  by_cases hi : i = a.mv.to.toNat
  ·subst hi
   rw [List.getElem?_set_self (by rw [hc.ls]; omega)] at hv
   cases hv
   rw [hzz]
   exact Has.ro (t := tHd) (by simp)
  ·rw [List.getElem?_set_ne (by omega)] at hv
   rw [hoth i (by omega)]
   exact has_E (us := x.ls) (k := a.mv.to.toNat) (fun e he => by simp [hrest, he]) hi hv
 apply e_ref37_moving
 unfold s_ref37_moving
 refine bxA h fun g1 w h => ?_
 refine bxA h fun g2 w h => ?_
 refine alS h fun g3 w h => ?_
 refine faS (ldA h 2 rfl rfl ?_)
 refine alS h fun g4 w h => ?_
 refine stA h 0 rfl rfl rfl rfl fun w h => ?_
 refine faS (ld1 h 2 rfl rfl (Bn_eqF (by omega) (If_F (Bn_eqT (by omega) (If_T (faS (ld1 h 0 rfl rfl (Bn_neF (by omega) (Gd_F (faS (Gd_F (ld1 h 2 rfl rfl (Gd_F (Bn_ltF (by omega) (Pick_F (If_F ?_))))))))))))))))
 replace h := h.dr
 refine dfS (dl1 h 3 rfl rfl (dfS (dl1 h 0 rfl rfl (diRz h 5 rfl (by omega) (by omega) fun zg zk zv => ?_))))
 refine dr0 h 5 rfl ‹_› svf (by rfl) ?_
 refine dfS (dl1 h 0 rfl rfl ?_)
 dsimp only [List.set] at h
 refine clR (T := fun v => v) h n_ref37_slots (r_slots (hfe.elim fun e he => he.2 _ (h.ok e (by simp [hrest, he.1])).get) (by omega) (tr_store hO)) fun u w h => ?_
 rw [← hole] at h
 have hI0 := CpI.init hO h1 n
 have hL0 : CpL a 0 a.mv.cp := .inl rfl
 have h2 : Hp S w0 w (ro tHd 11 u ol.length (ol.flatMap fH) :: bx g4 tMv (fM a.mv) :: bx g3 tSh zR :: bx g2 tX (fX 3 f0 0 0 (n : Int) 0) :: bx g1 tSh [x.sv, x.rv, .int .i64 a.A.length, .int .i64 a.mv.ph, .int .i64 a.mv.sl, .int .i64 a.mv.fr, .int .i64 a.mv.to, .int .i64 a.mv.cp, x.dv] :: ro tHd 11 v (stC a a.mv.cp).length ((stC a a.mv.cp).flatMap fH) :: ro tHs 1 x.sv a.k ((x.ls.set a.mv.to.toNat v).flatMap fV) :: ro tIn 1 x.rv 8 (a.ro.flatMap fI) :: ro tRd 5 x.dv x.rs.length (x.rs.flatMap fR) :: rest) := by
  rw [hset0]; exact h
 refine Lp2.mk (fun cn i W => ∃ (j m : Nat) (c : Int) (tv : Value), (j ≤ ol.length ∧ m ≤ n) ∧ i = .int .i64 j ∧ cn = .int .i64 ((n : Int) - m) ∧ CpI a n j m c ∧ CpL a j c ∧
  Hp S w0 W (ro tHd 11 u ol.length (ol.flatMap fH) :: bx g4 tMv (fM a.mv) :: bx g3 tSh zR :: bx g2 tX (fX 3 f0 0 0 (n : Int) 0) :: bx g1 tSh [x.sv, x.rv, .int .i64 a.A.length, .int .i64 a.mv.ph, .int .i64 a.mv.sl, .int .i64 a.mv.fr, .int .i64 a.mv.to, .int .i64 c, x.dv] :: ro tHd 11 tv (stC a c).length ((stC a c).flatMap fH) :: ro tHs 1 x.sv a.k ((x.ls.set a.mv.to.toNat tv).flatMap fV) :: ro tIn 1 x.rv 8 (a.ro.flatMap fI) :: ro tRd 5 x.dv x.rs.length (x.rs.flatMap fR) :: rest))
  (fun _ i _ => match i with | .int _ i' => ol.length - i'.toNat | _ => 0) ⟨0, n, a.mv.cp, v, ⟨by omega, by omega⟩, rfl, by rw [Int.sub_self], hI0, hL0, h2⟩ ?_
 clear h h2
 rintro _ _ W ⟨j, m, c, tv, ⟨hj, hmn⟩, rfl, rfl, hI, hL, h⟩
 by_cases hjl : j < ol.length
 rotate_left
 ·have hcf : c = fin := by rw [hfin]; exact hI.stop (.inr (by rw [← hole]; omega))
  subst hcf
  refine leS (qZ 0 h rfl) ?_
  refine Bn_ltF (by omega) (Gd_FT (Gd_FT (Gd_FT (Gd_FT (Pick_F (If_F (ldA h 4 rfl rfl ?_)))))))
  refine stA h 2 rfl rfl (by simp only [List.all_cons, List.all_nil, hone.1, hone.2.1, hone.2.2]; rfl) rfl fun w h => ?_
  dsimp only [List.set] at h
  refine rcA h 2 rfl rfl ?_
  exact Ret.mk ⟨{ x with ls := x.ls.set a.mv.to.toNat tv }, rfl, hfinish (h.drop 5)⟩
 refine Exists.elim (p := fun y => ol[j]? = some y) ⟨_, List.getElem?_eq_getElem hjl⟩ fun y hy => ?_
 have sy : Seg (ol.flatMap fH) (j * 11) (fH y) := flat_seg (f := fH) (fun _ => rfl) hy
 have hy2 := hy
 rw [hole] at hy2
 by_cases hm0 : m = 0
 ·have hcf : c = fin := by rw [hfin]; exact hI.stop (.inl hm0)
  subst hcf
  refine leS (qZ 0 h rfl) ?_
  refine Bn_ltT (by omega) (Gd_T (Gd_T (faS (Gd_T (ld1 h 3 rfl rfl (Gd_T (Bn_ltF (by omega) (Pick_T (If_F (ldA h 4 rfl rfl ?_))))))))))
  refine stA h 2 rfl rfl (by simp only [List.all_cons, List.all_nil, hone.1, hone.2.1, hone.2.2]; rfl) rfl fun w h => ?_
  dsimp only [List.set] at h
  refine rcA h 2 rfl rfl ?_
  exact Ret.mk ⟨{ x with ls := x.ls.set a.mv.to.toNat tv }, rfl, hfinish (h.drop 5)⟩
 have hle := hL.le hy2
 by_cases hyc : y.2 ≤ c
 ·have hI2 := hI.skip hy2 hm0 hyc
  have hyo := hle.1 hyc
  refine leS (qZ 0 h rfl) ?_
  refine Bn_ltT (by omega) (Gd_T (Gd_T (faS (Gd_T (ld1 h 3 rfl rfl (Gd_T (Bn_ltT (by omega) (Pick_T (If_T ?_)))))))))
  replace h := h.dr
  refine diR h 0 rfl (by omega) fun zg zk zv => ?_
  refine dfS (dr1 h 0 rfl ‹_› sy (by rfl) ?_)
  refine dfS (dl1 h 1 rfl rfl (Dv_gtF (by omega) (If_F (Bn_ad (by omega) (by omega) ?_))))
  exact ⟨⟨j + 1, m, c, tv, ⟨by omega, hmn⟩, rfl, rfl, hI2, hL.skip, h⟩, by show ol.length - ((j : Int) + 1).toNat < ol.length - (j : Int).toNat; omega⟩
 have hyo : ¬ y.2 ≤ a.mv.cp := fun hq => hyc (hle.2 hq)
 have hI2 := hI.next hy2 hO h1 hm0 hyc
 have hst1 := hst c
 have st0 := svt tv
 refine leS (qZ 0 h rfl) ?_
 refine Bn_ltT (by omega) (Gd_T (Gd_T (faS (Gd_T (ld1 h 3 rfl rfl (Gd_T (Bn_ltT (by omega) (Pick_T (If_T ?_)))))))))
 replace h := h.dr
 refine diR h 0 rfl (by omega) fun zg zk zv => ?_
 refine dfS (dr1 h 0 rfl ‹_› sy (by rfl) ?_)
 refine dfS (dl1 h 1 rfl rfl (Dv_gtT (by omega) (If_T ?_)))
 replace h := h.dr
 refine dfS (dl1 h 4 rfl rfl (dfS (dl1 h 1 rfl rfl (dfS (dl1 h 4 rfl rfl (dfS (dl1 h 1 rfl rfl (diRz h 6 rfl (by omega) (by omega) fun zg zk zv => ?_))))))))
 refine dr0 h 6 rfl ‹_› st0 (by rfl) ?_
 refine diR h 0 rfl (by omega) fun zg zk zv => ?_
 refine drA h 0 rfl ‹_› sy (by rfl) ?_
 refine clR (T := fun v => v) h n_ref37_inserted (r_inserted (qZ 5 h rfl) (by omega)) fun u2 w h => ?_
 have hI3 : stC a y.2 = insN y (stC a c) := hI2.2
 rw [← hI3] at h
 refine kl1 h 5 rfl rfl (kl1 h 2 rfl rfl (diRz h 7 rfl (by omega) (by omega) fun zg zk zv => ?_))
 have hc2 := slc_c1 (qZ 0 h rfl)
 refine stR1 h 7 rfl zv hc2.1 hc2.2 (by omega) fun w h => ?_
 dsimp only [List.set] at h
 rw [show List.set ((x.ls.set a.mv.to.toNat tv).flatMap fV) (0 + a.mv.to.toNat * 1) u2 = (x.ls.set a.mv.to.toNat u2).flatMap fV by rw [set_fV, List.set_set]] at h
 refine iaR h 1 rfl (by omega) fun zg zk zv => ?_
 refine faS (lr1 h 1 rfl ‹_› sy (by rfl) ?_)
 refine faS (faS (st1 h 5 rfl rfl rfl rfl fun w h => ?_))
 refine Bn_ad (by omega) (by omega) (Bn_ad (by omega) (by omega) ?_)
 dsimp only [List.set] at h
 have h := Hp.perm h (List.perm_middle (l₁ := [_, _, _, _, _, _])).symm
 have hm1 : (n : Int) - m + 1 = (n : Int) - ((m - 1 : Nat) : Int) := by omega
 refine ⟨⟨j + 1, m - 1, y.2, u2, ⟨by omega, by omega⟩, rfl, by rw [hm1], hI2.1, CpL.next hy2 hyo, ?_⟩, by show ol.length - ((j : Int) + 1).toNat < ol.length - (j : Int).toNat; omega⟩
 exact Hp.sub h (List.Sublist.cons_cons _ (List.Sublist.cons_cons _ (List.Sublist.cons_cons _ (List.Sublist.cons_cons _ (List.Sublist.cons_cons _ (List.Sublist.cons _ (List.Sublist.refl _)))))))
theorem r_moving {c : Cmd} (hco : CmdOk c) (hk : 2 ≤ kC c ∧ kC c ≤ 6) : Calls Tryz.prog 56 #[vSh x a, vCmd c] w0 (Ret (MvAns S w0 x a (Srd.step a c))) := by
 cases c with
 | put f => exact absurd hk.1 (by show ¬ (2 : Int) ≤ 1; omega)
 | beg s t => exact r_beg hc
 | cop m =>
  have hm : 1 ≤ m ∧ m ≤ 1000000 := hco
  obtain ⟨n, rfl⟩ := Int.eq_ofNat_of_zero_le (show 0 ≤ m by omega)
  exact r_cop hc (by omega) (by omega)
 | sw => exact r_sw hc
 | dro m =>
  have hm : 1 ≤ m ∧ m ≤ 1000000 := hco
  obtain ⟨n, rfl⟩ := Int.eq_ofNat_of_zero_le (show 0 ≤ m by omega)
  exact r_dro hc (by omega) (by omega)
 | cra => exact r_cra hc
 | opn r => exact absurd hk.2 (by show ¬ (7 : Int) ≤ 6; omega)
 | rea r => exact absurd hk.2 (by show ¬ (8 : Int) ≤ 6; omega)
end
end Go.Proofs.YthdhnhghjecfkaaGreat
namespace Go.Proofs.YthdhnhghjecfkaaGreat
open Go Go.Eng Go.Proofs Go.RowKit
open Go.Srd (Ft VF Hd Mv mv0 Rd Ab Cmd got ltF sam srt plh ofS gotL delN cntL insR insN insS rdd cntP)
set_option maxRecDepth 100000
theorem r_findT {w0 : World} {x : Sx} {a : Ab} {r : Int} {j : Nat} {q : RV} (hR : ShR w0 x a) (hO : Srd.Ok a) (hj : x.rs[j]? = some q) (hid : q.1.id = r) (hfj : ∀ y ∈ x.rs.take j, y.1.id ≠ r) :
 Calls Tryz.prog 93 #[vSh x a, .int .i64 r] w0 (Ret fun r w' => Ext w0 w' ∧ r = .int .i64 j) := by
 have hdv := hR.rd
 have hone := hR.one
 have hnr := hO.nr
 have hrsl : x.rs.length = a.rd.length := by rw [← hR.rs, List.length_map]
 have hjl := (List.getElem?_eq_some_iff.1 hj).1
 apply e_ref37_find
 unfold s_ref37_find
 have h := Hp.init [] w0
 refine bxA h fun g1 w h => ?_
 refine Lp1.mk (fun i W => ∃ n : Nat, n ≤ j ∧ i = .int .i64 n ∧ Hp [] w0 W [bx g1 tSh (cS x a)]) (fun i _ => match i with | .int _ i' => x.rs.length - i'.toNat | _ => 0) ⟨0, by omega, rfl, h⟩ ?_
 clear h
 rintro _ W ⟨n, hn, rfl, h⟩
 refine Exists.elim (p := fun y => x.rs[n]? = some y) ⟨_, List.getElem?_eq_getElem (by omega)⟩ fun y hy => ?_
 have sy : Seg (x.rs.flatMap fR) (n * 5) (fR y) := flat_seg (f := fR) (fun _ => rfl) hy
 by_cases hnj : n = j
 ·subst hnj
  have hyq : y.1.id = r := by rw [hj] at hy; cases hy; exact hid
  refine faS (ld1 h 0 rfl rfl (leS (hdv.hp h) ?_))
  refine Bn_ltT (by omega) (If_T (faS (ld1 h 0 rfl rfl (iaH h ‹_› (by omega) fun zb zo zk zv zc => ?_))))
  refine faS (lh1 h ‹_› ‹_› (by rfl) ?_)
  refine Bn_eqT (by omega) (If_T ?_)
  exact Ret.mk ⟨h.ext, rfl⟩
 ·have hyq : ¬ y.1.id = r := hfj y (List.mem_take_iff_getElem.2 ⟨n, by omega, (List.getElem?_eq_some_iff.1 hy).2⟩)
  refine faS (ld1 h 0 rfl rfl (leS (hdv.hp h) ?_))
  refine Bn_ltT (by omega) (If_T (faS (ld1 h 0 rfl rfl (iaH h ‹_› (by omega) fun zb zo zk zv zc => ?_))))
  refine faS (lh1 h ‹_› ‹_› (by rfl) ?_)
  refine Bn_eqF (by omega) (If_F (Bn_ad (by omega) (by omega) ?_))
  exact ⟨⟨n + 1, by omega, rfl, h⟩, by show x.rs.length - ((n : Int) + 1).toNat < x.rs.length - (n : Int).toNat; omega⟩
theorem r_findN {w0 : World} {x : Sx} {a : Ab} {r : Int} (hR : ShR w0 x a) (hO : Srd.Ok a) (hno : ∀ y ∈ x.rs, y.1.id ≠ r) :
 Calls Tryz.prog 93 #[vSh x a, .int .i64 r] w0 (Ret fun r w' => Ext w0 w' ∧ r = .int .i64 (-1)) := by
 have hdv := hR.rd
 have hone := hR.one
 have hnr := hO.nr
 have hrsl : x.rs.length = a.rd.length := by rw [← hR.rs, List.length_map]
 apply e_ref37_find
 unfold s_ref37_find
 have h := Hp.init [] w0
 refine bxA h fun g1 w h => ?_
 refine Lp1.mk (fun i W => ∃ n : Nat, n ≤ x.rs.length ∧ i = .int .i64 n ∧ Hp [] w0 W [bx g1 tSh (cS x a)]) (fun i _ => match i with | .int _ i' => x.rs.length - i'.toNat | _ => 0) ⟨0, by omega, rfl, h⟩ ?_
 clear h
 rintro _ W ⟨n, hn, rfl, h⟩
 by_cases hnj : n < x.rs.length
 ·refine Exists.elim (p := fun y => x.rs[n]? = some y) ⟨_, List.getElem?_eq_getElem (by omega)⟩ fun y hy => ?_
  have sy : Seg (x.rs.flatMap fR) (n * 5) (fR y) := flat_seg (f := fR) (fun _ => rfl) hy
  have hyq := hno y (List.mem_of_getElem? hy)
  refine faS (ld1 h 0 rfl rfl (leS (hdv.hp h) ?_))
  refine Bn_ltT (by omega) (If_T (faS (ld1 h 0 rfl rfl (iaH h ‹_› (by omega) fun zb zo zk zv zc => ?_))))
  refine faS (lh1 h ‹_› ‹_› (by rfl) ?_)
  refine Bn_eqF (by omega) (If_F (Bn_ad (by omega) (by omega) ?_))
  exact ⟨⟨n + 1, by omega, rfl, h⟩, by show x.rs.length - ((n : Int) + 1).toNat < x.rs.length - (n : Int).toNat; omega⟩
 refine faS (ld1 h 0 rfl rfl (leS (hdv.hp h) ?_))
 refine Bn_ltF (by omega) (If_F ?_)
 exact Ret.mk ⟨h.ext, rfl⟩
theorem rfL_shR {S : List Nat} {w0 w : World} {x : Sx} {a : Ab} (h : Hp S w0 w (rfL x a)) (hO : Srd.Ok a) (hrs : x.rs.map (·.1) = a.rd) : ShR w x a := by
 unfold rfL at h
 rw [← hO.ro.len] at h
 have := fin_rowsR (a := a) (fv := .slice none 0 0) (l := []) rfl h (fun i v hv => has_S (us := x.ls) (fun e he => by simp [he]) i v hv) hrs (has_O fun e he => by simp [he]) (has_G (a := a) fun e he => by simp [he]) (.inl ⟨rfl, rfl⟩)
 exact (this.get (i := 0) rfl : _ ∧ _).1
def RdAns (S : List Nat) (w0 : World) (x : Sx) (a : Ab) : Option (Ab × List Ft) → Value → World → Prop
 | some p, q, w' => ∃ x' fv, q = .tuple #[vSh x' p.1, fv, .bool true] ∧ Hp S w0 w' [shE x' p.1 fv p.2]
 | none, q, w' => q = .tuple #[vSh x a, .slice none 0 0, .bool false] ∧ Ext w0 w'
section
variable {w0 : World} {S : List Nat} {x : Sx} {a : Ab} (hc : Rin S w0 x a)
include hc
set_option maxHeartbeats 16000000 in
theorem r_opn {r : Int} : Calls Tryz.prog 55 #[vSh x a, vX 7 f0 0 0 0 r] w0 (Ret (RdAns S w0 x a (Srd.step a (.opn r)))) := by
 have hO := hc.ok
 have hk := hO.k
 have hrl := hO.ro.len
 have hone := hc.one
 have hR := hc.shR
 have hal := hR.all9
 have hnA := hO.nA
 have hnr := hO.nr
 have hrs := hc.rs
 have hrsl : x.rs.length = a.rd.length := by rw [← hrs, List.length_map]
 by_cases hok : (∀ y ∈ a.rd, y.id ≠ r) ∧ (0 ≤ r ∧ r ≤ 99) ∧ a.rd.length < 4
 rotate_left
 ·rw [show Srd.step a (.opn r) = none from if_neg hok]
  have hdv := hR.rd
  apply e_ref37_reading
  unfold s_ref37_reading
  have h := Hp.init [] w0
  refine bxA h fun g1 w h => ?_
  refine bxA h fun g2 w h => ?_
  refine alS h fun g3 w h => ?_
  refine ldA h 2 rfl rfl ?_
  refine faS (ld1 h 1 rfl rfl ?_)
  by_cases hn : ∀ y ∈ a.rd, y.id ≠ r
  rotate_left
  ·have hex : ∃ (j : Nat) (q : RV), x.rs[j]? = some q ∧ q.1.id = r ∧ ∀ y ∈ x.rs.take j, y.1.id ≠ r := by
    cases hf : x.rs.find? (fun y => decide (y.1.id = r)) with
    | none =>
     exfalso
     refine hn fun y hy => ?_
     rw [← hrs] at hy
     obtain ⟨z, hz, rfl⟩ := List.mem_map.1 hy
     have := List.find?_eq_none.1 hf z hz
     simpa using this
    | some q =>
     obtain ⟨q1, j, hj, q2, q3⟩ := List.find?_eq_some_iff_getElem.1 hf
     refine ⟨j, q, by rw [List.getElem?_eq_getElem hj, q2], by simpa using q1, fun y hy => ?_⟩
     obtain ⟨i, hi, rfl⟩ := List.mem_take_iff_getElem.1 hy
     have := q3 i (by omega)
     simpa using this
   refine Exists.elim hex fun j hex => Exists.elim hex fun q hex => ?_
   refine cl1 h n_ref37_find (r_findT (hR.ext h.ext) hO hex.1 hex.2.1 hex.2.2) fun w h => ?_
   have hjl := (List.getElem?_eq_some_iff.1 hex.1).1
   refine faS (ld1 h 1 rfl rfl (Bn_eqT (by omega) (If_T (Bn_geT (by omega) (Gd_TF (Gd_TF (Gd_TF (Gd_TF (Pick_T (Gd_TF (Gd_TF (Gd_TF (Gd_TF (Pick_T (If_T (ldA h 2 rfl rfl ?_))))))))))))))))
   refine stA h 0 rfl rfl hal rfl fun w h => ?_
   dsimp only [List.set] at h
   refine rcA h 0 rfl rfl ?_
   exact Ret.mk ⟨rfl, h.ext⟩
  have hno : ∀ y ∈ x.rs, y.1.id ≠ r := fun y hy => hn y.1 (by rw [← hrs]; exact List.mem_map.2 ⟨y, hy, rfl⟩)
  refine cl1 h n_ref37_find (r_findN (hR.ext h.ext) hO hno) fun w h => ?_
  by_cases hr : 0 ≤ r ∧ r ≤ 99
  ·have hl4 : ¬ a.rd.length < 4 := fun hq => hok ⟨hn, hr, hq⟩
   refine faS (ld1 h 1 rfl rfl (Bn_eqT (by omega) (If_T (Bn_geF (by omega) (Gd_F (faS (Gd_F (ld1 h 1 rfl rfl (Gd_F (cl1 h n_ref37_in (r_inT hr) fun w h => ?_))))))))))
   refine Gd_F (Un_T (Pick_F (Gd_F (faS (Gd_F (ld1 h 2 rfl rfl (Gd_F (leS (hdv.hp h) ?_))))))))
   refine Gd_F (Bn_geT (by omega) (Pick_F (If_T (ldA h 2 rfl rfl ?_))))
   refine stA h 0 rfl rfl hal rfl fun w h => ?_
   dsimp only [List.set] at h
   refine rcA h 0 rfl rfl ?_
   exact Ret.mk ⟨rfl, h.ext⟩
  ·refine faS (ld1 h 1 rfl rfl (Bn_eqT (by omega) (If_T (Bn_geF (by omega) (Gd_F (faS (Gd_F (ld1 h 1 rfl rfl (Gd_F (cl1 h n_ref37_in (r_inF hr) fun w h => ?_))))))))))
   refine Gd_F (Un_F (Pick_F (Gd_TF (Gd_TF (Gd_TF (Gd_TF (Pick_T (If_T (ldA h 2 rfl rfl ?_)))))))))
   refine stA h 0 rfl rfl hal rfl fun w h => ?_
   dsimp only [List.set] at h
   refine rcA h 0 rfl rfl ?_
   exact Ret.mk ⟨rfl, h.ext⟩
 have hn := hok.1
 have hr := hok.2.1
 have hl4 := hok.2.2
 rw [show Srd.step a (.opn r) = some ({ a with rd := insR ⟨r, a.A.length, a.ro, 0⟩ a.rd }, []) from if_pos hok]
 have hno : ∀ y ∈ x.rs, y.1.id ≠ r := fun y hy => hn y.1 (by rw [← hrs]; exact List.mem_map.2 ⟨y, hy, rfl⟩)
 have hasc : x.rs.Pairwise fun a b => a.1.id < b.1.id := by
  have := hO.ids
  rw [← hrs, List.pairwise_map] at this
  exact this
 obtain ⟨c, hcc⟩ : ∃ c, c = cntL (fun y : RV => y.1.id) r x.rs := ⟨_, rfl⟩
 have hcl : c ≤ x.rs.length := by rw [hcc]; exact Srd.cnt_le
 apply e_ref37_reading
 unfold s_ref37_reading
 have h := hc.h
 have hfind : ∀ {w : World}, Hp S w0 w (rfL x a) → Calls Tryz.prog 93 #[vSh x a, .int .i64 r] w (Ret fun r w' => Ext w w' ∧ r = .int .i64 (-1)) := fun {w} h => r_findN (rfL_shR h hO hrs) hO hno
 unfold rfL at h hfind
 refine bxA h fun g1 w h => ?_
 refine bxA h fun g2 w h => ?_
 refine alS h fun g3 w h => ?_
 refine ldA h 2 rfl rfl ?_
 refine faS (ld1 h 1 rfl rfl (cl1 h n_ref37_find (hfind (h.drop 3)) fun w h => ?_))
 refine faS (ld1 h 1 rfl rfl (Bn_eqT (by omega) (If_T (Bn_geF (by omega) (Gd_F (faS (Gd_F (ld1 h 1 rfl rfl (Gd_F (cl1 h n_ref37_in (r_inT hr) fun w h => ?_))))))))))
 refine Gd_F (Un_T (Pick_F (Gd_F (faS (Gd_F (ld1 h 2 rfl rfl (Gd_F (leS (qZ 5 h rfl) ?_))))))))
 refine Gd_F (Bn_geF (by omega) (Pick_F (If_F ?_)))
 have hron := hR.one.2.2.2.2
 obtain ⟨rest, hrest⟩ : ∃ rest, rest = ros tHd 11 (rwS a x.ls) ++ (ros tIn 1 (rwO x.rs) ++ ros tFt 10 (rwG a x.rs)) := ⟨_, rfl⟩
 rw [← hrest] at h
 have ha0 : ((a.ro.flatMap fI).all fun x => x.oneCell') = true := one_fI _
 have hfin : ∀ {w : World} {rv u2 : Value}, Hp S w0 w (ro tRd 5 u2 (0 + c + 1 + (x.rs.length - c)) ([] ++ (x.rs.flatMap fR).take (c * 5) ++ [.int .i64 r, .int .i64 a.A.length, rv, .int .i64 0, .slice none 0 0] ++ (x.rs.flatMap fR).drop (c * 5)) :: ro tIn 1 rv (0 + 8) ([] ++ a.ro.flatMap fI) :: ro tHs 1 x.sv a.k (x.ls.flatMap fV) :: ro tIn 1 x.rv 8 (a.ro.flatMap fI) :: rest) → ∃ x' : Sx, x' = { x with dv := u2, rs := x.rs.take c ++ (⟨r, a.A.length, a.ro, 0⟩, rv, .slice none 0 0) :: x.rs.drop c } ∧ Hp S w0 w [shE x' { a with rd := insR ⟨r, a.A.length, a.ro, 0⟩ a.rd } (.slice none 0 0) []] := fun {w rv u2} h => by
  obtain ⟨rs', hrs'⟩ : ∃ rs', rs' = x.rs.take c ++ (⟨r, a.A.length, a.ro, 0⟩, rv, .slice none 0 0) :: x.rs.drop c := ⟨_, rfl⟩
  have ecells : [] ++ (x.rs.flatMap fR).take (c * 5) ++ [.int .i64 r, .int .i64 a.A.length, rv, .int .i64 0, .slice none 0 0] ++ (x.rs.flatMap fR).drop (c * 5) = rs'.flatMap fR := by
   rw [List.nil_append, hrs', List.flatMap_append, List.flatMap_cons, flat_take (f := fR) (c := 5) (fun _ => rfl), flat_drop (f := fR) (c := 5) (fun _ => rfl), List.append_assoc]
  have elen : 0 + c + 1 + (x.rs.length - c) = rs'.length := by
   rw [hrs', List.length_append, List.length_cons, List.length_take, List.length_drop]; omega
  rw [ecells, elen, Nat.zero_add, List.nil_append] at h
  rw [← hrs']
  have h := Hp.perm h ((List.perm_append_comm (l₁ := [_, _]) (l₂ := [_, _])).append_right rest)
  have h := Hp.perm (h.nil tFt 10) (List.perm_middle (l₁ := [_, _, _])).symm
  rw [hrest, ← hrl] at h
  refine ⟨{ x with dv := u2, rs := rs' }, rfl, ?_⟩
  have hmem : ∀ q ∈ rs', q = (⟨r, a.A.length, a.ro, 0⟩, rv, .slice none 0 0) ∨ q ∈ x.rs := fun q hq => by
   rw [hrs'] at hq
   rcases List.mem_append.1 hq with hq | hq
   ·exact .inr (List.mem_of_mem_take hq)
   ·rcases List.mem_cons.1 hq with hq | hq
    ·exact .inl hq
    ·exact .inr (List.mem_of_mem_drop hq)
  have hmap : rs'.map (·.1) = insR ⟨r, a.A.length, a.ro, 0⟩ a.rd := by
   have hcm := cnt_map (g := fun y : RV => y.1) (f := fun y : Rd => y.id) (n := r) x.rs
   rw [hrs] at hcm
   rw [Srd.insR_cut, hcm, ← hcc, hrs', List.map_append, List.map_cons, List.map_take, List.map_drop, hrs]
  refine fin_rowsR (x := { x with dv := u2, rs := rs' }) (a := { a with rd := insR ⟨r, a.A.length, a.ro, 0⟩ a.rd }) rfl h (fun i v hv => has_S (a := a) (us := x.ls) (fun e he => by simp [he]) i v hv) hmap (fun q hq => ?_) (fun q hq => ?_) (.inl ⟨rfl, rfl⟩)
  ·rcases hmem q hq with rfl | hq
   ·exact Has.ro (t := tIn) (by simp)
   ·exact has_O (rs := x.rs) (fun e he => by simp [he]) q hq
  ·rcases hmem q hq with rfl | hq
   ·have e0 : got a ⟨r, a.A.length, a.ro, 0⟩ = [] := got_new hO
    have e1 : got { a with rd := insR ⟨r, a.A.length, a.ro, 0⟩ a.rd } ⟨r, a.A.length, a.ro, 0⟩ = [] := e0
    show Has _ 10 (.slice none 0 0) (got { a with rd := insR ⟨r, a.A.length, a.ro, 0⟩ a.rd } ⟨r, a.A.length, a.ro, 0⟩).length ((got { a with rd := insR ⟨r, a.A.length, a.ro, 0⟩ a.rd } ⟨r, a.A.length, a.ro, 0⟩).flatMap fF)
    rw [e1]
    exact Has.ro (t := tFt) (by simp)
   ·exact has_G (a := a) (rs := x.rs) (fun e he => by simp [he]) q hq
 have ha1 : (((x.rs.flatMap fR).take (c * 5)).all fun x => x.oneCell') = true := by
  rw [flat_take (f := fR) (c := 5) (fun _ => rfl)]
  exact all_fR fun y hy => hron y (List.mem_of_mem_take hy)
 have ha2 : (((x.rs.flatMap fR).drop (c * 5)).all fun x => x.oneCell') = true := by
  rw [flat_drop (f := fR) (c := 5) (fun _ => rfl)]
  exact all_fR fun y hy => hron y (List.mem_of_mem_drop hy)
 refine Lp1.mk (fun i W => ∃ j : Nat, j ≤ c ∧ i = .int .i64 j ∧ Hp S w0 W (bx g3 tSh zR :: bx g2 tX (fX 7 f0 0 0 0 r) :: bx g1 tSh (cS x a) :: ro tHs 1 x.sv a.k (x.ls.flatMap fV) :: ro tIn 1 x.rv 8 (a.ro.flatMap fI) :: ro tRd 5 x.dv x.rs.length (x.rs.flatMap fR) :: rest)) (fun i _ => match i with | .int _ i' => x.rs.length + 1 - i'.toNat | _ => 0) ⟨0, by omega, rfl, h⟩ ?_
 clear h
 rintro _ W ⟨j, hj, rfl, h⟩
 by_cases hjc : j < c
 ·refine Exists.elim (p := fun y => x.rs[j]? = some y) ⟨_, List.getElem?_eq_getElem (by omega)⟩ fun y hy => ?_
  have sy : Seg (x.rs.flatMap fR) (j * 5) (fR y) := flat_seg (f := fR) (fun _ => rfl) hy
  have hlt : y.1.id < r := (Srd.cnt_iff (f := fun y : RV => y.1.id) hasc hy).2 (by rw [← hcc]; exact hjc)
  replace h := h.dr
  refine dfS (dl1 h 2 rfl rfl (dlS (qZ 5 h rfl) ?_))
  refine Dv_ltT (by omega) (GdP_T (dfS (GdP_T (dl1 h 2 rfl rfl (GdP_T (GdP_T (diR h 5 rfl (by omega) fun zg zk zv => ?_)))))))
  refine GdP_T (dfS (GdP_T (dr1 h 5 rfl ‹_› sy (by rfl) ?_)))
  refine GdP_T (dfS (GdP_T (dl1 h 1 rfl rfl (GdP_T (Dv_ltT (by omega) (PickP_T (If_T (Bn_ad (by omega) (by omega) ?_))))))))
  exact ⟨⟨j + 1, by omega, rfl, h⟩, by show x.rs.length + 1 - ((j : Int) + 1).toNat < x.rs.length + 1 - (j : Int).toNat; omega⟩
 have hjce : j = c := by omega
 subst hjce
 by_cases hcl2 : j < x.rs.length
 ·refine Exists.elim (p := fun y => x.rs[j]? = some y) ⟨_, List.getElem?_eq_getElem (by omega)⟩ fun y hy => ?_
  have sy : Seg (x.rs.flatMap fR) (j * 5) (fR y) := flat_seg (f := fR) (fun _ => rfl) hy
  have hlt : ¬ y.1.id < r := fun hq => by
   have := (Srd.cnt_iff (f := fun y : RV => y.1.id) hasc hy).1 hq
   omega
  replace h := h.dr
  refine dfS (dl1 h 2 rfl rfl (dlS (qZ 5 h rfl) ?_))
  refine Dv_ltT (by omega) (GdP_T (dfS (GdP_T (dl1 h 2 rfl rfl (GdP_T (GdP_T (diR h 5 rfl (by omega) fun zg zk zv => ?_)))))))
  refine GdP_T (dfS (GdP_T (dr1 h 5 rfl ‹_› sy (by rfl) ?_)))
  refine GdP_T (dfS (GdP_T (dl1 h 1 rfl rfl (GdP_T (Dv_ltF (by omega) (PickP_T (If_F ?_)))))))
  refine Jn1.lfQ (fun v W => ∃ g rv, v = pr g 0 ∧ Hp S w0 W (bx g tRd [.int .i64 r, .int .i64 a.A.length, rv, .int .i64 0, .slice none 0 0] :: ro tIn 1 rv (0 + 8) ([] ++ a.ro.flatMap fI) :: bx g3 tSh zR :: bx g2 tX (fX 7 f0 0 0 0 r) :: bx g1 tSh (cS x a) :: ro tHs 1 x.sv a.k (x.ls.flatMap fV) :: ro tIn 1 x.rv 8 (a.ro.flatMap fI) :: ro tRd 5 x.dv x.rs.length (x.rs.flatMap fR) :: rest)) (fun K hK => ?_) (fun v w ⟨g, rv, hv, h⟩ => ?_)
  ·replace h := h.dr
   refine dfS (dl1 h 1 rfl rfl (dfS (dl1 h 2 rfl rfl (dfS (dl1 h 2 rfl rfl ?_)))))
   refine ⟨?_, ?_⟩
   refine bs0 h fun v1 w h => ?_
   refine kl1 h 2 rfl rfl (kl1 h 3 rfl rfl (kl1 h 3 rfl rfl ?_))
   refine ⟨?_, ?_⟩
   refine apR (by rfl) (by decide) h 0 rfl (qZ 5 h rfl) (by first | rfl | assumption) (by omega) fun v2 w h => ?_
   refine kl1 h 2 rfl rfl (kl1 h 3 rfl rfl (dbS (PC.cons (by rfl) (PC.cons (by rfl) (PC.cons (by first | assumption | exact qY 0 h rfl | exact qY 4 h rfl | exact qY 5 h rfl | exact qY 6 h rfl) PC.nil))) (by rfl) ?_))
   refine alS h fun g4 w h => ?_
   refine kl1 h 3 rfl rfl (kl1 h 4 rfl rfl (kl1 h 4 rfl rfl (stA h 0 rfl rfl (by exact oneC (a := [_, _]) (b := [_, _]) (qZ 1 h rfl) rfl rfl) rfl fun w h => ?_)))
   dsimp only [List.set] at h
   ·exact hK _ _ ⟨_, _, rfl, h⟩
   ·refine alS h fun g4 w h => ?_
    refine kl1 h 3 rfl rfl (kl1 h 4 rfl rfl (kl1 h 4 rfl rfl (apR (by rfl) (by decide) h 1 rfl (qZ 6 h rfl) (by first | rfl | assumption) (by omega) fun v2 w h => ?_)))
    refine kl1 h 3 rfl rfl (kl1 h 4 rfl rfl (dbS (PC.cons (by rfl) (PC.cons (by rfl) (PC.cons (by first | assumption | exact qY 1 h rfl | exact qY 5 h rfl | exact qY 6 h rfl | exact qY 7 h rfl) PC.nil))) (by rfl) ?_))
    refine stA h 0 rfl rfl (by exact oneC (a := [_, _]) (b := [_, _]) (qZ 1 h rfl) rfl rfl) rfl fun w h => ?_
    dsimp only [List.set] at h
    exact hK _ _ ⟨_, _, rfl, h⟩
   ·refine alS h fun g4 w h => ?_
    refine kl1 h 2 rfl rfl (kl1 h 3 rfl rfl (kl1 h 3 rfl rfl (bs0 h fun v1 w h => ?_)))
    refine kl1 h 3 rfl rfl (kl1 h 4 rfl rfl (kl1 h 4 rfl rfl (apR (by rfl) (by decide) h 0 rfl (qZ 6 h rfl) (by first | rfl | assumption) (by omega) fun v2 w h => ?_)))
    refine kl1 h 3 rfl rfl (kl1 h 4 rfl rfl (dbS (PC.cons (by rfl) (PC.cons (by rfl) (PC.cons (by first | assumption | exact qY 0 h rfl | exact qY 5 h rfl | exact qY 6 h rfl | exact qY 7 h rfl) PC.nil))) (by rfl) ?_))
    refine stA h 1 rfl rfl (by exact oneC (a := [_, _]) (b := [_, _]) (qZ 0 h rfl) rfl rfl) rfl fun w h => ?_
    dsimp only [List.set] at h
    exact hK _ _ ⟨_, _, rfl, Hp.perm h (List.Perm.swap _ _ _)⟩
  subst hv
  have hc1 := slc_c1 (qZ 1 h rfl)
  have ha3 : (([.int .i64 r, .int .i64 a.A.length, rv, .int .i64 0, .slice none 0 0] : List Value).all fun x => x.oneCell') = true := by simp only [List.all_cons, List.all_nil, hc1.2]; rfl
  refine bs0 h fun v1 w h => ?_
  refine faS (ld1 h 5 rfl rfl (scHn (qZ 8 h rfl) (by omega) fun v2 p1 => ?_))
  refine apR (by rfl) (by decide) h 0 rfl (p1.2 _ (qZ 8 h rfl)) (by first | rfl | assumption) (by omega) fun v3 w h => ?_
  refine ldA h 1 rfl rfl ?_
  refine bs1A h (by rfl) (by decide) (by rfl) (by decide) fun v4 w h => ?_
  refine apR (by rfl) (by decide) h 1 rfl (qZ 0 h rfl) (by first | rfl | assumption) (by omega) fun v5 w h => ?_
  refine faS (ld1 h 6 rfl rfl (scLn (qZ 9 h rfl) (by omega) fun v6 p2 => ?_))
  refine apR (by rfl) (by decide) h 1 rfl (p2.2 _ (qZ 9 h rfl)) (by first | rfl | assumption) (by omega) fun v7 w h => ?_
  refine faS (st1w h 6 rfl (qZ 1 h rfl) rfl fun w h => ?_)
  dsimp only [List.set] at h
  refine ldA h 6 rfl rfl ?_
  have hc7 := slc_c1 (qZ 1 h rfl)
  refine stA h 4 rfl rfl (by simp only [List.all_cons, List.all_nil, hone.1, hone.2.1, hc7.2]; rfl) rfl fun w h => ?_
  dsimp only [List.set] at h
  refine rcA h 4 rfl rfl ?_
  have h := Hp.sub h (L' := ro tRd 5 _ _ _ :: ro tIn 1 rv (0 + 8) ([] ++ a.ro.flatMap fI) :: ro tHs 1 x.sv a.k (x.ls.flatMap fV) :: ro tIn 1 x.rv 8 (a.ro.flatMap fI) :: rest) (.cons _ (.cons_cons _ (.cons _ (.cons_cons _ (.cons _ (.cons _ (.cons _ (.cons_cons _ (.cons_cons _ (.cons _ (List.Sublist.refl _)))))))))))
  obtain ⟨x', hx', h⟩ := hfin h
  subst hx'
  exact Ret.mk ⟨_, _, rfl, h⟩
 ·replace h := h.dr
  refine dfS (dl1 h 2 rfl rfl (dlS (qZ 5 h rfl) ?_))
  refine Dv_ltF (by omega) (GdP_FT (GdP_FT (GdP_FT (GdP_FT (GdP_FT (GdP_FT (GdP_FT (GdP_FT (GdP_FT (PickP_F (If_F ?_)))))))))))
  refine Jn1.lfQ (fun v W => ∃ g rv, v = pr g 0 ∧ Hp S w0 W (bx g tRd [.int .i64 r, .int .i64 a.A.length, rv, .int .i64 0, .slice none 0 0] :: ro tIn 1 rv (0 + 8) ([] ++ a.ro.flatMap fI) :: bx g3 tSh zR :: bx g2 tX (fX 7 f0 0 0 0 r) :: bx g1 tSh (cS x a) :: ro tHs 1 x.sv a.k (x.ls.flatMap fV) :: ro tIn 1 x.rv 8 (a.ro.flatMap fI) :: ro tRd 5 x.dv x.rs.length (x.rs.flatMap fR) :: rest)) (fun K hK => ?_) (fun v w ⟨g, rv, hv, h⟩ => ?_)
  ·replace h := h.dr
   refine dfS (dl1 h 1 rfl rfl (dfS (dl1 h 2 rfl rfl (dfS (dl1 h 2 rfl rfl ?_)))))
   refine ⟨?_, ?_⟩
   refine bs0 h fun v1 w h => ?_
   refine kl1 h 2 rfl rfl (kl1 h 3 rfl rfl (kl1 h 3 rfl rfl ?_))
   refine ⟨?_, ?_⟩
   refine apR (by rfl) (by decide) h 0 rfl (qZ 5 h rfl) (by first | rfl | assumption) (by omega) fun v2 w h => ?_
   refine kl1 h 2 rfl rfl (kl1 h 3 rfl rfl (dbS (PC.cons (by rfl) (PC.cons (by rfl) (PC.cons (by first | assumption | exact qY 0 h rfl | exact qY 4 h rfl | exact qY 5 h rfl | exact qY 6 h rfl) PC.nil))) (by rfl) ?_))
   refine alS h fun g4 w h => ?_
   refine kl1 h 3 rfl rfl (kl1 h 4 rfl rfl (kl1 h 4 rfl rfl (stA h 0 rfl rfl (by exact oneC (a := [_, _]) (b := [_, _]) (qZ 1 h rfl) rfl rfl) rfl fun w h => ?_)))
   dsimp only [List.set] at h
   ·exact hK _ _ ⟨_, _, rfl, h⟩
   ·refine alS h fun g4 w h => ?_
    refine kl1 h 3 rfl rfl (kl1 h 4 rfl rfl (kl1 h 4 rfl rfl (apR (by rfl) (by decide) h 1 rfl (qZ 6 h rfl) (by first | rfl | assumption) (by omega) fun v2 w h => ?_)))
    refine kl1 h 3 rfl rfl (kl1 h 4 rfl rfl (dbS (PC.cons (by rfl) (PC.cons (by rfl) (PC.cons (by first | assumption | exact qY 1 h rfl | exact qY 5 h rfl | exact qY 6 h rfl | exact qY 7 h rfl) PC.nil))) (by rfl) ?_))
    refine stA h 0 rfl rfl (by exact oneC (a := [_, _]) (b := [_, _]) (qZ 1 h rfl) rfl rfl) rfl fun w h => ?_
    dsimp only [List.set] at h
    exact hK _ _ ⟨_, _, rfl, h⟩
   ·refine alS h fun g4 w h => ?_
    refine kl1 h 2 rfl rfl (kl1 h 3 rfl rfl (kl1 h 3 rfl rfl (bs0 h fun v1 w h => ?_)))
    refine kl1 h 3 rfl rfl (kl1 h 4 rfl rfl (kl1 h 4 rfl rfl (apR (by rfl) (by decide) h 0 rfl (qZ 6 h rfl) (by first | rfl | assumption) (by omega) fun v2 w h => ?_)))
    refine kl1 h 3 rfl rfl (kl1 h 4 rfl rfl (dbS (PC.cons (by rfl) (PC.cons (by rfl) (PC.cons (by first | assumption | exact qY 0 h rfl | exact qY 5 h rfl | exact qY 6 h rfl | exact qY 7 h rfl) PC.nil))) (by rfl) ?_))
    refine stA h 1 rfl rfl (by exact oneC (a := [_, _]) (b := [_, _]) (qZ 0 h rfl) rfl rfl) rfl fun w h => ?_
    dsimp only [List.set] at h
    exact hK _ _ ⟨_, _, rfl, Hp.perm h (List.Perm.swap _ _ _)⟩
  subst hv
  have hc1 := slc_c1 (qZ 1 h rfl)
  have ha3 : (([.int .i64 r, .int .i64 a.A.length, rv, .int .i64 0, .slice none 0 0] : List Value).all fun x => x.oneCell') = true := by simp only [List.all_cons, List.all_nil, hc1.2]; rfl
  refine bs0 h fun v1 w h => ?_
  refine faS (ld1 h 5 rfl rfl (scHn (qZ 8 h rfl) (by omega) fun v2 p1 => ?_))
  refine apR (by rfl) (by decide) h 0 rfl (p1.2 _ (qZ 8 h rfl)) (by first | rfl | assumption) (by omega) fun v3 w h => ?_
  refine ldA h 1 rfl rfl ?_
  refine bs1A h (by rfl) (by decide) (by rfl) (by decide) fun v4 w h => ?_
  refine apR (by rfl) (by decide) h 1 rfl (qZ 0 h rfl) (by first | rfl | assumption) (by omega) fun v5 w h => ?_
  refine faS (ld1 h 6 rfl rfl (scLn (qZ 9 h rfl) (by omega) fun v6 p2 => ?_))
  refine apR (by rfl) (by decide) h 1 rfl (p2.2 _ (qZ 9 h rfl)) (by first | rfl | assumption) (by omega) fun v7 w h => ?_
  refine faS (st1w h 6 rfl (qZ 1 h rfl) rfl fun w h => ?_)
  dsimp only [List.set] at h
  refine ldA h 6 rfl rfl ?_
  have hc7 := slc_c1 (qZ 1 h rfl)
  refine stA h 4 rfl rfl (by simp only [List.all_cons, List.all_nil, hone.1, hone.2.1, hc7.2]; rfl) rfl fun w h => ?_
  dsimp only [List.set] at h
  refine rcA h 4 rfl rfl ?_
  have h := Hp.sub h (L' := ro tRd 5 _ _ _ :: ro tIn 1 rv (0 + 8) ([] ++ a.ro.flatMap fI) :: ro tHs 1 x.sv a.k (x.ls.flatMap fV) :: ro tIn 1 x.rv 8 (a.ro.flatMap fI) :: rest) (.cons _ (.cons_cons _ (.cons _ (.cons_cons _ (.cons _ (.cons _ (.cons _ (.cons_cons _ (.cons_cons _ (.cons _ (List.Sublist.refl _)))))))))))
  obtain ⟨x', hx', h⟩ := hfin h
  subst hx'
  exact Ret.mk ⟨_, _, rfl, h⟩
end
end Go.Proofs.YthdhnhghjecfkaaGreat
