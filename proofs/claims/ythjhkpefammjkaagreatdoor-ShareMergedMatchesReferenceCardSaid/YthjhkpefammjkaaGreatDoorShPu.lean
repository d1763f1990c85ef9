/-
  Contracts and plain lemmas. By an AI agent.
-/
import Derived.Test.YthjhkpefammjkaaGreatDoorLShPu
import Derived.Test.YthjhkpefammjkaaGreatDoorShPt
set_option linter.unusedSimpArgs false
set_option linter.unusedVariables false
set_option linter.unusedSectionVars false
namespace Go.Proofs.YthjhkpefammjkaaGreatDoor
open Go Go.Eng Go.Proofs Go.Num Go.RowKit Go.Shr
set_option maxRecDepth 100000
section
variable {w0 : World} {n0 n1 n2 : Int} {v szv raw : Value} {xs ss rs : List Int} (hn0 : I64 n0) (hn1 : I64 n1) (hn2 : I64 n2) (hv : SlC w0 1 v xs.length (xs.flatMap fI)) (hl : xs.length ≤ 9223372036854775807) (hx : ∀ x ∈ xs, I64 x)
 (hs : SlC w0 1 szv ss.length (ss.flatMap fI)) (hsl : ss.length ≤ 9223372036854775807) (hr : SlC w0 1 raw rs.length (rs.flatMap fI)) (hrl : rs.length ≤ 9223372036854775807) (hT : Tab w0) (hF : FacV w0)
include hn0 hn1 hn2 hv hl hx hs hsl hr hrl hT hF
set_option maxHeartbeats 16000000 in
theorem c_MergedMatchesRef : Calls Tryz.prog 4 #[.agg #[.int .i64 n0, .int .i64 n1, .int .i64 n2], v, szv, raw] w0 (Ret fun r w' => Ext w0 w' ∧ r = .bool true) := by
 have cc1 := fun {W : World} (e : Ext w0 W) => c_sane (w0 := W) (hT.ext e) (hF.ext e)
 apply e_law25_ShareMergedMatchesReference
 unfold s_law25_ShareMergedMatchesReference
 have h := Hp.init [] w0
 refine bxA h fun g1 w h => ?_
 refine cl1 h n_law25_sane (cc1 h.ext) fun w h => ?_
 refine Un_T (If_F (ldA h 0 rfl rfl ?_))
 refine Cl_i n_ref25_Combos (c_Combos hn0 hn1 hn2 (hv.ext h.ext) hl hx) ?_
 rintro _ w1 ⟨a, b, rfl, ks0, l0, hC, h'⟩
 have x1 := (h.x h'.ext).ext
 have hC3 := hC.le3
 have hCl := hC.len
 have hC4 := hC.mg.c400
 have hA : SlC w1 1 a (ks0.map fun (x : Nat) => (x : Int)).length ((ks0.map fun (x : Nat) => (x : Int)).flatMap fI) := SlN.int (h'.sl (i := 1) rfl)
 have hB : SlC w1 1 b l0.length (l0.flatMap fI) := by rw [hCl]; exact h'.sl (i := 0) rfl
 have hs := hs.ext x1
 have hr := hr.ext x1
 have hT := hT.ext x1
 have hF := hF.ext x1
 clear cc1 h h' hv
 have h := Hp.init [] w1
 have hA1 := (slc_c1 hA).1
 have hB1 := (slc_c1 hB).1
 refine Ex2 (leS (hs.hp h) ?_)
 refine Bt_mi ?_
 refine scHz (hs.hp h) (by first | omega | decide) (by first | omega | decide) fun v1 p1 => ?_
 have hv1 := p1.2 w1 hs
 rw [flat_take (f := fI) (fun _ => rfl)] at hv1
 refine Exists.elim (p := fun L => ss.take (min (ss.length : Int) 7).toNat = L) ⟨_, rfl⟩ fun S hS => ?_
 have hSl : S.length = (min (ss.length : Int) 7).toNat := by rw [← hS, List.length_take]; omega
 rw [hS, ← hSl] at hv1
 have hSl : S.length ≤ 7 := by omega
 have hv11 := (slc_c1 hv1).1
 refine bsN (vs := [_, _]) h (.cons (by first | assumption) (by rfl) (.cons (by first | assumption) (by rfl) .nil)) (by rfl) (by rfl) (by decide) (by decide) (by decide) fun v2 w h => ?_
 refine leS (qZ 0 h rfl) ?_
 clear p1
 refine Lp1.mk (fun i W => ∃ j : Nat, j ≤ 2 ∧ i = .int .i64 j ∧ Hp [] w1 W [ro 22 1 v2 2 [a, v1]]) (fun i _ => match i with | .int _ i' => 2 - i'.toNat | _ => 0) ⟨0, by omega, rfl, h⟩ ?_
 clear h
 rintro _ W ⟨j, hj, rfl, h⟩
 by_cases hj2 : j < 2
 rotate_left
 ·refine Bn_ltF (by omega) (If_F ?_)
  exact Ret.mk ⟨x1.tr h.ext, rfl⟩
 refine Exists.elim (p := fun t : Value × List Int => [a, v1][j]? = some t.1 ∧ SlC w1 1 t.1 t.2.length (t.2.flatMap fI) ∧ t.2.length ≤ 7) (by
  rcases (show j = 0 ∨ j = 1 by omega) with rfl | rfl
  ·exact ⟨(a, ks0.map fun (x : Nat) => (x : Int)), rfl, hA, by show (ks0.map _).length ≤ 7; rw [List.length_map]; omega⟩
  ·exact ⟨(v1, S), rfl, hv1, hSl⟩) fun t ht => ?_
 obtain ⟨y, q⟩ := t
 obtain ⟨hy, hq, hq7⟩ := ht
 have hy : [a, v1][j]? = some y := hy
 have hq : SlC w1 1 y q.length (q.flatMap fI) := hq
 have hq7 : q.length ≤ 7 := hq7
 have sy : Seg [a, v1] (j * 1) [y] := seg_one hy
 clear hA hA1 hv1 hv11 hs
 refine Bn_ltT (by omega) (If_T (iaR h 0 rfl (by omega) fun zg zk zv => ?_))
 refine lr0 h 0 rfl ‹_› sy (by rfl) ?_
 refine leS (hr.hp h) ?_
 refine Bt_mi ?_
 refine scHz (hr.hp h) (by first | omega | decide) (by first | omega | decide) fun v3 p1 => ?_
 have hv3 := p1.2 w1 hr
 rw [flat_take (f := fI) (fun _ => rfl)] at hv3
 refine Exists.elim (p := fun L => rs.take (min (rs.length : Int) 401).toNat = L) ⟨_, rfl⟩ fun R hR => ?_
 have hRl : R.length = (min (rs.length : Int) 401).toNat := by rw [← hR, List.length_take]; omega
 rw [hR, ← hRl] at hv3
 have hRl : R.length ≤ 401 := by omega
 have hv31 := (slc_c1 hv3).1
 refine bsN (vs := [_, _]) h (.cons (by first | assumption | exact qY 0 h rfl) (by rfl) (.cons (by first | assumption | exact qY 0 h rfl) (by rfl) .nil)) (by rfl) (by rfl) (by decide) (by decide) (by decide) fun v4 w h => ?_
 refine leS (qZ 0 h rfl) ?_
 clear p1
 refine Lp1.mk (fun i W => ∃ j' : Nat, j' ≤ 2 ∧ i = .int .i64 j' ∧ Hp [] w1 W [ro 22 1 v4 2 [b, v3], ro 22 1 v2 2 [a, v1]]) (fun i _ => match i with | .int _ i' => 2 - i'.toNat | _ => 0) ⟨0, by omega, rfl, h⟩ ?_
 clear h
 rintro _ W ⟨j', hj', rfl, h⟩
 by_cases hj3 : j' < 2
 rotate_left
 ·refine Bn_ltF (by omega) (If_F (Bn_ad (by omega) (by omega) ?_))
  exact ⟨⟨j + 1, by omega, rfl, h.pick [1] (by decide) rfl⟩, by show 2 - ((j : Int) + 1).toNat < 2 - (j : Int).toNat; omega⟩
 refine Exists.elim (p := fun t : Value × List Int => [b, v3][j']? = some t.1 ∧ SlC w1 1 t.1 t.2.length (t.2.flatMap fI) ∧ t.2.length ≤ 401) (by
  rcases (show j' = 0 ∨ j' = 1 by omega) with rfl | rfl
  ·exact ⟨(b, l0), rfl, hB, by show l0.length ≤ 401; omega⟩
  ·exact ⟨(v3, R), rfl, hv3, hRl⟩) fun t ht => ?_
 obtain ⟨z, r⟩ := t
 obtain ⟨hz, hr', hr4⟩ := ht
 have hz : [b, v3][j']? = some z := hz
 have hr' : SlC w1 1 z r.length (r.flatMap fI) := hr'
 have hr4 : r.length ≤ 401 := hr4
 have sz : Seg [b, v3] (j' * 1) [z] := seg_one hz
 clear hB hB1 hv3 hv31 hr
 by_cases hM : ∃ ks : List Nat, q = ks.map (fun (x : Nat) => (x : Int)) ∧ MgOk ks r
 ·refine Exists.elim hM fun ks hks => ?_
  obtain ⟨hqk, hM⟩ := hks
  have hkq : SlC w1 1 y ks.length (ks.flatMap fN) := by
   rw [hqk, ← fN_cast, List.length_map] at hq
   exact hq
  have h6 := hM.le6
  have hsl : (shrsM ks r).length = ks.length := by simp [shrsM]
  have cr1 : ∀ {W : World}, Ext w1 W → Calls Tryz.prog 27 #[y, z] W (Ret fun r' w' => ∃ u, r' = .tuple #[u, .int .i64 0] ∧ Hp [] W w' [ro tR 2 u ks.length (qC (shrsM ks r))]) := fun {W} e => c_Merged (hkq.ext e) (hr'.ext e) hM (hT.ext e) (hF.ext e)
  have cr2 : ∀ {W : World}, Ext w1 W → Calls Tryz.prog 28 #[y, z] W (Ret fun r' w' => ∃ u, r' = .tuple #[u, .int .i64 0] ∧ Hp [] W w' [ro tR 2 u ks.length (qC (shrsM ks r))]) := fun {W} e => c_fMerged (hkq.ext e) (hr'.ext e) hM
  have cc1 : ∀ {W : World}, Ext w1 W → ∀ {a b : Value}, SlC W 2 a ks.length (qC (shrsM ks r)) → SlC W 2 b ks.length (qC (shrsM ks r)) → Calls Tryz.prog 19 #[a, b] W (Ret fun r w' => Ext W w' ∧ r = .bool true) := fun {W} e {a b} h1 h2 =>
   c_same (xs := shrsM ks r) (ys := shrsM ks r) (by rw [hsl]; exact h1) (by rw [hsl]; exact h2) (by omega) (by omega) (by simp)
  refine Bn_ltT (by omega) (If_T (iaR h 0 rfl (by omega) fun zg zk zv => ?_))
  refine lr0 h 0 rfl ‹_› sz (by rfl) ?_
  refine clR h n_share_Merged (cr1 h.ext) fun v5 w h => ?_
  refine Ex2 (clR h n_ref25_Merged (cr2 h.ext) fun v6 w h => ?_)
  refine Ex2 (Bn_neF (by omega) (Gd_F (Gd_F (Gd_F (cl1 h n_law25_same (cc1 h.ext (by first | exact (qZ 1 h rfl) | assumption) (by first | exact (qZ 0 h rfl) | assumption)) fun w h => ?_)))))
  refine Gd_F (Un_T (Pick_F (If_F (Bn_ad (by omega) (by omega) ?_))))
  exact ⟨⟨j' + 1, by omega, rfl, h.pick [2, 3] (by decide) rfl⟩, by show 2 - ((j' : Int) + 1).toNat < 2 - (j' : Int).toNat; omega⟩
 ·have hnil : ∀ {W : World} {c : Nat}, SlC W c (.slice none 0 0) 0 [] := ⟨by simp, .inl ⟨rfl, rfl⟩⟩
  have cc1 := fun {W : World} (e : Ext w1 W) => c_MergedE (w0 := W) (hq.ext e) (hr'.ext e) hq7 (by omega) hM
  have cc2 := fun {W : World} (e : Ext w1 W) => c_fMergedE (w0 := W) (hr'.ext e) (by omega) (hq.ext e) hq7 hM
  have cc3 : ∀ {W : World}, Ext w1 W → Calls Tryz.prog 19 #[.slice none 0 0, .slice none 0 0] W (Ret fun r w' => Ext W w' ∧ r = .bool true) := fun {W} e => c_same (xs := []) (ys := []) hnil hnil (by decide) (by decide) (by simp)
  refine Bn_ltT (by omega) (If_T (iaR h 0 rfl (by omega) fun zg zk zv => ?_))
  refine lr0 h 0 rfl ‹_› sz (by rfl) ?_
  refine cl1 h n_share_Merged (cc1 h.ext) fun w h => ?_
  refine Ex2 (cl1 h n_ref25_Merged (cc2 h.ext) fun w h => ?_)
  refine Ex2 (Bn_neF (by omega) (Gd_F (Gd_F (Gd_F (cl1 h n_law25_same (cc3 h.ext) fun w h => ?_)))))
  refine Gd_F (Un_T (Pick_F (If_F (Bn_ad (by omega) (by omega) ?_))))
  exact ⟨⟨j' + 1, by omega, rfl, h⟩, by show 2 - ((j' : Int) + 1).toNat < 2 - (j' : Int).toNat; omega⟩
end
end Go.Proofs.YthjhkpefammjkaaGreatDoor
