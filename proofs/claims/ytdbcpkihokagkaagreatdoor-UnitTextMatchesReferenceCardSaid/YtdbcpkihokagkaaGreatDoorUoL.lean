/-
  Contracts and plain lemmas. By an AI agent.
-/
import Derived.Test.YtdbcpkihokagkaaGreatDoorLUoL
import Derived.Test.YtdbcpkihokagkaaGreatDoorUoJ
import Derived.Test.YtdbcpkihokagkaaGreatDoorUoE
set_option linter.unusedSimpArgs false
set_option linter.unusedVariables false
set_option linter.unusedSectionVars false
namespace Go.Proofs.YtdbcpkihokagkaaGreatDoor
open Go Go.Eng Go.Proofs Go.Num Go.RowKit
set_option maxRecDepth 100000
theorem seg_map {α : Type} {f : α → Value} {l : List α} {j : Nat} {x : α} (h : l[j]? = some x) : Seg (l.map f) (j * 1) [f x] := by
 intro k v hk
 rcases k with _ | k
 ·simp at hk; subst hk
  rw [Nat.mul_one, Nat.add_zero, List.getElem?_map, h]; rfl
 ·simp at hk
theorem ccBy {w0 w : World} {L : List Et} {K : Value → World → Prop} {g cap : Nat} {l : List UInt8} {zs : List Value} {S : List Nat} (h : Hp S w0 w L) (i : Nat) (hi : L[i]? = some (bw g tBy cap (u8s l ++ zs))) {n : Nat} (hn : n = l.length) (hk : K (str l) w) : Cv Tryz.prog 44 9 (.slice (some ⟨g, 0, none⟩) n cap) w K := by
 obtain ⟨v, hv, hkv⟩ := dcBy (KP := fun v => v = str l) h i hi hn rfl
 subst hkv
 exact V_of hv hk
noncomputable def dvO (s : List UInt8) (a : Int) : Option (QT × Nat) := if 0 ≤ a ∧ a ≤ s.length then decQ (s.drop a.toNat) else none
noncomputable def dvQ (s : List UInt8) (a : Int) : QT := match dvO s a with | some (q, _) => q | none => q0
noncomputable def dvN (s : List UInt8) (a : Int) : Int := match dvO s a with | some (_, m) => ((a.toNat + m : Nat) : Int) | none => 0
noncomputable def dvE (s : List UInt8) (a : Int) : Int := match dvO s a with | some _ => 0 | none => if 0 ≤ a ∧ a ≤ s.length then 50 else 2
theorem decV_t (s : List UInt8) (a : Int) : decV s a = .tuple #[vQ (dvQ s a), .int .i64 (dvN s a), .int .i64 (dvE s a)] := by
 unfold decV dvQ dvN dvE dvO
 by_cases h : 0 ≤ a ∧ a ≤ s.length
 ·simp only [if_pos h]
  rcases decQ (s.drop a.toNat) with _ | ⟨q, m⟩ <;> rfl
 ·simp only [if_neg h]
set_option maxHeartbeats 1000000 in
theorem law_Text {w0 : World} {q : QT} {x : U4} {s : List UInt8} {a c : Int} (hq : QTi q) (hx : UI x) (hs : s.length ≤ 9223372036854775807) (ha : I64 a) (hc : 0 ≤ c ∧ c ≤ 255) (he : En w0) :
 Calls Tryz.prog 4 #[vQ q, vU x, str s, .int .i64 a, .int .u8 c] w0 (Ret fun r w' => Ext w0 w' ∧ r = .bool true) := by
 have ha1 := ha.1
 have ha2 := ha.2
 have hc1 := hc.1
 have hc2 := hc.2
 have cc0 := fun {W : World} (e : Ext w0 W) => law_sane (he.ext e)
 have cc1 := fun {W : World} (e : Ext w0 W) => c_Made (w0 := W) hx
 have cc2 := fun {W : World} (e : Ext w0 W) => c_cut (w0 := W) hq
 have vp := some_s (made_v x)
 generalize madeQ x = p at *
 have kp := QTk.of vp
 have lt0 := prQ_le (q := p)
 have lc0 := encQ_le vp
 have tne : 0 < (prQ p).length := List.length_pos_iff.2 (prQ_ne vp)
 have cne := encQ_len p
 have dd1 : ∀ {W : World}, Ext w0 W → Calls Tryz.prog 28 #[vQ p] W (Ret fun r w' => Ext W w' ∧ r = .tuple #[str (encQ p), .int .i64 0]) := fun {W} e => by
  have := c_fEncode (w0 := W) kp
  unfold enc2 at this
  rw [vp, if_pos rfl] at this
  exact this
 have dd2 := fun {W : World} (e : Ext w0 W) => c_fPrintQ (w0 := W) kp
 obtain ⟨L, hL⟩ : ∃ L, L = [cutQ q, p] := ⟨_, rfl⟩
 have hLk : ∀ b ∈ L, QTk b := by
  rw [hL]
  intro b hb
  simp only [List.mem_cons, List.not_mem_nil, or_false] at hb
  rcases hb with rfl | rfl
  ·exact cutQ_k q
  ·exact kp
 have hLl : L.length = 2 := by rw [hL]; rfl
 have hseg : ∀ {j : Nat} {b : QT}, L[j]? = some b → Seg (L.flatMap fQ) (j * 6) (fQ b) := fun {j b} h => flat_seg (f := fQ) (c := 6) (fun _ => rfl) h
 obtain ⟨tt, htt⟩ : ∃ tt, tt = prQ p := ⟨_, rfl⟩
 obtain ⟨cd, hcd⟩ : ∃ cd, cd = encQ p := ⟨_, rfl⟩
 rw [← htt] at lt0 tne dd2
 rw [← hcd] at lc0 cne dd1
 clear htt hcd
 suffices main : ∀ (R : Ending → World → Prop), (∀ w, Hp [] w0 w [] → R (.returned (.bool true)) w) → s_law05_UnitTextMatchesReference Tryz.prog (vQ q) (vU x) (str s) (.int .i64 a) (.int .u8 c) w0 R from
  e_law05_UnitTextMatchesReference (main _ fun w h => Ret.mk ⟨h.ext, rfl⟩)
 intro R lf9
 obtain ⟨kk, hkk⟩ : ∃ kk, kk = posK a := ⟨_, rfl⟩
 have hk0 : 0 ≤ kk ∧ kk ≤ 9223372036854775807 := by
  rw [hkk]; unfold posK; split <;> omega
 have hk1 := hk0.1
 have hk2 := hk0.2
 have m1 := Int.emod_nonneg kk (b := (tt.length : Int)) (by omega)
 have m2 := Int.emod_lt_of_pos kk (b := (tt.length : Int)) (by omega)
 have m3 := Int.emod_nonneg kk (b := (cd.length : Int)) (by omega)
 have m4 := Int.emod_lt_of_pos kk (b := (cd.length : Int)) (by omega)
 obtain ⟨z1, hz1⟩ : ∃ z1, z1 = s.take (min (s.length : Int) 200).toNat := ⟨_, rfl⟩
 obtain ⟨z2, hz2⟩ : ∃ z2, z2 = tt.set (kk % (tt.length : Int)).toNat (UInt8.ofNat c.toNat) := ⟨_, rfl⟩
 obtain ⟨z3, hz3⟩ : ∃ z3, z3 = cd.set (kk % (cd.length : Int)).toNat (UInt8.ofNat c.toNat) := ⟨_, rfl⟩
 have l1 : z1.length ≤ 200 := by rw [hz1, List.length_take]; omega
 have l2 : z2.length ≤ 200 := by rw [hz2, List.length_set]; omega
 have l3 : z3.length ≤ 200 := by rw [hz3, List.length_set]; omega
 obtain ⟨M, hM⟩ : ∃ M, M = [z1, tt, cd, z2, z3] := ⟨_, rfl⟩
 have hMl : M.length = 5 := by rw [hM]; rfl
 have hMz : ∀ z ∈ M, z.length ≤ 200 := by
  rw [hM]
  intro z hm
  simp only [List.mem_cons, List.not_mem_nil, or_false] at hm
  rcases hm with rfl | rfl | rfl | rfl | rfl <;> omega
 unfold s_law05_UnitTextMatchesReference
 have h := Hp.init [] w0
 refine bxA h fun g1 w h => ?_
 refine bxA h fun g2 w h => ?_
 refine cl1 h n_law05_sane (cc0 h.ext) fun w h => ?_
 refine Bt_lenT ?_
 refine Bt_mi ?_
 refine Sc_tH (by omega) (by omega) ?_
 refine ldA h 0 rfl rfl ?_
 refine cl1 h n_ref05_Made (cc1 h.ext) fun w h => ?_
 refine alS h fun g3 w h => ?_
 refine stA h 0 rfl rfl rfl rfl fun w h => ?_
 replace h := h.dr
 refine dlA h 2 rfl rfl ?_
 refine dlA h 0 rfl rfl ?_
 refine cl1 h n_law05_cut (cc2 h.ext) fun w h => ?_
 refine klA h 0 rfl rfl ?_
 refine bsN (vs := [_, _]) h (.cons (by rfl) (by rfl) (.cons (by rfl) (by rfl) .nil)) (by rfl) (by rfl) (by decide) (by decide) (by decide) fun v1 w h => ?_
 refine dlS (qZ 0 h rfl) ?_
 dsimp only [List.set] at h
 have h2 : Hp [] w0 w [ro tQy 6 v1 2 (L.flatMap fQ), bx g3 tQy (fQ p)] := by
  rw [hL]
  exact h.pick [0, 1] (by decide) rfl
 clear h
 refine Lp1.mk (fun i W => ∃ j : Nat, j ≤ 2 ∧ i = .int .i64 (j : Int) ∧ Hp [] w0 W [ro tQy 6 v1 2 (L.flatMap fQ), bx g3 tQy (fQ p)]) (fun i _ => match i with | .int _ i' => 2 - i'.toNat | _ => 0) ⟨0, by decide, rfl, h2⟩ ?_
 clear h2
 rintro _ w ⟨i, hi, rfl, h⟩
 by_cases hi2 : i < 2
 ·have hb0 : ∃ b, L[i]? = some b := ⟨_, List.getElem?_eq_getElem (by omega)⟩
  refine Exists.elim hb0 fun b hb => ?_
  clear hb0
  have kb := hLk b (List.mem_of_getElem? hb)
  have sb := hseg hb
  have cc10 := fun {W : World} (e : Ext w0 W) => c_uEncode (w0 := W) kb (he.ext e).hT
  have cc11 := fun {W : World} (e : Ext w0 W) => c_fEncode (w0 := W) kb
  have cc12 := fun {W : World} (e : Ext w0 W) => c_uPrint (w0 := W) kb (he.ext e).hT (he.ext e).hW
  have cc13 := fun {W : World} (e : Ext w0 W) => c_fPrintQ (w0 := W) kb
  refine Bn_ltT (by omega) (If_T (iaR h 0 rfl (by omega) fun zg zk zv => ?_))
  refine lrA h 0 rfl ‹_› sb (by rfl) ?_
  refine alS h fun g4 w h => ?_
  refine stA h 0 rfl rfl rfl rfl fun w h => ?_
  refine ldA h 0 rfl rfl ?_
  refine cl1 h n_unit_Encode (cc10 h.ext) fun w h => ?_
  refine Ex2 (ldA h 0 rfl rfl ?_)
  refine cl1 h n_ref05_Encode (cc11 h.ext) fun w h => ?_
  refine Ex2 ?_
  replace h := h.dr
  refine dlA h 0 rfl rfl ?_
  refine dlA h 0 rfl rfl ?_
  refine cl1 h n_unit_Print (cc12 h.ext) fun w h => ?_
  refine klA h 0 rfl rfl ?_
  refine cl1 h n_ref05_Print (cc13 h.ext) fun w h => ?_
  refine Dv_neST (GdP_F (GdP_F (GdP_F (Dv_neST (PickP_F (GdP_F (GdP_F (GdP_F (Dv_neF (by omega) (PickP_F (If_F (Bn_ad (by omega) (by omega) ?_))))))))))))
  dsimp only [List.set] at h
  refine ⟨⟨i + 1, by omega, rfl, h.pick [1, 2] (by decide) rfl⟩, ?_⟩
  show 2 - ((i : Int) + 1).toNat < 2 - (i : Int).toNat
  omega
 have cc3 := @dd1
 have cc4 := @dd2
 refine Bn_ltF (by omega) (If_F (ldA h 1 rfl rfl ?_))
 refine cl1 h n_ref05_Encode (cc3 h.ext) fun w h => ?_
 refine Ex2 (ldA h 1 rfl rfl ?_)
 refine cl1 h n_ref05_Print (cc4 h.ext) fun w h => ?_
 refine Bn_neF (by omega) (Gd_F (Gd_F (Bt_lenT ?_)))
 refine Gd_F (Bn_eqF (by omega) (Pick_F (If_F (Jn1.mk fun K hK => ?_))))
 have lf1 : ∀ w, Hp [] w0 w [] → K (.int .i64 kk) w := by
  clear h
  intro w h
  refine hK _ _ ?_
  clear hK
  refine cvBy h fun d1 cap1 zs1 w cap1e h => ?_
  refine leBy ?_
  refine Bn_rm (by omega) (by omega) (iaV m1 m2 ?_)
  refine stBy h 0 rfl cap1e (by omega) hc1 hc2 fun w h => ?_
  refine cvBy h fun d2 cap2 zs2 w cap2e h => ?_
  refine leBy ?_
  refine Bn_rm (by omega) (by omega) ?_
  dsimp only [List.set] at h
  refine iaV m3 m4 ?_
  refine stBy h 0 rfl cap2e (by omega) hc1 hc2 fun w h => ?_
  refine ccBy h 1 rfl (by rw [List.length_set]) ?_
  refine ccBy h 0 rfl (by rw [List.length_set]) ?_
  refine bsN (vs := [_, _, _, _, _]) h (.cons (by rfl) (by rfl) (.cons (by rfl) (by rfl) (.cons (by rfl) (by rfl) (.cons (by rfl) (by rfl) (.cons (by rfl) (by rfl) .nil))))) (by rfl) (by rfl) (by decide) (by decide) (by decide) fun v2 w h => ?_
  refine leS (qZ 0 h rfl) ?_
  dsimp only [List.set] at h
  have h2 : Hp [] w0 w [ro tS 1 v2 5 (M.map str)] := by
   rw [hM, hz1, hz2, hz3]
   exact h.pick [0] (by decide) rfl
  clear h
  refine Lp1.mk (fun i W => ∃ j : Nat, j ≤ 5 ∧ i = .int .i64 (j : Int) ∧ Hp [] w0 W [ro tS 1 v2 5 (M.map str)]) (fun i _ => match i with | .int _ i' => 5 - i'.toNat | _ => 0) ⟨0, by decide, rfl, h2⟩ ?_
  clear h2
  rintro _ w ⟨j, hj, rfl, h⟩
  by_cases hj5 : j < 5
  rotate_left
  ·refine Bn_ltF (by omega) (If_F ?_)
   exact lf9 _ (h.pick [] (by decide) rfl)
  have hz0 : ∃ z, M[j]? = some z := ⟨_, List.getElem?_eq_getElem (by omega)⟩
  refine Exists.elim hz0 fun z hz => ?_
  clear hz0
  have sz := seg_map (f := str) hz
  have lz := hMz z (List.mem_of_getElem? hz)
  have cc5 := fun {W : World} (e : Ext w0 W) => c_uParse (w0 := W) (s := z) (by omega) (he.ext e).hT (he.ext e).hM (he.ext e).hW (he.ext e).hE
  have cc6 := fun {W : World} (e : Ext w0 W) => c_fParseQ (w0 := W) (s := z) (by omega)
  refine Exists.elim (⟨_, rfl⟩ : ∃ N : List Int, N = [a, 0, kk % ((z.length : Int) + 1)]) fun N hN => ?_
  have hNl : N.length = 3 := by rw [hN]; rfl
  refine Bn_ltT (by omega) (If_T (iaR h 0 rfl (by omega) fun zg zk zv => ?_))
  refine lr0 h 0 rfl ‹_› sz (by rfl) ?_
  refine cl1 h n_unit_Parse (cc5 h.ext) fun w h => ?_
  refine Ex2 (alS h fun g4 w h => ?_)
  refine stA h 0 rfl rfl rfl rfl fun w h => ?_
  refine cl1 h n_ref05_Parse (cc6 h.ext) fun w h => ?_
  refine Ex2 (alS h fun g5 w h => ?_)
  refine stA h 0 rfl rfl rfl rfl fun w h => ?_
  refine ldA h 1 rfl rfl ?_
  refine ldA h 0 rfl rfl ?_
  refine qyNeS ?_
  refine Gd_F (Gd_F (Gd_F (Bn_neF (by omega) (Pick_F (If_F (Bt_lenT ?_))))))
  refine Bn_ad (by omega) (by omega) (Bn_rm (by omega) (by omega) (bsN (vs := [_, _, _]) h (.cons (by rfl) (by rfl) (.cons (by rfl) (by rfl) (.cons (by rfl) (by rfl) .nil))) (by rfl) (by rfl) (by decide) (by decide) (by decide) fun v3 w h => ?_))
  refine leS (qZ 0 h rfl) ?_
  dsimp only [List.set] at h
  have h2 : Hp [] w0 w [ro 3 1 v3 3 (N.map fun n => Value.int .i64 n), ro tS 1 v2 5 (M.map str)] := by
   rw [hN]
   exact h.pick [0, 3] (by decide) rfl
  clear h
  refine Lp1.mk (fun i W => ∃ k : Nat, k ≤ 3 ∧ i = .int .i64 (k : Int) ∧ Hp [] w0 W [ro 3 1 v3 3 (N.map fun n => Value.int .i64 n), ro tS 1 v2 5 (M.map str)]) (fun i _ => match i with | .int _ i' => 3 - i'.toNat | _ => 0) ⟨0, by decide, rfl, h2⟩ ?_
  clear h2
  rintro _ w ⟨k, hk, rfl, h⟩
  by_cases hk3 : k < 3
  rotate_left
  ·refine Bn_ltF (by omega) (If_F (Bn_ad (by omega) (by omega) ?_))
   refine ⟨⟨j + 1, by omega, rfl, h.pick [1] (by decide) rfl⟩, ?_⟩
   show 5 - ((j : Int) + 1).toNat < 5 - (j : Int).toNat
   omega
  have hy0 : ∃ y, N[k]? = some y := ⟨_, List.getElem?_eq_getElem (by omega)⟩
  refine Exists.elim hy0 fun y hy => ?_
  clear hy0
  have sy := seg_map (f := fun n => Value.int .i64 n) hy
  have cc7 := fun {W : World} (e : Ext w0 W) => c_uDecode (w0 := W) (s := z) (by omega) (a := y) (he.ext e).hT
  have cc8 := fun {W : World} (e : Ext w0 W) => c_fDecode (w0 := W) (s := z) (by omega) (a := y)
  rw [decV_t] at cc7 cc8
  refine Bn_ltT (by omega) (If_T (iaR h 0 rfl (by omega) fun zg zk zv => ?_))
  refine lr0 h 0 rfl ‹_› sy (by rfl) ?_
  refine cl1 h n_unit_Decode (cc7 h.ext) fun w h => ?_
  refine Ex3 (alS h fun g6 w h => ?_)
  refine stA h 0 rfl rfl rfl rfl fun w h => ?_
  refine cl1 h n_ref05_Decode (cc8 h.ext) fun w h => ?_
  refine Ex3 (alS h fun g7 w h => ?_)
  refine stA h 0 rfl rfl rfl rfl fun w h => ?_
  refine ldA h 1 rfl rfl ?_
  refine ldA h 0 rfl rfl ?_
  refine qyNeS ?_
  refine Gd_F (Gd_F (Gd_F (Bn_neF (by omega) (Pick_F (Gd_F (Gd_F (Gd_F (Bn_neF (by omega) (Pick_F (If_F (Bn_ad (by omega) (by omega) ?_)))))))))))
  dsimp only [List.set] at h
  refine ⟨⟨k + 1, by omega, rfl, h.pick [2, 3] (by decide) rfl⟩, ?_⟩
  show 3 - ((k : Int) + 1).toNat < 3 - (k : Int).toNat
  omega
 clear hK
 by_cases hneg : a < 0
 ·have e : kk = -(a + 1) := by rw [hkk]; unfold posK; rw [if_pos hneg]
  rw [e] at lf1
  refine Bn_ltT (by omega) (If_T (Bn_ad (by omega) (by omega) (Eng.Un_ng (by omega) (by omega) ?_)))
  exact lf1 _ (h.pick [] (by decide) rfl)
 ·have e : kk = a := by rw [hkk]; unfold posK; rw [if_neg hneg]
  rw [e] at lf1
  refine Bn_ltF (by omega) (If_F ?_)
  exact lf1 _ (h.pick [] (by decide) rfl)
end Go.Proofs.YtdbcpkihokagkaaGreatDoor
