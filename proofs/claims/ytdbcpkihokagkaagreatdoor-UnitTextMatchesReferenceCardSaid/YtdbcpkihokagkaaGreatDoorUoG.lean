/-
  Contracts and plain lemmas. By an AI agent.
-/
import Derived.Test.YtdbcpkihokagkaaGreatDoorLUoG
import Derived.Test.YtdbcpkihokagkaaGreatDoorUoF
import Derived.Test.YtdbcpkihokagkaaGreatDoorEngYi
set_option linter.unusedSimpArgs false
set_option linter.unusedVariables false
set_option linter.unusedSectionVars false
namespace Go.Proofs.YtdbcpkihokagkaaGreatDoor
open Go Go.Eng Go.Proofs Go.Num Go.RowKit
set_option maxRecDepth 100000
abbrev tBy : TypeId := 5
section
variable {S : List Nat} {w0 w : World} {L : List Et} {K : Value → World → Prop} {KP : Value → Prop} {KW : World → Prop} {g cap : Nat} {l : List UInt8} {zs : List Value}
theorem cvBy (h : Hp S w0 w L) (hk : ∀ g cap zs w1, l.length + zs.length = cap → Hp S w0 w1 (bw g tBy cap (u8s l ++ zs) :: L) → K (.slice (some ⟨g, 0, none⟩) l.length cap) w1) : Cv Tryz.prog 9 44 (str l) w K :=
 cvB h Tryz.underlying9 Tryz.underlying44 Tryz.underlying5 hk
theorem stBy (h : Hp S w0 w L) (i : Nat) (hi : L[i]? = some (bw g tBy cap (u8s l ++ zs))) (hc : l.length + zs.length = cap) {o : Nat} (ho : o < l.length) {x : Int} (h0 : 0 ≤ x) (h1 : x ≤ 255)
 (hk : ∀ w1, Hp S w0 w1 (L.set i (bw g tBy cap (u8s (l.set o (UInt8.ofNat x.toNat)) ++ zs))) → KW w1) : Sto Tryz.prog 5 (pr g (0 + o * 1)) (.int .u8 x) w KW := by
 have hf := bw_frz h hi (o := o) (by omega)
 have hx : (UInt8.ofNat x.toNat).toNat = x.toNat := u8_toNat (by omega)
 have hup := bw_up h hi (.int .u8 x) o
 have e : (u8s l ++ zs).set o (.int .u8 x) = u8s (l.set o (UInt8.ofNat x.toNat)) ++ zs := by
  rw [List.set_append_left _ _ (by simp; exact ho)]
  simp only [u8s, List.map_set, hx]
  rw [show ((x.toNat : Nat) : Int) = x by omega]
 rw [e] at hup
 have hcell := bw_cells h hi o ((u8s l ++ zs)[o]'(by simp; omega)) (List.getElem?_eq_getElem _)
 rw [Nat.zero_add] at hcell
 have e0 : 0 + o * 1 = o := by omega
 rw [e0]
 ((try simp -dsimp [go_sem, hcell, hf]); repeat (simp -dsimp (disch := omega) only [gL, gI]; try simp -dsimp [go_sem, hcell, hf]))
 exact hk _ hup
theorem dcBy (h : Hp S w0 w L) (i : Nat) (hi : L[i]? = some (bw g tBy cap (u8s l ++ zs))) {n : Nat} (hn : n = l.length) (hk : KP (str l)) : Dv Tryz.prog false (convert 44 9 (.slice (some ⟨g, 0, none⟩) n cap)) w KP := by
 subst hn
 exact dcvB h Tryz.underlying44 Tryz.underlying5 Tryz.underlying9 hi hk
theorem leBy {n : Nat} {T : TypeId} (hk : K (.int .i64 (n : Int)) w) : Bt Tryz.prog .len #[44] T #[.slice (some ⟨g, 0, none⟩) n cap] w K := Bt_lenL ⟨_, Tryz.underlying44⟩ hk
end
theorem decV_in {z : List UInt8} {i : Int} (h0 : 0 ≤ i) (h1 : i ≤ z.length) : decV z i = dQV i.toNat (decQ (z.drop i.toNat)) := by
 unfold decV; rw [if_pos ⟨h0, h1⟩]
def posK (a : Int) : Int := if a < 0 then -(a + 1) else a
theorem rd_seg {z1 z2 z3 z : List UInt8} {j : Nat} (h : [z1, z2, z3][j]? = some z) : Seg [str z1, str z2, str z3] (j * 1) [str z] := by
 intro k v hk
 rcases k with _ | k
 ·simp at hk; subst hk
  rw [Nat.mul_one, Nat.add_zero]
  match j, h with
  | 0, h => simp at h; subst h; rfl
  | 1, h => simp at h; subst h; rfl
  | 2, h => simp at h; subst h; rfl
  | j + 3, h => simp at h
 ·simp at hk
theorem par_cases (z : List UInt8) : (qE (parQ z) = 0 ∧ (valQ (qV (parQ z))).isSome = true ∧ prQ (qV (parQ z)) = z) ∨ (qE (parQ z) = 50 ∧ Qe (qV (parQ z)) q0) := by
 rcases h : parQ z with _ | q
 ·exact .inr ⟨rfl, Qe.of rfl⟩
 ·exact .inl ⟨rfl, parQ_some h⟩
theorem par_k (z : List UInt8) : QTk (qV (parQ z)) := by
 rcases h : parQ z with _ | q
 ·exact ⟨by decide, by decide⟩
 ·exact QTk.of (parQ_some h).1
theorem law_Read {w0 : World} {s : List UInt8} {x : U4} {a c : Int} (hs : s.length ≤ 9223372036854775807) (hx : UI x) (ha : I64 a) (hc : 0 ≤ c ∧ c ≤ 255) (he : En w0) :
 Calls Tryz.prog 9 #[str s, vU x, .int .i64 a, .int .u8 c] w0 (Ret fun r w' => Ext w0 w' ∧ r = .bool true) := by
 have ha1 := ha.1
 have ha2 := ha.2
 have hc1 := hc.1
 have hc2 := hc.2
 have cc0 := fun {W : World} (e : Ext w0 W) => law_sane (he.ext e)
 have cc1 := fun {W : World} (e : Ext w0 W) => c_Made (w0 := W) hx
 have vp := some_s (made_v x)
 generalize madeQ x = p at *
 have kp := QTk.of vp
 have lt0 := prQ_le (q := p)
 have lc0 := encQ_le vp
 have tne : 0 < (prQ p).length := List.length_pos_iff.2 (prQ_ne vp)
 have cne := encQ_len p
 have cc2 := fun {W : World} (e : Ext w0 W) => c_fPrintQ (w0 := W) kp
 have cc3 : ∀ {W : World}, Ext w0 W → Calls Tryz.prog 28 #[vQ p] W (Ret fun r w' => Ext W w' ∧ r = .tuple #[str (encQ p), .int .i64 0]) := fun {W} e => by
  have := c_fEncode (w0 := W) kp
  unfold enc2 at this
  rw [vp, if_pos rfl] at this
  exact this
 generalize prQ p = tt at *
 generalize encQ p = cd at *
 suffices main : ∀ (R : Ending → World → Prop), (∀ w, Hp [] w0 w [] → R (.returned (.bool true)) w) → s_law05_UnitReadAgain Tryz.prog (str s) (vU x) (.int .i64 a) (.int .u8 c) w0 R from
  e_law05_UnitReadAgain (main _ fun w h => Ret.mk ⟨h.ext, rfl⟩)
 intro R lf9
 obtain ⟨kk, hkk⟩ : ∃ kk, kk = posK a := ⟨_, rfl⟩
 have hk0 : 0 ≤ kk ∧ kk ≤ 9223372036854775807 := by
  rw [hkk]; unfold posK; split <;> omega
 have hk1 := hk0.1
 have hk2 := hk0.2
 have m1 := Int.emod_nonneg kk (b := (tt.length : Int)) (by omega)
 have m2 := Int.emod_lt_of_pos kk (b := (tt.length : Int)) (by omega)
 have m3 := Int.emod_nonneg kk (b := (cd.length : Int)) (by omega)
 have m4 := Int.emod_lt_of_pos kk (b := (cd.length : Int)) (by omega)
 obtain ⟨z1, hz1⟩ : ∃ z1, z1 = s.take (min (s.length : Int) 200).toNat := ⟨_, rfl⟩
 obtain ⟨z2, hz2⟩ : ∃ z2, z2 = tt.set (kk % (tt.length : Int)).toNat (UInt8.ofNat c.toNat) := ⟨_, rfl⟩
 obtain ⟨z3, hz3⟩ : ∃ z3, z3 = cd.set (kk % (cd.length : Int)).toNat (UInt8.ofNat c.toNat) := ⟨_, rfl⟩
 have l1 : z1.length ≤ 200 := by rw [hz1, List.length_take]; omega
 have l2 : z2.length ≤ 200 := by rw [hz2, List.length_set]; omega
 have l3 : z3.length ≤ 200 := by rw [hz3, List.length_set]; omega
 unfold s_law05_UnitReadAgain
 have h := Hp.init [] w0
 refine bxA h fun g1 w h => ?_
 refine cl1 h n_law05_sane (cc0 h.ext) fun w h => ?_
 refine ldA h 0 rfl rfl ?_
 refine cl1 h n_ref05_Made (cc1 h.ext) fun w h => ?_
 refine cl1 h n_ref05_Print (cc2 h.ext) fun w h => ?_
 refine ldA h 0 rfl rfl ?_
 refine cl1 h n_ref05_Made (cc1 h.ext) fun w h => ?_
 refine cl1 h n_ref05_Encode (cc3 h.ext) fun w h => ?_
 refine Ex2 (Bt_lenT ?_)
 refine Bn_eqF (by omega) (Gd_F (Gd_F (Bn_neF (by omega) (Pick_F (If_F (Jn1.mk fun K hK => ?_))))))
 have lf1 : ∀ w, Hp [] w0 w [] → K (.int .i64 kk) w := by
  clear h
  intro w h
  refine hK _ _ ?_
  clear hK
  refine cvBy h fun d1 cap1 zs1 w cap1e h => ?_
  refine leBy ?_
  refine Bn_rm (by omega) (by omega) (iaV m1 m2 ?_)
  refine stBy h 0 rfl cap1e (by omega) hc1 hc2 fun w h => ?_
  refine cvBy h fun d2 cap2 zs2 w cap2e h => ?_
  refine leBy ?_
  refine Bn_rm (by omega) (by omega) ?_
  dsimp only [List.set] at h
  refine iaV m3 m4 ?_
  refine stBy h 0 rfl cap2e (by omega) hc1 hc2 fun w h => ?_
  replace h := h.dr
  refine Dv_lenT (Dv_min (Dv_tH (by omega) (by omega) ?_))
  dsimp only [List.set] at h
  refine dcBy h 1 rfl (by rw [List.length_set]) ?_
  refine dcBy h 0 rfl (by rw [List.length_set]) ?_
  refine bsN (vs := [_, _, _]) h (.cons (by rfl) (by rfl) (.cons (by rfl) (by rfl) (.cons (by rfl) (by rfl) .nil))) (by rfl) (by rfl) (by decide) (by decide) (by decide) fun v1 w h => ?_
  refine dlS (qZ 0 h rfl) ?_
  have h2 : Hp [] w0 w [ro tS 1 v1 3 [str z1, str z2, str z3]] := by
   rw [hz1, hz2, hz3]
   exact h.pick [0] (by decide) rfl
  clear h
  refine Lp1.mk (fun i W => ∃ j : Nat, j ≤ 3 ∧ i = .int .i64 (j : Int) ∧ Hp [] w0 W [ro tS 1 v1 3 [str z1, str z2, str z3]]) (fun i _ => match i with | .int _ i' => 3 - i'.toNat | _ => 0) ⟨0, by decide, rfl, h2⟩ ?_
  clear h2
  rintro _ w ⟨j, hj, rfl, h⟩
  by_cases hj3 : j < 3
  rotate_left
  ·refine Bn_ltF (by omega) (If_F ?_)
   exact lf9 _ (h.pick [] (by decide) rfl)
  have hz0 : ∃ z, [z1, z2, z3][j]? = some z := ⟨_, List.getElem?_eq_getElem (by simpa using hj3)⟩
  refine Exists.elim hz0 fun z hz => ?_
  clear hz0
  have sz := rd_seg hz
  have lz : z.length ≤ 200 := by
   have hm := List.mem_of_getElem? hz
   simp only [List.mem_cons, List.not_mem_nil, or_false] at hm
   rcases hm with rfl | rfl | rfl
   ·exact l1
   ·exact l2
   ·exact l3
  have hcase := par_cases z
  have kq := par_k z
  have cc4 := fun {W : World} (e : Ext w0 W) => c_uParse (w0 := W) (s := z) (by omega) (he.ext e).hT (he.ext e).hM (he.ext e).hW (he.ext e).hE
  refine Bn_ltT (by omega) (If_T (iaR h 0 rfl (by omega) fun zg zk zv => ?_))
  refine lr0 h 0 rfl ‹_› sz (by rfl) ?_
  refine cl1 h n_unit_Parse (cc4 h.ext) fun w h => ?_
  refine Ex2 (alS h fun g2 w h => ?_)
  refine stA h 0 rfl rfl rfl rfl fun w h => ?_
  dsimp only [List.set] at h
  revert h
  revert w
  apply meet
  ·intro w lfT h
   refine Or.elim hcase (fun hA => ?_) (fun hA => ?_)
   ·have e1 := hA.1
    have cc5 := fun {W : World} (e : Ext w0 W) => c_ValidQ (w0 := W) kq hA.2.1 (he.ext e).hT
    have cc6 := fun {W : World} (e : Ext w0 W) => c_uPrint (w0 := W) kq (he.ext e).hT (he.ext e).hW
    rw [hA.2.2] at cc6
    refine Bn_eqT (by omega) (Gd_T (ldA h 0 rfl rfl ?_))
    refine Gd_T (cl1 h n_unit_Valid (cc5 h.ext) fun w h => ?_)
    refine Gd_T (Un_T (Gd_T (Gd_F (ldA h 0 rfl rfl ?_))))
    refine Gd_F (cl1 h n_unit_Print (cc6 h.ext) fun w h => ?_)
    refine Gd_F (Gd_F (Bn_neST (Gd_T (Pick_F (Pick_T (Gd_F (Gd_F (Bn_neF (by omega) (Gd_F (Gd_FT (Gd_FT (Gd_FT (Gd_U (Gd_U (Gd_U (Gd_FT (Gd_F (Pick_F (Pick_F (If_F (Bt_lenT ?_)))))))))))))))))))))
    refine Bn_ad (by omega) (by omega) (Bn_rm (by omega) (by omega) ?_)
    exact lfT _ h
   ·have e1 := hA.1
    have e2 := hA.2
    refine Bn_eqF (by omega) (Gd_FT (Gd_FT (Gd_FT (Gd_FT (Gd_U (Gd_U (Gd_U (Gd_U (Gd_FT (Pick_F (Gd_F (Gd_F (Bn_neT (by omega) (Gd_F (Gd_T (Gd_T (Bn_neF (by omega) (Gd_T (Gd_F (ldA h 0 rfl rfl ?_))))))))))))))))))))
    refine Gd_F (bdS PC.nil (by rfl) ?_)
    refine Gd_F (qyNeE ‹_› ?_)
    refine Gd_T (Pick_F (Gd_F (Pick_T (Pick_F (If_F (Bt_lenT ?_))))))
    refine Bn_ad (by omega) (by omega) (Bn_rm (by omega) (by omega) ?_)
    exact lfT _ h
  intro w h
  have i0 := Int.emod_nonneg kk (b := (z.length : Int) + 1) (by omega)
  have i1 := Int.emod_lt_of_pos kk (b := (z.length : Int) + 1) (by omega)
  have i2 := Int.toNat_of_nonneg i0
  have hdv := decV_in (z := z) i0 (by omega)
  have cc7 := fun {W : World} (e : Ext w0 W) => c_uDecode (w0 := W) (s := z) (by omega) (a := kk % ((z.length : Int) + 1)) (he.ext e).hT
  rw [hdv] at cc7
  have hDc : decQ (z.drop (kk % ((z.length : Int) + 1)).toNat) = none ∨ ∃ q m, decQ (z.drop (kk % ((z.length : Int) + 1)).toNat) = some (q, m) := by
   rcases decQ (z.drop (kk % ((z.length : Int) + 1)).toNat) with _ | ⟨q, m⟩
   ·exact .inl rfl
   ·exact .inr ⟨q, m, rfl⟩
  refine Or.elim hDc (fun hD => ?_) (fun hq => Exists.elim hq fun q hq => Exists.elim hq fun m hD => ?_)
  ·rw [hD] at cc7
   have hqz : Qe q0 q0 := Qe.of rfl
   refine cl1 h n_unit_Decode (cc7 h.ext) fun w h => ?_
   refine Ex3 (alS h fun g3 w h => ?_)
   refine stA h 0 rfl rfl rfl rfl fun w h => ?_
   refine Bn_neT (by omega) (If_T (Bn_neF (by omega) (Gd_F (Gd_F (Bn_neF (by omega) (Pick_F (Gd_F (ldA h 0 rfl rfl ?_))))))))
   refine Gd_F (bdS PC.nil (by rfl) ?_)
   refine Gd_F (qyNeE ‹_› ?_)
   refine Pick_F (If_F (Bn_ad (by omega) (by omega) ?_))
   dsimp only [List.set] at h
   refine ⟨⟨j + 1, by omega, rfl, h.pick [2] (by decide) rfl⟩, ?_⟩
   show 3 - ((j : Int) + 1).toNat < 3 - (j : Int).toNat
   omega
  ·rw [hD] at cc7
   have hg := decQ_get hD
   have vq := hg.1
   have hm := hg.2.1
   have hme := encQ_len q
   have hm0 : 0 < m := by rw [hm]; exact hme
   have hml : m ≤ z.length - (kk % ((z.length : Int) + 1)).toNat := by
    refine Exists.elim hg.2.2 fun r hr => ?_
    have := congrArg List.length hr
    rw [List.length_drop, List.length_append] at this
    omega
   have hpc : (z.drop (kk % ((z.length : Int) + 1)).toNat).take ((kk % ((z.length : Int) + 1)).toNat + m - (kk % ((z.length : Int) + 1)).toNat) = encQ q := by
    refine Exists.elim hg.2.2 fun r hr => ?_
    rw [hr, hm, Nat.add_sub_cancel_left]
    exact List.take_left
   have cc8 : ∀ {W : World}, Ext w0 W → Calls Tryz.prog 27 #[vQ q] W (Ret fun r w' => Ext W w' ∧ r = .tuple #[str (encQ q), .int .i64 0]) := fun {W} e => by
    have := c_uEncode (w0 := W) (QTk.of vq) (he.ext e).hT
    unfold enc2 at this
    rw [vq, if_pos rfl] at this
    exact this
   clear hg hD hm hdv
   refine cl1 h n_unit_Decode (cc7 h.ext) fun w h => ?_
   refine Ex3 (alS h fun g3 w h => ?_)
   refine stA h 0 rfl rfl rfl rfl fun w h => ?_
   refine Bn_neF (by omega) (If_F (ldA h 0 rfl rfl ?_))
   refine cl1 h n_unit_Encode (cc8 h.ext) fun w h => ?_
   refine Ex2 (Bn_neF (by omega) (Gd_F (Gd_F (Gd_F (Bn_leF (by omega) (Pick_F (Gd_F (Gd_F (Gd_F (Bt_lenT ?_))))))))))
   refine Gd_F (Bn_gtF (by omega) (Pick_F (If_F ?_)))
   dsimp only [List.set] at h
   refine Sc_tB (a := (kk % ((z.length : Int) + 1)).toNat) (b := (kk % ((z.length : Int) + 1)).toNat + m) (Int.toNat_of_nonneg i0).symm rfl (by omega) (by omega) hpc ?_
   refine Bn_neST (If_F (Bn_ad (by omega) (by omega) ?_))
   refine ⟨⟨j + 1, by omega, rfl, h.pick [2] (by decide) rfl⟩, ?_⟩
   show 3 - ((j : Int) + 1).toNat < 3 - (j : Int).toNat
   omega
 clear hK
 by_cases hneg : a < 0
 ·have e : kk = -(a + 1) := by rw [hkk]; unfold posK; rw [if_pos hneg]
  rw [e] at lf1
  refine Bn_ltT (by omega) (If_T (Bn_ad (by omega) (by omega) (Eng.Un_ng (by omega) (by omega) ?_)))
  exact lf1 _ (h.pick [] (by decide) rfl)
 ·have e : kk = a := by rw [hkk]; unfold posK; rw [if_neg hneg]
  rw [e] at lf1
  refine Bn_ltF (by omega) (If_F ?_)
  exact lf1 _ (h.pick [] (by decide) rfl)
end Go.Proofs.YtdbcpkihokagkaaGreatDoor
