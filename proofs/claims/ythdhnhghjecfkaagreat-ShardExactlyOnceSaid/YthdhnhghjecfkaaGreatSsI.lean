/-
  Contracts and plain lemmas. By an AI agent.
-/
import Derived.Test.YthdhnhghjecfkaaGreatLSsI
import Derived.Test.YthdhnhghjecfkaaGreatSsA
import Derived.Test.YthdhnhghjecfkaaGreatPlain
set_option linter.unusedSimpArgs false
set_option linter.unusedVariables false
set_option linter.unusedSectionVars false
namespace Go.Proofs.YthdhnhghjecfkaaGreat
open Go Go.Eng Go.Proofs Go.RowKit
open Go.Srd (Ft VF Hd Mv mv0 Rd Ab Cmd got ltF sam srt plh ofS gotL delN cntL insR rdd fP st0 script0 Wt wt' fnd facts)
set_option maxRecDepth 100000
abbrev tWo : TypeId := 38
theorem SlC.nil0 {w : World} {c : Nat} : SlC w c (.slice none 0 0) 0 [] := ⟨by simp, .inl ⟨rfl, rfl⟩⟩
structure WoQ (w : World) (x : Sx) (us : List Value) (a : Ab) (W : Int → List Ft) : Prop where
 sh : ShR w x a
 len : us.length = 5
 ws : ∀ (i : Nat) (v : Value), us[i]? = some v → SlC w 10 v (W i).length ((W i).flatMap fF)
theorem WoQ.ext {w w' : World} {x : Sx} {us : List Value} {a : Ab} {W : Int → List Ft} (h : WoQ w x us a W) (e : Ext w w') : WoQ w' x us a W := ⟨h.sh.ext e, h.len, fun i v hv => (h.ws i v hv).ext e⟩
theorem WoQ.all14 {w : World} {x : Sx} {u0 u1 u2 u3 u4 : Value} {a : Ab} {W : Int → List Ft} (h : WoQ w x [u0, u1, u2, u3, u4] a W) : ((cS x a ++ [u0, u1, u2, u3, u4]).all fun x => x.oneCell') = true := by
 have hone := h.sh.one
 have e0 := (slc_c1 (h.ws 0 u0 rfl)).2
 have e1 := (slc_c1 (h.ws 1 u1 rfl)).2
 have e2 := (slc_c1 (h.ws 2 u2 rfl)).2
 have e3 := (slc_c1 (h.ws 3 u3 rfl)).2
 have e4 := (slc_c1 (h.ws 4 u4 rfl)).2
 simp only [List.cons_append, List.nil_append, List.all_cons, List.all_nil, hone.1, hone.2.1, hone.2.2.1, e0, e1, e2, e3, e4]
 rfl
abbrev wE (x : Sx) (us : List Value) (a : Ab) (W : Int → List Ft) : Et := ⟨kS x ++ us.flatMap kB, fun w => WoQ w x us a W⟩
theorem wE_sm {x : Sx} {us : List Value} {a : Ab} {W : Int → List Ft} : (wE x us a W).Simple := fun B S w h w' _ hb =>
 ⟨h.1.mv fun k hk hl => hb k hl (.inl (List.mem_append_left _ hk)), h.2, fun i v hv => (h.3 i v hv).mv fun k hk hl => hb k hl (.inl (List.mem_append_right _ (List.mem_flatMap.2 ⟨v, List.mem_of_getElem? hv, by unfold kB; rw [hk]; simp⟩)))⟩
theorem list5 {l : List Value} (h : l.length = 5) : ∃ a b c d e, l = [a, b, c, d, e] := by
 match l, h with
 | [a, b, c, d, e], _ => exact ⟨a, b, c, d, e, rfl⟩
def RdOk (c : Cmd) : Prop := kC c = 7 ∨ kC c = 8 → 0 ≤ rC c ∧ rC c ≤ 4
section
variable {a a' : Ab} {c : Cmd} {l : List Ft} {W : Int → List Ft} (hs : Srd.step a c = some (a', l))
include hs
theorem facts_same (hk : kC c ≠ 1) : facts a' = facts a := by
 have h1 := (Srd.step_A hs).1
 have h2 : c.isPut = none := by cases c <;> first | rfl | (exact absurd rfl hk)
 rw [h2] at h1
 unfold Srd.facts
 rw [h1]
 simp
theorem facts_put (hk : kC c = 1) : (facts a').length = (facts a).length + 1 := by
 have h1 := (Srd.step_A hs).1
 have h2 : ∃ f, c.isPut = some f := by cases c <;> first | exact ⟨_, rfl⟩ | (simp [kC] at hk)
 obtain ⟨f, h2⟩ := h2
 rw [h2] at h1
 unfold Srd.facts
 rw [srt_len, srt_len, h1]
 simp
theorem fnd_no (hf : fnd c a a' W l) (hk : ¬ (kC c = 8 ∧ a'.rd.length < a.rd.length)) : l = [] := by
 cases c with
 | rea r =>
  have hf : if a'.rd.length < a.rd.length then l = W r else l = [] := hf
  rw [if_neg fun h => hk ⟨rfl, h⟩] at hf
  exact hf
 | _ => exact hf
theorem fnd_yes (hf : fnd c a a' W l) (hk : kC c = 8 ∧ a'.rd.length < a.rd.length) : l = W (rC c) := by
 cases c with
 | rea r =>
  have hf : if a'.rd.length < a.rd.length then l = W r else l = [] := hf
  rw [if_pos hk.2] at hf
  exact hf
 | _ => exact absurd hk.1 (by simp [kC])
omit hs in
theorem wt_no (hk : kC c ≠ 7) : wt' a c W = W := by
 cases c with
 | opn r => exact absurd rfl hk
 | _ => rfl
omit hs in
theorem wt_yes (hk : kC c = 7) (i : Int) : wt' a c W i = if i = rC c then facts a else W i := by
 cases c with
 | opn r => rfl
 | _ => exact absurd hk (by simp [kC])
end
structure WoC (x : Sx) (a : Ab) (W : Int → List Ft) (us vs : List Value) (u : Value) (W' : Int → List Ft) : Prop where
 len : vs.length = 5
 ws : ∀ w, SlC w 10 u (facts a).length ((facts a).flatMap fF) → WoQ w x us a W → ∀ (i : Nat) (v : Value), vs[i]? = some v → SlC w 10 v (W' i).length ((W' i).flatMap fF)
 ks : ∀ v ∈ vs, v ∈ us ∨ v = u
section
variable {S : List Nat} {w0 : World} {x : Sx} {a a' : Ab} {u0 u1 u2 u3 u4 : Value} {W : Int → List Ft} {c : Cmd} {l : List Ft}
abbrev cW (x : Sx) (a : Ab) (u0 u1 u2 u3 u4 : Value) : List Value := [x.sv, x.rv, .int .i64 a.A.length, .int .i64 a.mv.ph, .int .i64 a.mv.sl, .int .i64 a.mv.fr, .int .i64 a.mv.to, .int .i64 a.mv.cp, x.dv, u0, u1, u2, u3, u4]
theorem c_doesF (hq0 : WoQ w0 x [u0, u1, u2, u3, u4] a W) (hO : Srd.Ok a) (hc : CmdOk c) (hs : Srd.step a c = none) :
 Calls Tryz.prog 10 #[.agg (cW x a u0 u1 u2 u3 u4).toArray, vX (kC c) (fC c) (sC c) (tC c) (mC c) (rC c)] w0 (Ret fun q w' => q = .tuple #[.agg (cW x a u0 u1 u2 u3 u4).toArray, .bool true] ∧ Ext w0 w') := by
 have h := Hp.init [] w0
 apply e_law37_world_does
 unfold s_law37_world_does
 refine bxA h fun g1 w h => ?_
 refine bxA h fun g2 w h => ?_
 refine alS h fun g3 w h => ?_
 refine faS (ldA h 2 rfl rfl ?_)
 have hq := hq0.ext h.ext
 refine Cl_i n_shard_Facts (c_Facts hq.sh hO) ?_
 rintro _ w1 ⟨u, rfl, h'⟩
 replace h := h.cat1 h' ro_sm
 refine Ex2 (faS (ldA h 3 rfl rfl ?_))
 refine ldA h 2 rfl rfl ?_
 have hq := hq0.ext h.ext
 refine Cl_i n_shard_Do (c_DoX hq.sh hO hc) ?_
 rintro q w1 hd
 rw [hs] at hd
 obtain ⟨e, rfl⟩ := hd
 replace h := h.x e
 refine Ex3 (alS h fun g4 w h => ?_)
 refine stA h 0 rfl rfl rfl rfl fun w h => ?_
 refine Bn_neT (by omega) (If_T (ldA h 4 rfl rfl ?_))
 refine Bn_eqT (by omega) (Gd_T (faS (Gd_T (ld1 h 0 rfl rfl (Gd_T ?_)))))
 dsimp only [List.set] at h
 refine leS (c := 1) SlC.nil0 ?_
 refine Gd_T (Bn_eqT (by omega) (Pick_T (Gd_T (Gd_T (leS (c := 10) SlC.nil0 ?_)))))
 refine Gd_T (Bn_eqT (by omega) (Pick_T ?_))
 have hal := hq0.all14
 refine stA h 2 rfl rfl hal rfl fun w h => ?_
 dsimp only [List.set] at h
 refine rcA h 2 rfl rfl ?_
 exact Ret.mk ⟨rfl, h.ext⟩
theorem Jn0.lfW {A : (World → Prop) → Prop} {B : World → Prop} (Q : Value → Value → Value → Value → Value → World → Prop) (hA : ∀ K : World → Prop, (∀ v0 v1 v2 v3 v4 w, Q v0 v1 v2 v3 v4 w → K w) → A K) (hB : ∀ v0 v1 v2 v3 v4 w, Q v0 v1 v2 v3 v4 w → B w) : Jn0 A B :=
 Jn0.mk fun K hK => hA K fun v0 v1 v2 v3 v4 w q => hK w (hB v0 v1 v2 v3 v4 w q)
theorem wr_w {v0 v1 v2 v3 v4 u : Value} {i : Nat} (hi : i < 5) (hv : [u0, u1, u2, u3, u4].set i u = [v0, v1, v2, v3, v4]) : wr (0 + 9 + i * 1) [u] (cW x a u0 u1 u2 u3 u4) = some (cW x a v0 v1 v2 v3 v4) := by
 match i, hi with
 | 0, _ => cases hv; rfl
 | 1, _ => cases hv; rfl
 | 2, _ => cases hv; rfl
 | 3, _ => cases hv; rfl
 | 4, _ => cases hv; rfl
theorem ld_w {v : Value} {i : Nat} (hi : i < 5) (hv : [u0, u1, u2, u3, u4][i]? = some v) : (cW x a u0 u1 u2 u3 u4)[0 + 9 + i * 1]? = some v := by
 match i, hi with
 | 0, _ => exact hv
 | 1, _ => exact hv
 | 2, _ => exact hv
 | 3, _ => exact hv
 | 4, _ => exact hv
set_option maxHeartbeats 8000000 in
theorem c_doesT (hq0 : WoQ w0 x [u0, u1, u2, u3, u4] a W) (hO : Srd.Ok a) (hc : CmdOk c) (hrc : RdOk c) (hw : Wt a W) (hWl : ∀ i : Nat, i < 5 → (W i).length ≤ 400) (hs : Srd.step a c = some (a', l)) :
 Calls Tryz.prog 10 #[.agg (cW x a u0 u1 u2 u3 u4).toArray, vX (kC c) (fC c) (sC c) (tC c) (mC c) (rC c)] w0 (Ret fun q w' => ∃ x' v0 v1 v2 v3 v4 fv u, q = .tuple #[.agg (cW x' a' v0 v1 v2 v3 v4).toArray, .bool true] ∧ WoC x a W [u0, u1, u2, u3, u4] [v0, v1, v2, v3, v4] u (wt' a c W) ∧ Hp [] w0 w' [shE x' a' fv l, ro tFt 10 u (facts a).length ((facts a).flatMap fF)]) := by
 have hO' := Srd.step_ok hO hs
 have hew := Srd.eo_step hO hw hs
 have hfl : (facts a).length ≤ 400 := by unfold Srd.facts; rw [srt_len]; exact hO.nA
 have hfl' : (facts a').length ≤ 400 := by unfold Srd.facts; rw [srt_len]; exact hO'.nA
 obtain ⟨R, hR⟩ : ∃ R : Ending → World → Prop, R = Ret fun q w' => ∃ x' v0 v1 v2 v3 v4 fv u, q = .tuple #[.agg (cW x' a' v0 v1 v2 v3 v4).toArray, .bool true] ∧ WoC x a W [u0, u1, u2, u3, u4] [v0, v1, v2, v3, v4] u (wt' a c W) ∧ Hp [] w0 w' [shE x' a' fv l, ro tFt 10 u (facts a).length ((facts a).flatMap fF)] := ⟨_, rfl⟩
 rw [← hR]
 have h := Hp.init [] w0
 apply e_law37_world_does
 unfold s_law37_world_does
 refine bxA h fun g1 w h => ?_
 refine bxA h fun g2 w h => ?_
 refine alS h fun g3 w h => ?_
 refine faS (ldA h 2 rfl rfl ?_)
 have hq := hq0.ext h.ext
 refine Cl_i n_shard_Facts (c_Facts hq.sh hO) ?_
 rintro _ w1 ⟨u, rfl, h'⟩
 replace h := h.cat1 h' ro_sm
 refine Ex2 (faS (ldA h 3 rfl rfl ?_))
 refine ldA h 2 rfl rfl ?_
 have hq := hq0.ext h.ext
 refine Cl_i n_shard_Do (c_DoX hq.sh hO hc) ?_
 rintro q w1 hd
 rw [hs] at hd
 obtain ⟨x', fv, rfl, h'⟩ := hd
 replace h := h.cat1 h' shE_sm
 have hal := (h.get (i := 0) rfl : _ ∧ _).1.all9
 refine Ex3 (alS h fun g4 w h => ?_)
 refine stA h 0 rfl rfl hal rfl fun w h => ?_
 dsimp only [List.set] at h
 refine Bn_neF (by omega) (If_F (ldA h 0 rfl rfl ?_))
 have hq := (h.get (i := 1) rfl : _ ∧ _).1
 refine Cl_i n_shard_Facts (c_Facts hq hO') ?_
 rintro _ w1 ⟨u', rfl, h'⟩
 replace h := h.cat1 h' ro_sm
 refine Ex2 (Bn_neF (by omega) (Gd_F (Gd_F (Bn_neF (by omega) (Pick_F (Gd_F (ldA h 1 rfl rfl ?_)))))))
 refine Gd_F ?_
 have hq := (h.get (i := 2) rfl : _ ∧ _).1
 refine cl1 h n_shard_Valid (c_Valid hq hO') fun w h => ?_
 refine Gd_F (Un_T (Pick_F (If_F (faS (ld1 h 5 rfl rfl ?_)))))
 revert h; revert w; apply meet
 ·intro w lfT h
  by_cases hk1 : kC c = 1
  ·have hfp := facts_put hs hk1
   refine Bn_neF (by omega) (Gd_FT (Gd_FT (Gd_FT (Gd_FT (Pick_F (Gd_F (faS (Gd_F (ld1 h 5 rfl rfl (Gd_F (Bn_eqT (by omega) (Gd_F (Gd_T (Gd_T (leS (qZ 0 h rfl) ?_)))))))))))))))
   refine Gd_T (Gd_T (leS (qZ 3 h rfl) ?_))
   refine Gd_T (Bn_ad (by omega) (by omega) (Gd_T (Bn_neF (by omega) (Gd_F (Pick_T (Pick_F (If_F ?_)))))))
   exact lfT _ h
  ·have hfs := facts_same hs hk1
   have hu' := h.sl (i := 0) rfl
   rw [hfs] at hu'
   refine Bn_neT (by omega) (Gd_T (Gd_T (Gd_T (cl1 h n_ref37_SameFacts (c_SameFacts (l := facts a) (qZ 3 h rfl) hu' (by omega)) fun w h => ?_))))
   refine Gd_T (Un_T (Pick_T (Gd_F (faS (Gd_F (ld1 h 5 rfl rfl (Gd_F (Bn_eqF (by omega) (Gd_F (Gd_FT (Gd_FT (Gd_FT (Gd_FT (Gd_FT (Gd_FT (Gd_F (Pick_F (Pick_F (If_F ?_)))))))))))))))))))
   exact lfT _ h
 intro w h
 refine Jn0.lfW (fun v0 v1 v2 v3 v4 w => WoC x a W [u0, u1, u2, u3, u4] [v0, v1, v2, v3, v4] u (wt' a c W) ∧ Hp [] w0 w [bx g1 tWo (cW x a v0 v1 v2 v3 v4), shE x' a' fv l, ro tFt 10 u (facts a).length ((facts a).flatMap fF), bx g4 tSh (cS x' a'), bx g3 tWo [.slice none 0 0, .slice none 0 0, .int .i64 0, .int .i64 0, .int .i64 0, .int .i64 0, .int .i64 0, .int .i64 0, .slice none 0 0, .slice none 0 0, .slice none 0 0, .slice none 0 0, .slice none 0 0, .slice none 0 0], bx g2 tX (fX (kC c) (fC c) (sC c) (tC c) (mC c) (rC c))]) (fun K1 hK1 => ?_) (fun v0 v1 v2 v3 v4 w ⟨hwc, h⟩ => ?_)
 ·by_cases hk7 : kC c = 7
  ·have hr5 := hrc (.inl hk7)
   refine Exists.elim (Int.eq_ofNat_of_zero_le hr5.1) fun i hi => ?_
   have hpk : pk (rC c) 5 = (i : Int) := by unfold pk; rw [if_neg (by omega)]; omega
   have hpc := c_lpick (w0 := w) (c := rC c) (n := 5) (by omega) (by omega)
   rw [hpk] at hpc
   refine faS (ld1 h 5 rfl rfl (Bn_eqT (by omega) (If_T (faS (ld1 h 5 rfl rfl (cl1 h n_law37_pick hpc fun w h => ?_))))))
   refine faS (iaA (by omega) ?_)
   have hu := slc_c1 (qZ 3 h rfl)
   refine Exists.elim (list5 (l := [u0, u1, u2, u3, u4].set i u) (by rw [List.length_set]; rfl)) fun v0 hv => Exists.elim hv fun v1 hv => Exists.elim hv fun v2 hv => Exists.elim hv fun v3 hv => Exists.elim hv fun v4 hv => ?_
   refine st1 h 6 rfl hu.1 hu.2 (wr_w (by omega) hv) fun w h => ?_
   dsimp only [List.set] at h
   refine hK1 v0 v1 v2 v3 v4 _ ⟨⟨rfl, fun w' hu' hq j v hj => ?_, fun v hv2 => ?_⟩, h.pick [6, 2, 3, 1, 4, 5] (by decide) rfl⟩
   ·rw [← hv] at hj
    rw [wt_yes hk7]
    by_cases hij : i = j
    ·subst hij
     rw [List.getElem?_set_self (by show i < 5; omega)] at hj
     cases hj
     rw [if_pos (by omega)]
     exact hu'
    ·rw [List.getElem?_set_ne hij] at hj
     rw [if_neg (by omega)]
     exact hq.ws j v hj
   ·rw [← hv] at hv2
    exact List.mem_or_eq_of_mem_set hv2
  ·refine faS (ld1 h 5 rfl rfl (Bn_eqF (by omega) (If_F ?_)))
   refine hK1 u0 u1 u2 u3 u4 _ ⟨⟨rfl, fun w' hu' hq j v hj => ?_, fun v hv2 => .inl hv2⟩, h.pick [6, 2, 3, 1, 4, 5] (by decide) rfl⟩
   rw [wt_no hk7]
   exact hq.ws j v hj
 have hwq : ∀ {w : World}, Ext w0 w → SlC w 10 u (facts a).length ((facts a).flatMap fF) → WoQ w x [v0, v1, v2, v3, v4] a (wt' a c W) := fun {w} e hu => ⟨(hq0.ext e).sh, rfl, hwc.ws w hu (hq0.ext e)⟩
 have hal := (hwq h.ext (qZ 2 h rfl)).all14
 have hal2 := (show WoQ w x' [v0, v1, v2, v3, v4] a' (wt' a c W) from ⟨(h.get (i := 1) rfl : _ ∧ _).1, rfl, (hwq h.ext (qZ 2 h rfl)).ws⟩).all14
 have hal' := (h.get (i := 1) rfl : _ ∧ _).1.all9
 refine Jn0.lf h (fun K2 hK2 => ?_) (fun w h => ?_)
 ·have hq := hwq h.ext (qZ 2 h rfl)
  have hsl := (h.get (i := 1) rfl : _ ∧ _)
  have hrd := hq.sh.rd
  have hrd' := hsl.1.rd
  have e1 : x.rs.length = a.rd.length := by rw [← hq.sh.rs, List.length_map]
  have e2 : x'.rs.length = a'.rd.length := by rw [← hsl.1.rs, List.length_map]
  by_cases hk8 : kC c = 8
  ·refine faS (ld1 h 5 rfl rfl (Bn_eqT (by omega) (Gd_T (faS (Gd_T (ld1 h 3 rfl rfl (Gd_T (leS hrd' ?_))))))))
   refine Gd_T (faS (Gd_T (faS (Gd_T (ld1 h 0 rfl rfl (Gd_T (leS hrd ?_)))))))
   refine Gd_T ?_
   by_cases hlt : a'.rd.length < a.rd.length
   ·have hr5 := hrc (.inr hk8)
    have hly := fnd_yes hs hew.2 ⟨hk8, hlt⟩
    refine Exists.elim (Int.eq_ofNat_of_zero_le hr5.1) fun i hi => ?_
    have hpk : pk (rC c) 5 = (i : Int) := by unfold pk; rw [if_neg (by omega)]; omega
    have hpc := c_lpick (w0 := w) (c := rC c) (n := 5) (by omega) (by omega)
    rw [hpk] at hpc
    have hv : ∃ v, [v0, v1, v2, v3, v4][i]? = some v := ⟨_, List.getElem?_eq_getElem (by show i < 5; omega)⟩
    refine Exists.elim hv fun v hv => ?_
    have hww := hq.ws i v hv
    rw [wt_no (show kC c ≠ 7 by omega)] at hww
    have hfv := hsl.2
    rw [hly, hi] at hfv
    have hwl := hWl i (by omega)
    refine Bn_ltT (by omega) (Pick_T (If_T (faS (ld1 h 5 rfl rfl (Cl_i n_law37_pick hpc ?_)))))
    rintro _ w2 ⟨e, rfl⟩
    replace h := h.x e
    refine faS (iaA (n := 5) (c := 1) (j := i) (by omega) ?_)
    refine ld1 h 0 rfl (ld_w (by omega) hv) ?_
    refine cl1 h n_ref37_SameFacts (c_SameFacts (hfv.ext e) (hww.ext e) (by omega)) fun w h => ?_
    refine Un_T (If_F ?_)
    exact hK2 _ h
   ·have hl0 := fnd_no hs hew.2 (fun hh => hlt hh.2)
    have hfv := hsl.2
    rw [hl0] at hfv
    refine Bn_ltF (by omega) (Pick_T (If_F (leS hfv ?_)))
    refine Bn_gtF (by show (((([] : List Ft).length : Nat) : Int)) ≤ 0; decide) ?_
    refine If_F ?_
    exact hK2 _ h
  ·have hl0 := fnd_no hs hew.2 (fun hh => hk8 hh.1)
   have hfv := hsl.2
   rw [hl0] at hfv
   refine faS (ld1 h 5 rfl rfl (Bn_eqF (by omega) (Gd_FT (Gd_FT (Gd_FT (Gd_FT (Gd_FT (Gd_FT (Gd_FT (Gd_FT (Pick_F (If_F (leS hfv ?_)))))))))))))
   refine Bn_gtF (by show (((([] : List Ft).length : Nat) : Int)) ≤ 0; decide) ?_
   refine If_F ?_
   exact hK2 _ h
 refine ldA h 3 rfl rfl ?_
 refine faS (stA h 0 rfl rfl hal' rfl fun w h => ?_)
 dsimp only [List.set] at h
 refine ldA h 0 rfl rfl ?_
 refine stA h 4 rfl rfl hal2 rfl fun w h => ?_
 dsimp only [List.set] at h
 refine rcA h 4 rfl rfl ?_
 rw [hR]
 exact Ret.mk ⟨x', v0, v1, v2, v3, v4, fv, u, rfl, hwc, h.pick [1, 2] (by decide) rfl⟩
end
abbrev I4 := Int × Int × Int × Int
abbrev fQ (q : I4) : List Value := [.int .i64 q.1, .int .i64 q.2.1, .int .i64 q.2.2.1, .int .i64 q.2.2.2]
abbrev I64s (l : List I4) : Prop := ∀ q ∈ l, I64 q.1 ∧ I64 q.2.1 ∧ I64 q.2.2.1 ∧ I64 q.2.2.2
structure Ws where
 x : Sx
 u0 : Value
 u1 : Value
 u2 : Value
 u3 : Value
 u4 : Value
abbrev cWs (s : Ws) (a : Ab) : List Value := cW s.x a s.u0 s.u1 s.u2 s.u3 s.u4
abbrev wEs (s : Ws) (a : Ab) (W : Int → List Ft) : Et := wE s.x [s.u0, s.u1, s.u2, s.u3, s.u4] a W
def nxA (a : Ab) (c : Cmd) : Ab := match Srd.step a c with | some p => p.1 | none => a
def nxW (a : Ab) (c : Cmd) (W : Int → List Ft) : Int → List Ft := match Srd.step a c with | some _ => wt' a c W | none => W
structure WoK (a : Ab) (W : Int → List Ft) : Prop where
 ok : Srd.Ok a
 ids : Srd.Ids a
 wt : Wt a W
 wl : ∀ i : Nat, i < 5 → (W i).length ≤ 400
theorem WoK.step {a : Ab} {W : Int → List Ft} {c : Cmd} (h : WoK a W) (hc : RdOk c) : WoK (nxA a c) (nxW a c W) := by
 unfold nxA nxW
 cases hs : Srd.step a c with
 | none => exact h
 | some p =>
  have hs : Srd.step a c = some (p.1, p.2) := hs
  refine ⟨Srd.step_ok h.ok hs, Srd.ids_step h.ids (fun r hr => ?_) hs, (Srd.eo_step h.ok h.wt hs).1, fun i hi => ?_⟩
  ·cases c with
   | opn q => cases hr; exact hc (.inl rfl)
   | _ => cases hr
  ·show (wt' a c W i).length ≤ 400
   cases c with
   | opn q =>
    show (if (i : Int) = q then facts a else W i).length ≤ 400
    split
    ·unfold Srd.facts; rw [srt_len]; exact h.ok.nA
    ·exact h.wl i hi
   | _ => exact h.wl i hi
abbrev wP (s : Ws) (a : Ab) (W : Int → List Ft) (s' : Ws) (a' : Ab) (W' : Int → List Ft) : Et := ⟨(wEs s a W).ks ++ (wEs s' a' W').ks, fun w => (wEs s a W).Q w ∧ (wEs s' a' W').Q w⟩
theorem wP_sm {s s' : Ws} {a a' : Ab} {W W' : Int → List Ft} : (wP s a W s' a' W').Simple := fun B S w h w' hs hb =>
 ⟨wE_sm B S w h.1 w' hs fun k hk hc => hb k hk (by rcases hc with hc | hc; exact .inl (List.mem_append_left _ hc); exact .inr hc), wE_sm B S w h.2 w' hs fun k hk hc => hb k hk (by rcases hc with hc | hc; exact .inl (List.mem_append_right _ hc); exact .inr hc)⟩
theorem hp_wP {S : List Nat} {w0 w : World} {L : List Et} {s s' : Ws} {a a' : Ab} {W W' : Int → List Ft} (h : Hp S w0 w (wP s a W s' a' W' :: L)) : Hp S w0 w (wEs s' a' W' :: L) :=
 Hp.all (Lc := [_]) (Lr := L) h wE_sm (fun w hq => (hq _ List.mem_cons_self : _ ∧ _).2) fun k hk => ⟨_, List.mem_cons_self, List.mem_append_right _ hk⟩
theorem cl_does2 {S : List Nat} {w0 w : World} {L : List Et} {s : Ws} {a : Ab} {W : Int → List Ft} {c : Cmd} {pan : List PanicEntry → World → Prop} {K : Value → World → Prop} (h : Hp S w0 w (wEs s a W :: L)) (hk : WoK a W) (hc : CmdOk c) (hrc : RdOk c)
 (hk2 : ∀ (s' : Ws) w1, Hp S w0 w1 (wP s a W s' (nxA a c) (nxW a c W) :: L) → K (.tuple #[.agg (cWs s' (nxA a c)).toArray, .bool true]) w1) : Cl Tryz.prog 10 #[.agg (cWs s a).toArray, vCmd c] w pan K := by
 have hq := (h.get (i := 0) rfl : WoQ _ _ _ _ _)
 rw [vCmd_x]
 cases hs : Srd.step a c with
 | none =>
  have e1 : nxA a c = a := by unfold nxA; rw [hs]
  have e2 : nxW a c W = W := by unfold nxW; rw [hs]
  rw [e1, e2] at hk2
  refine Cl_i n_law37_world_does (c_doesF hq hk.ok hc hs) ?_
  rintro _ w1 ⟨rfl, e⟩
  refine hk2 s w1 (Hp.all (Lc := [_]) (Lr := L) (h.x e) wP_sm (fun w hq => ⟨hq _ List.mem_cons_self, hq _ List.mem_cons_self⟩) fun k hk => ⟨_, List.mem_cons_self, ?_⟩)
  rcases List.mem_append.1 hk with hk | hk <;> exact hk
 | some p =>
  have e1 : nxA a c = p.1 := by unfold nxA; rw [hs]
  have e2 : nxW a c W = wt' a c W := by unfold nxW; rw [hs]
  rw [e1, e2] at hk2
  refine Cl_i n_law37_world_does (c_doesT hq hk.ok hc hrc hk.wt hk.wl (l := p.2) hs) ?_
  rintro _ w1 ⟨x', v0, v1, v2, v3, v4, fv, u, rfl, hwc, h'⟩
  refine hk2 ⟨x', v0, v1, v2, v3, v4⟩ w1 (Hp.all (Lc := [_, _, _]) (Lr := L) (h.cat2 h' shE_sm ro_sm) wP_sm (fun w hq => ?_) fun k hk => ?_)
  ·have q1 := (hq _ List.mem_cons_self : _ ∧ _)
   have q2 := (hq _ (List.mem_cons_of_mem _ List.mem_cons_self) : World.ownsRow _ _ _ _ _ _ _)
   have q3 := (hq _ (List.mem_cons_of_mem _ (List.mem_cons_of_mem _ List.mem_cons_self)) : WoQ _ _ _ _ _)
   exact ⟨q3, q1.1, rfl, hwc.ws w (ownsRow_sl q2) q3⟩
  ·rcases List.mem_append.1 hk with hk | hk
   ·exact ⟨_, List.mem_cons_of_mem _ (List.mem_cons_of_mem _ List.mem_cons_self), hk⟩
   rcases List.mem_append.1 hk with hk | hk
   ·exact ⟨_, List.mem_cons_self, List.mem_append_left _ hk⟩
   ·obtain ⟨v, hv, hk⟩ := List.mem_flatMap.1 hk
    rcases hwc.ks v hv with hv | hv
    ·exact ⟨_, List.mem_cons_of_mem _ (List.mem_cons_of_mem _ List.mem_cons_self), List.mem_append_right _ (List.mem_flatMap.2 ⟨v, hv, hk⟩)⟩
    ·rw [hv] at hk
     exact ⟨_, List.mem_cons_of_mem _ List.mem_cons_self, hk⟩
theorem cl_does {S : List Nat} {w0 w : World} {L : List Et} {s : Ws} {a : Ab} {W : Int → List Ft} {c : Cmd} {pan : List PanicEntry → World → Prop} {K : Value → World → Prop} (h : Hp S w0 w (wEs s a W :: L)) (hk : WoK a W) (hc : CmdOk c) (hrc : RdOk c)
 (hk2 : ∀ (s' : Ws) w1, Hp S w0 w1 (wEs s' (nxA a c) (nxW a c W) :: L) → K (.tuple #[.agg (cWs s' (nxA a c)).toArray, .bool true]) w1) : Cl Tryz.prog 10 #[.agg (cWs s a).toArray, vCmd c] w pan K :=
 cl_does2 h hk hc hrc fun s' w1 h => hk2 s' w1 (hp_wP h)
theorem slc_at {w : World} {c b o n cap : Nat} {xs : List Value} (h : SlC w c (.slice (some ⟨b, o, none⟩) n cap) n xs) : CellsAt w b o xs := by
 obtain ⟨_, ⟨h, _⟩ | ⟨b', o', cap', h1, _, h3⟩⟩ := h
 ·cases h
 ·cases h1; exact h3
theorem cmdOf_rd {a : Ab} (hi : Srd.Ids a) {x0 x1 x2 x3 : Int} : RdOk (cmdOf a x0 x1 x2 x3) := by
 have p5 := pk_bd (c := x1) (n := 5) (by omega)
 unfold cmdOf
 split
 ·intro h; rcases h with h | h <;> simp [kC] at h
 split
 ·split
  ·intro h; rcases h with h | h <;> simp [kC] at h
  split
  ·intro h; rcases h with h | h <;> simp [kC] at h
  ·intro h; rcases h with h | h <;> simp [kC] at h
 split
 ·split
  ·intro h; rcases h with h | h <;> simp [kC] at h
  ·intro h; rcases h with h | h <;> simp [kC] at h
 split
 ·intro h; rcases h with h | h <;> simp [kC] at h
 split
 ·split
  ·intro h; rcases h with h | h <;> simp [kC] at h
  ·intro h; rcases h with h | h <;> simp [kC] at h
 split
 ·intro _; show 0 ≤ pk x1 5 ∧ pk x1 5 ≤ 4; omega
 split
 ·next r hr => intro _; exact hi r (List.mem_of_getElem? hr)
 ·intro _; show 0 ≤ pk x1 5 ∧ pk x1 5 ≤ 4; omega
theorem Jn2.lfD {A : (Value → Value → World → Prop) → Prop} {B : Value → Value → World → Prop} {ι : Type} (c0 : Value) (Q : Nat → ι → World → Prop) (hA : ∀ K : Value → Value → World → Prop, (∀ g i w, Q g i w → K (pr g 0) c0 w) → A K) (hB : ∀ g i w, Q g i w → B (pr g 0) c0 w) : Jn2 A B :=
 Jn2.mk fun K hK => hA K fun g i w q => hK _ _ w (hB g i w q)
theorem least {p : Nat → Prop} : ∀ n, p n → ∃ m, p m ∧ m ≤ n ∧ ∀ k, p k → m ≤ k := by
 intro n
 induction n using Nat.strongRecOn with
 | _ n ih =>
  intro h
  by_cases hk : ∃ k, k < n ∧ p k
  ·obtain ⟨k, h1, h2⟩ := hk
   obtain ⟨m, a, b, c⟩ := ih k h1 h2
   exact ⟨m, a, by omega, c⟩
  ·exact ⟨n, h, Nat.le_refl _, fun k h1 => Nat.le_of_not_lt fun h2 => hk ⟨k, h2, h1⟩⟩
theorem Lp0.mkN {w : World} {B : World → (World → Prop) → Prop} (I : Nat → World → Prop) {n0 : Nat} (h0 : I n0 w)
 (h : ∀ (n : Nat) (w : World), I n w → ∀ K : World → Prop, (∀ m w', I m w' → m < n → K w') → B w K) : Lp0 w B := by
 have hm : ∀ w, ∃ m, ∀ n, I n w → I m w ∧ m ≤ n := fun w => by
  by_cases he : ∃ n, I n w
  ·obtain ⟨n, hn⟩ := he
   obtain ⟨m, h1, _, h3⟩ := least (p := fun n => I n w) n hn
   exact ⟨m, fun k hk => ⟨h1, h3 k hk⟩⟩
  ·exact ⟨0, fun n hn => absurd ⟨n, hn⟩ he⟩
 refine Lp0.mk (fun w => ∃ n, I n w) (fun w => Classical.choose (hm w)) ⟨_, h0⟩ fun w ⟨n, hn⟩ => ?_
 have h1 := Classical.choose_spec (hm w) n hn
 exact h _ w h1.1 _ fun m w' h2 h3 => ⟨⟨m, h2⟩, by have := (Classical.choose_spec (hm w') m h2).2; omega⟩
theorem rea_ok {a : Ab} {r : Rd} {l : List Rd} (h : Srd.Ok a) (hr : a.rd = r :: l) : ∃ f, Srd.step a (.rea r.id) = some (nxA a (.rea r.id), f) ∧ Srd.left (nxA a (.rea r.id)) < Srd.left a ∧ ((nxA a (.rea r.id)).rd.length = a.rd.length → ((nxA a (.rea r.id)).rd.head?.map Rd.nx) = some (r.nx + 1)) := by
 obtain ⟨a', f, h1, h2⟩ := Srd.rea_first h hr
 have e : nxA a (.rea r.id) = a' := by unfold nxA; rw [h1]
 rw [e]
 exact ⟨f, h1, h2⟩
section
variable {w0 : World} {n : Int} {v : Value} {xs : List I4} (hn : I64 n) (hx : SlC w0 4 v xs.length (xs.flatMap fQ)) (hq : I64s xs)
include hn hx hq
set_option maxHeartbeats 16000000 in
theorem law_ExactlyOnce : Calls Tryz.prog 3 #[.int .i64 n, v] w0 (Ret fun r w' => Ext w0 w' ∧ r = .bool true) := by
 have p3 := pk_bd (c := n) (n := 3) (by omega)
 have cc1 := fun {W : World} (_ : Ext w0 W) => c_sane (w0 := W)
 have cc2 := fun {W : World} (_ : Ext w0 W) => c_lpick (w0 := W) (c := n) (n := 3) hn (by omega)
 obtain ⟨k, hk⟩ : ∃ k : Nat, (k : Int) = 2 + pk n 3 := ⟨(2 + pk n 3).toNat, by omega⟩
 apply e_law37_ShardExactlyOnce
 unfold s_law37_ShardExactlyOnce
 have h := Hp.init [] w0
 refine cl1 h n_law37_sane (cc1 h.ext) fun w h => ?_
 refine Un_T (If_F (cl1 h n_law37_pick (cc2 h.ext) fun w h => ?_))
 refine Bn_ad (by omega) (by omega) ?_
 have hN := c_New (w0 := w) (k := k) (by omega)
 rw [hk] at hN
 refine Cl_i n_shard_New hN ?_
 rintro _ w1 ⟨x0, rfl, h'⟩
 replace h := h.cat1 h' shE_sm
 have hal := (h.get (i := 0) rfl : _ ∧ _).1.all9
 refine Ex2 (alS h fun g1 w h => ?_)
 refine stA h 0 rfl rfl hal rfl fun w h => ?_
 dsimp only [List.set] at h
 have hsh := (h.get (i := 1) rfl : _ ∧ _).1
 have hal := (show WoQ w x0 [.slice none 0 0, .slice none 0 0, .slice none 0 0, .slice none 0 0, .slice none 0 0] (Srd.new k) (fun _ => []) from ⟨hsh, rfl, fun i v hv => by
  have : v = .slice none 0 0 := by
   have := List.mem_of_getElem? hv
   simpa using this
  rw [this]; exact SlC.nil0⟩).all14
 refine Bn_neF (by omega) (If_F (ldA h 0 rfl rfl ?_))
 refine bdS (PC.cons (by rfl) PC.nil) (by rfl) ?_
 refine alS h fun g2 w h => ?_
 refine stA h 0 rfl rfl hal rfl fun w h => ?_
 dsimp only [List.set] at h
 clear hsh hal
 have h2 := Hp.all (e := wEs ⟨x0, .slice none 0 0, .slice none 0 0, .slice none 0 0, .slice none 0 0, .slice none 0 0⟩ (Srd.new k) (fun _ => [])) (Lc := [shE x0 (Srd.new k) (.slice none 0 0) []]) (Lr := [_, _]) (h.pick [2, 0, 1] (by decide) rfl) wE_sm (fun w hq => by
  have q1 := (hq _ List.mem_cons_self : _ ∧ _)
  refine ⟨q1.1, rfl, fun i v hv => ?_⟩
  have : v = .slice none 0 0 := by
   have := List.mem_of_getElem? hv
   simpa using this
  rw [this]; exact SlC.nil0) (fun k hk => by
  refine ⟨_, List.mem_cons_self, ?_⟩
  rcases List.mem_append.1 hk with hk | hk
  ·exact List.mem_append_left _ hk
  ·simp [kB, Value.ownBlock] at hk)
 have hI : ∃ (j : Nat) (s : Ws) (a : Ab) (Wn : Int → List Ft) (rest : List Et), Value.int IntKind.i64 0 = .int .i64 (j : Int) ∧ j ≤ xs.length ∧ j ≤ 50 ∧ WoK a Wn ∧ Hp [] w0 w (bx g2 tWo (cWs s a) :: wEs s a Wn :: rest) :=
  ⟨0, ⟨x0, .slice none 0 0, .slice none 0 0, .slice none 0 0, .slice none 0 0, .slice none 0 0⟩, Srd.new k, fun _ => [], _, rfl, by omega, by omega, ⟨Srd.ok_new (by omega), Srd.ids_new k, (fun r hr => by cases hr), fun _ _ => Nat.zero_le _⟩, Hp.perm h2 (List.Perm.swap _ _ _)⟩
 clear h h2 h'
 refine Lp1.mk (fun i W => ∃ (j : Nat) (s : Ws) (a : Ab) (Wn : Int → List Ft) (rest : List Et), i = .int .i64 (j : Int) ∧ j ≤ xs.length ∧ j ≤ 50 ∧ WoK a Wn ∧ Hp [] w0 W (bx g2 tWo (cWs s a) :: wEs s a Wn :: rest))
  (fun i _ => match i with | .int _ i' => xs.length + 1 - i'.toNat | _ => 0) hI ?_
 clear hI
 rintro _ W ⟨j, s, a, Wn, rest, rfl, hj, hj50, hWK, h⟩
 have hO := hWK.ok
 have hkk := hO.k
 have hrl := hO.ro.len
 by_cases hjl : j < xs.length ∧ j < 50
 ·have hj1 := hjl.1
  have hj2 := hjl.2
  refine Exists.elim (p := fun q => xs[j]? = some q) ⟨_, List.getElem?_eq_getElem hj1⟩ fun q hqj => ?_
  have sq : Seg (xs.flatMap fQ) (j * 4) (fQ q) := flat_seg (f := fQ) (fun _ => rfl) hqj
  have hqi := hq q (List.mem_of_getElem? hqj)
  have hsh := (h.get (i := 1) rfl : WoQ _ _ _ _ _).sh
  have hro := hsh.ro
  rw [hrl] at hro
  have hst := hsh.st
  refine leS (hx.hp h) ?_
  refine Bn_ltT (by omega) (Gd_T (Gd_T (Bn_ltT (by omega) (Pick_T (If_T (faS (faS (ld1 h 0 rfl rfl (leS hro ?_)))))))))
  refine Bn_neF (by omega) (Gd_F (faS (Gd_F (faS (Gd_F (ld1 h 0 rfl rfl (Gd_F (leS hst ?_))))))))
  refine Gd_F (Bn_ltF (by omega) (Pick_F (If_F ?_)))
  obtain ⟨c, hc⟩ : ∃ c, c = cmdOf a q.1 q.2.1 q.2.2.1 q.2.2.2 := ⟨_, rfl⟩
  have hcok : CmdOk c := by rw [hc]; exact cmdOf_ok
  have hcrd : RdOk c := by rw [hc]; exact cmdOf_rd hWK.ids
  have hcc : ∀ {w : World}, ShR w s.x a → Calls Tryz.prog 11 #[vSh s.x a, .agg #[.int .i64 q.1, .int .i64 q.2.1, .int .i64 q.2.2.1, .int .i64 q.2.2.2]] w (Ret fun r w' => Ext w w' ∧ r = vCmd c) := fun {w} hs => by
   rw [hc]; exact c_Command hs hO hqi.1 hqi.2.1 hqi.2.2.1 hqi.2.2.2
  refine Jn2.lfD (ι := Ws) (.bool true) (fun g s' w => Hp [] w0 w (bx g tWo (cWs s' (nxA a c)) :: wEs s' (nxA a c) (nxW a c Wn) :: bx g2 tWo (cWs s a) :: rest)) (fun K hK => ?_) (fun g s' w h => ?_)
  ·replace h := h.dr
   refine dlA h 0 rfl rfl ?_
   refine dfS (dlA h 0 rfl rfl ?_)
   refine diH h ‹_› (by omega) fun zb zo zk zv zc => ?_
   refine dhA h ‹_› ‹_› (by rfl) ?_
   refine ⟨?_, ?_⟩
   ·refine cl1 h n_ref37_Command (hcc (h.get (i := 1) rfl : WoQ _ _ _ _ _).sh) fun w h => ?_
    refine klA h 0 rfl rfl ?_
    refine ⟨?_, ?_⟩
    ·have h := Hp.perm h (List.Perm.swap _ _ _)
     refine cl_does h hWK hcok hcrd fun s' w h => ?_
     have hal := (h.get (i := 0) rfl : WoQ _ _ _ _ _).all14
     refine ExP2 (alS h fun g3 w h => ?_)
     refine klA h 2 rfl rfl ?_
     refine klA h 2 rfl rfl ?_
     refine khA h ‹_› ‹_› (by rfl) ?_
     refine stA h 0 rfl rfl hal rfl fun w h => ?_
     dsimp only [List.set] at h
     exact hK _ s' _ h
    ·refine alS h fun g3 w h => ?_
     refine klA h 1 rfl rfl ?_
     refine klA h 1 rfl rfl ?_
     refine khA h ‹_› ‹_› (by rfl) ?_
     have h := Hp.perm h (List.perm_middle (l₁ := [_, _]))
     refine cl_does h hWK hcok hcrd fun s' w h => ?_
     have hal := (h.get (i := 0) rfl : WoQ _ _ _ _ _).all14
     refine ExP2 (stA h 1 rfl rfl hal rfl fun w h => ?_)
     dsimp only [List.set] at h
     exact hK _ s' _ (Hp.perm h (List.Perm.swap _ _ _))
   ·refine alS h fun g3 w h => ?_
    refine klA h 1 rfl rfl ?_
    refine klA h 1 rfl rfl ?_
    refine khA h ‹_› ‹_› (by rfl) ?_
    refine cl1 h n_ref37_Command (hcc (h.get (i := 2) rfl : WoQ _ _ _ _ _).sh) fun w h => ?_
    refine klA h 1 rfl rfl ?_
    have h := Hp.perm h (List.perm_middle (l₁ := [_, _]))
    refine cl_does h hWK hcok hcrd fun s' w h => ?_
    have hal := (h.get (i := 0) rfl : WoQ _ _ _ _ _).all14
    refine ExP2 (stA h 1 rfl rfl hal rfl fun w h => ?_)
    dsimp only [List.set] at h
    exact hK _ s' _ (Hp.perm h (List.Perm.swap _ _ _))
  have hal := (h.get (i := 1) rfl : WoQ _ _ _ _ _).all14
  refine Un_T (If_F (ldA h 0 rfl rfl ?_))
  refine stA h 2 rfl rfl hal rfl fun w h => ?_
  dsimp only [List.set] at h
  refine Bn_ad (by omega) (by omega) ?_
  exact ⟨⟨j + 1, s', nxA a c, nxW a c Wn, rest, rfl, by omega, by omega, hWK.step hcrd, Hp.perm (h.drop 1) (List.Perm.swap _ _ _)⟩, by show xs.length + 1 - ((j : Int) + 1).toNat < xs.length + 1 - (j : Int).toNat; omega⟩
 have hend : xs.length ≤ j ∨ j = 50 := by omega
 revert h; revert W; apply meet
 ·intro W lfT h
  by_cases hj1 : j < xs.length
  ·have hj2 : ¬ j < 50 := fun hc => hjl ⟨hj1, hc⟩
   refine leS (hx.hp h) ?_
   refine Bn_ltT (by omega) (Gd_T (Gd_T (Bn_ltF (by omega) (Pick_T (If_F ?_)))))
   exact lfT _ h
  ·refine leS (hx.hp h) ?_
   refine Bn_ltF (by omega) (Gd_FT (Gd_FT (Pick_F (If_F ?_))))
   exact lfT _ h
 intro W h
 refine Lp0.mkN (fun n W => ∃ (s : Ws) (a : Ab) (Wn : Int → List Ft) (rest : List Et), n = Srd.left a ∧ WoK a Wn ∧ Hp [] w0 W (bx g2 tWo (cWs s a) :: wEs s a Wn :: rest)) (n0 := Srd.left a) ⟨s, a, Wn, rest, rfl, hWK, h⟩ ?_
 clear h hWK hO hkk hrl hj hj50 hjl hend
 clear s a Wn rest
 rintro N W ⟨s, a, Wn, rest, rfl, hWK, h⟩ K hK
 have hO := hWK.ok
 have hsh := (h.get (i := 1) rfl : WoQ _ _ _ _ _).sh
 have hrd := hsh.rd
 have hrsl : s.x.rs.length = a.rd.length := by rw [← hsh.rs, List.length_map]
 rw [hrsl] at hrd
 have hnr := hO.nr
 by_cases hr0 : 0 < a.rd.length
 ·have hr1 : ∃ r l, a.rd = r :: l := by
   match a.rd, hr0 with
   | r :: l, _ => exact ⟨r, l, rfl⟩
  refine Exists.elim hr1 fun r hr1 => Exists.elim hr1 fun l hr => ?_
  refine Exists.elim (rea_ok hO hr) fun f hst => ?_
  have hq0 : ∃ u, s.x.rs[0]? = some (r, u) := by
   have h1 : (s.x.rs.map (·.1))[0]? = some r := by rw [hsh.rs, hr]; rfl
   rw [List.getElem?_map] at h1
   obtain ⟨p, hp1, hp2⟩ := Option.map_eq_some_iff.1 h1
   exact ⟨p.2, by rw [hp1, ← hp2]⟩
  refine Exists.elim hq0 fun u hu => ?_
  have sr : Seg (s.x.rs.flatMap fR) (0 * 5) (fR (r, u)) := flat_seg (f := fR) (fun _ => rfl) hu
  have hcrd : RdOk (.rea r.id) := fun _ => hWK.ids r (by rw [hr]; simp)
  refine faS (faS (ld1 h 0 rfl rfl (leS hrd ?_)))
  refine Bn_gtT (by omega) (If_T ?_)
  have hdr : ∀ {w : World}, Ext w w.drew := fun {w} => (Ext.refl w).dr
  have hc0 := rea_ok hO hr
  have hL0 := hst.2.1
  refine Jn2.lfD (ι := Ws) (.bool true) (fun g s' w => Hp [] w0 w (bx g tWo (cWs s' (nxA a (.rea r.id))) :: wP s a Wn s' (nxA a (.rea r.id)) (nxW a (.rea r.id) Wn) :: bx g2 tWo (cWs s a) :: rest)) (fun K hK => ?_) (fun g s' w h => ?_)
  ·replace h := h.dr
   refine dlA h 0 rfl rfl ?_
   refine dfS (dfS (dl1 h 0 rfl rfl (diH (j := 0) (Hp.init [] _) (hrd.ext hdr) (by omega) fun b o cap hv hcl => ?_)))
   refine dfS (dh1 (Hp.init [] _) hcl sr (by rfl) ?_)
   refine dbS (PC.cons (by rfl) (PC.cons (by rfl) PC.nil)) (by rfl) ?_
   refine ⟨?_, ?_⟩
   ·have h := Hp.perm h (List.Perm.swap _ _ _)
    refine cl_does2 (c := .rea r.id) h hWK trivial hcrd fun s' w h => ?_
    have hal := (h.get (i := 0) rfl : _ ∧ _).2.all14
    refine ExP2 (alS h fun g3 w h => ?_)
    refine klA h 2 rfl rfl ?_
    refine kl1 h 2 rfl rfl ?_
    have hrd2 := (h.get (i := 1) rfl : _ ∧ _).1.sh.rd
    rw [hv, hrsl] at hrd2
    refine kh1 (Hp.init [] _) (slc_at hrd2) sr (by rfl) ?_
    refine stA h 0 rfl rfl hal rfl fun w h => ?_
    dsimp only [List.set] at h
    exact hK _ s' _ h
   ·refine alS h fun g3 w h => ?_
    refine klA h 1 rfl rfl ?_
    refine kl1 h 1 rfl rfl ?_
    have hrd2 := (h.get (i := 2) rfl : WoQ _ _ _ _ _).sh.rd
    rw [hv, hrsl] at hrd2
    refine kh1 (Hp.init [] _) (slc_at hrd2) sr (by rfl) ?_
    have h := Hp.perm h (List.perm_middle (l₁ := [_, _]))
    refine cl_does2 (c := .rea r.id) h hWK trivial hcrd fun s' w h => ?_
    have hal := (h.get (i := 0) rfl : _ ∧ _).2.all14
    refine ExP2 (stA h 1 rfl rfl hal rfl fun w h => ?_)
    dsimp only [List.set] at h
    exact hK _ s' _ (Hp.perm h (List.Perm.swap _ _ _))
  have hb := (h.get (i := 1) rfl : _ ∧ _)
  have hal := hb.2.all14
  have hsh' := hb.2.sh
  have hrd' := hsh'.rd
  have hrsl' : s'.x.rs.length = (nxA a (.rea r.id)).rd.length := by rw [← hsh'.rs, List.length_map]
  rw [hrsl'] at hrd'
  have hrdo := hb.1.sh.rd
  rw [hrsl] at hrdo
  replace h := h.dr
  refine Dv_nT (GdP_F (dfS (GdP_F (dfS (GdP_F (dl1 h 0 rfl rfl (GdP_F (dlS (hrd'.ext hdr) ?_))))))))
  refine GdP_F (dfS (GdP_F (dfS (GdP_F (dl1 h 2 rfl rfl (GdP_F (dlS (hrdo.ext hdr) ?_)))))))
  by_cases he : (nxA a (.rea r.id)).rd.length = a.rd.length
  ·have hr1' : ∃ r' l', (nxA a (.rea r.id)).rd = r' :: l' := by
    match (nxA a (.rea r.id)).rd, show 0 < (nxA a (.rea r.id)).rd.length by omega with
    | r :: l, _ => exact ⟨r, l, rfl⟩
   refine Exists.elim hr1' fun r' hr1' => Exists.elim hr1' fun l' hr' => ?_
   have hnx : r'.nx = r.nx + 1 := by
    have := hst.2.2 he
    rw [hr'] at this
    simpa using this
   have hq0' : ∃ u, s'.x.rs[0]? = some (r', u) := by
    have h1 : (s'.x.rs.map (·.1))[0]? = some r' := by rw [hsh'.rs, hr']; rfl
    rw [List.getElem?_map] at h1
    obtain ⟨p, hp1, hp2⟩ := Option.map_eq_some_iff.1 h1
    exact ⟨p.2, by rw [hp1, ← hp2]⟩
   refine Exists.elim hq0' fun u' hu' => ?_
   have sr' : Seg (s'.x.rs.flatMap fR) (0 * 5) (fR (r', u')) := flat_seg (f := fR) (fun _ => rfl) hu'
   refine GdP_F (Dv_eqT (by omega) (GdP_F (GdP_T (dfS (GdP_T (dfS (GdP_T (dl1 h 0 rfl rfl (GdP_T (diH (j := 0) (Hp.init [] _) (hrd'.ext hdr) (by omega) fun b o cap hv hcl => ?_))))))))))
   refine GdP_T (dfS (GdP_T (dh1 (Hp.init [] _) hcl sr' (by rfl) ?_)))
   refine GdP_T (dfS (GdP_T (dfS (GdP_T (dl1 h 2 rfl rfl (GdP_T (diH (j := 0) (Hp.init [] _) (hrdo.ext hdr) (by omega) fun b o cap hv hcl => ?_)))))))
   refine GdP_T (dfS (GdP_T (dh1 (Hp.init [] _) hcl sr (by rfl) ?_)))
   refine GdP_T (Dv_eqF (show r'.nx < r.nx ∨ r.nx < r'.nx by omega) ?_)
   refine GdP_F (PickP_T (PickP_F (If_F (ldA h 0 rfl rfl ?_))))
   refine stA h 2 rfl rfl hal rfl fun w h => ?_
   dsimp only [List.set] at h
   exact hK _ _ ⟨s', _, _, rest, rfl, hWK.step hcrd, Hp.perm (hp_wP (h.drop 1)) (List.Perm.swap _ _ _)⟩ hL0
  ·refine GdP_F (Dv_eqF (by omega) (GdP_F (GdP_FT (GdP_FT (GdP_FT (GdP_FT (GdP_FT (GdP_FT (GdP_FT (GdP_FT (GdP_FT (GdP_FT (GdP_FT (GdP_FT (GdP_FT (GdP_F (PickP_F (PickP_F (If_F (ldA h 0 rfl rfl ?_))))))))))))))))))))
   refine stA h 2 rfl rfl hal rfl fun w h => ?_
   dsimp only [List.set] at h
   exact hK _ _ ⟨s', _, _, rest, rfl, hWK.step hcrd, Hp.perm (hp_wP (h.drop 1)) (List.Perm.swap _ _ _)⟩ hL0
 ·refine faS (faS (ld1 h 0 rfl rfl (leS hrd ?_)))
  refine Bn_gtF (by omega) (If_F ?_)
  exact Ret.mk ⟨h.ext, rfl⟩
end
end Go.Proofs.YthdhnhghjecfkaaGreat
