/-
  Contracts and plain lemmas. By an AI agent.
-/
import Derived.Test.YthjhkpefammjkaaGreatDoorLShPv
import Derived.Test.YthjhkpefammjkaaGreatDoorShPu
import Derived.Test.YthjhkpefammjkaaGreatDoorPlain
set_option linter.unusedSimpArgs false
set_option linter.unusedVariables false
set_option linter.unusedSectionVars false
namespace Go.Proofs.YthjhkpefammjkaaGreatDoor
open Go Go.Eng Go.Proofs Go.Num Go.RowKit Go.Shr
set_option maxRecDepth 100000
section
variable {w0 : World} {v sv : Value} {ks : List Nat} {l : List Int} (hs : SlC w0 1 sv ks.length (ks.flatMap fN)) (hv : SlC w0 1 v l.length (l.flatMap fI)) (hC : CbOk ks l)
include hs hv hC
set_option maxHeartbeats 8000000 in
theorem c_Stands : Calls Tryz.prog 33 #[sv, v] w0 (Ret fun r w' => ∃ u, r = u ∧ Hp [] w0 w' [ro tI 1 u (2 ^ (many ks).2) ((stL ks l).flatMap fI)]) := by
 have h3 := hC.le3
 have hn5 := hC.n5
 have hsz := hC.sz
 have hlen := hC.len
 have hmem := small_mem h3 hsz hn5
 have p2 : 2 ^ (many ks).2 ≤ 32 := Nat.pow_le_pow_right (n := 2) (by decide) hn5
 have hms := many_sum ks
 apply e_ref25_Stands
 unfold s_ref25_Stands
 have h := Hp.init [] w0
 refine Lp2.mk (fun a i W => ∃ c : Nat, c ≤ ks.length ∧ i = .int .i64 c ∧ a = .int .i64 ((ks.take c).sum : Nat) ∧ Hp [] w0 W []) (fun _ i _ => match i with | .int _ i' => ks.length - i'.toNat | _ => 0) ⟨0, by omega, rfl, rfl, h⟩ ?_
 clear h
 rintro _ _ W ⟨c, hc, rfl, rfl, h⟩
 by_cases hcl : c < ks.length
 ·refine Exists.elim (p := fun x => ks[c]? = some x) ⟨_, List.getElem?_eq_getElem hcl⟩ fun k hk => ?_
  have sk : Seg (ks.flatMap fN) (c * 1) (fN k) := flat_seg (f := fN) (fun _ => rfl) hk
  have es := take_sum hk
  have el := take_sum_le ks (c + 1)
  refine leS (hs.hp h) ?_
  refine Bn_ltT (by omega) (If_T (iaH h ‹_› (by omega) fun zb zo zk zv zc => ?_))
  refine lh0 h ‹_› ‹_› (by rfl) ?_
  refine Bn_ad (by omega) (by omega) (Bn_ad (by omega) (by omega) ?_)
  exact ⟨⟨c + 1, by omega, rfl, by rw [es]; rfl, h⟩, by show ks.length - ((c : Int) + 1).toNat < ks.length - (c : Int).toNat; omega⟩
 rw [show (ks.take c).sum = (many ks).2 by rw [hms, List.take_of_length_le (by omega)]]
 refine leS (hs.hp h) ?_
 refine Bn_ltF (by omega) (If_F ?_)
 have h := h.nil tI 1
 refine Exists.elim (p := fun q => 2 ^ (many ks).2 = q) ⟨_, rfl⟩ fun q hq => ?_
 rw [hq] at p2
 refine Lp2.mk (fun u i W => ∃ s : Nat, s ≤ q ∧ i = .int .i64 s ∧ Hp [] w0 W [ro tI 1 u s (((stL ks l).take s).flatMap fI)]) (fun _ i _ => match i with | .int _ i' => q - i'.toNat | _ => 0) ⟨0, by omega, rfl, h⟩ ?_
 clear h
 rintro u _ W ⟨s, hs1, rfl, h⟩
 by_cases hsq : s < q
 ·refine Bn_slA (by omega) ‹_› ?_
  refine Bn_ltT (by omega) (If_T (Lp4.mk (fun a b r i W => ∃ (c ix rest : Nat), c ≤ ks.length ∧ i = .int .i64 c ∧ a = .int .i64 ix ∧ b = .int .i64 ((many (ks.take c)).1 : Nat) ∧ r = .int .i64 rest ∧ rest ≤ s ∧ ix ≤ 1000 * c ∧ ix + standAt (ks.drop c) (many (ks.take c)).1 rest = standAt ks 1 s ∧ Hp [] w0 W [ro tI 1 u s (((stL ks l).take s).flatMap fI)]) (fun _ _ _ i _ => match i with | .int _ i' => ks.length - i'.toNat | _ => 0) ⟨0, 0, s, by omega, rfl, rfl, rfl, rfl, Nat.le_refl _, by omega, by simp [many], h⟩ ?_))
  clear h
  rintro _ _ _ _ W ⟨c, ix, rest, hc, rfl, rfl, rfl, rfl, hrs, hix, hst, h⟩
  by_cases hcl : c < ks.length
  ·refine Exists.elim (p := fun x => ks[c]? = some x) ⟨_, List.getElem?_eq_getElem hcl⟩ fun k hk => ?_
   have sk : Seg (ks.flatMap fN) (c * 1) (fN k) := flat_seg (f := fN) (fun _ => rfl) hk
   have hk3 := hsz k (List.mem_of_getElem? hk)
   have hd : ks.drop c = k :: ks.drop (c + 1) := by
    rw [List.drop_eq_getElem_cons hcl]
    rw [List.getElem?_eq_getElem hcl] at hk
    rw [Option.some.inj hk]
   have hm1 := many_take ks c
   have hm2 := many_take ks (c + 1)
   have hmp := many_pow ks
   have es := many_sn (ks.take c) k
   rw [← take_snoc hk] at es
   rw [hd, standAt] at hst
   refine Exists.elim (p := fun q => 2 ^ k = q) ⟨_, rfl⟩ fun pk hpk => ?_
   have hpk0 : 0 < pk := by rw [← hpk]; exact Nat.two_pow_pos k
   refine Exists.elim (p := fun q => rest % pk = q) ⟨_, rfl⟩ fun r1 hr1 => ?_
   refine Exists.elim (p := fun q => rest / pk = q) ⟨_, rfl⟩ fun r2 hr2 => ?_
   have hr1l : r1 ≤ rest := by rw [← hr1]; exact Nat.mod_le _ _
   have hr2l : r2 ≤ rest := by rw [← hr2]; exact Nat.div_le_self _ _
   rw [hpk, hr1, hr2, ones10 r1 (by omega)] at hst
   have ho : ∀ s, s < 64 → ones 6 s ≤ 6 := by decide +kernel
   have ho1 := ho r1 (by omega)
   have cc1 := fun {W : World} (_ : Ext w0 W) => c_members (w0 := W) (s := r1) (by omega)
   refine Exists.elim (p := fun q => (many (ks.take c)).1 = q) ⟨_, rfl⟩ fun st hst1 => ?_
   have es1 : (many (ks.take (c + 1))).1 = st * (k + 1) := by rw [es, hst1]
   rw [hst1] at hst hm1 ⊢
   have hst32 : st ≤ 32 := by omega
   have hmu1 : st * ones 6 r1 ≤ 32 * 6 := Nat.mul_le_mul hst32 ho1
   have hmu2 : ((st : Nat) : Int) * ((ones 6 r1 : Nat) : Int) = ((st * ones 6 r1 : Nat) : Int) := (Int.natCast_mul _ _).symm
   have hmu3 : st * (k + 1) ≤ 32 * 4 := Nat.mul_le_mul hst32 (by omega)
   have hmu4 : ((st : Nat) : Int) * ((k : Int) + 1) = ((st * (k + 1) : Nat) : Int) := by rw [Int.natCast_mul]; rfl
   rw [show ((r1 : Nat) : Int) = (rest : Int) % (pk : Int) by rw [← hr1]; rfl] at cc1
   have hr2' : rest / 2 ^ k = r2 := by rw [hpk]; exact hr2
   refine leS (hs.hp h) ?_
   refine Bn_ltT (by omega) (If_T (iaH h ‹_› (by omega) fun zb zo zk zv zc => ?_))
   refine lh0 h ‹_› ‹_› (by rfl) ?_
   refine Bn_slA (by omega) ‹_› ?_
   refine Bn_rm (by omega) (by omega) (cl1 h n_ref25_members (cc1 h.ext) fun w h => ?_)
   refine Bn_mu (by omega) (by omega) (Bn_ad (by omega) (by omega) (iaH h ‹_› (by omega) fun zb zo zk zv zc => ?_))
   refine lh0 h ‹_› ‹_› (by rfl) ?_
   refine Bn_srA (by omega) ‹_› ?_
   refine iaH h ‹_› (by omega) fun zb zo zk zv zc => ?_
   refine lh0 h ‹_› ‹_› (by rfl) ?_
   refine Bn_ad (by omega) (by omega) (Bn_mu (by omega) (by omega) (Bn_ad (by omega) (by omega) ?_))
   exact ⟨⟨c + 1, ix + st * ones 6 r1, r2, by omega, rfl, by rw [hmu2]; rfl, by rw [hmu4, es1], rfl, by omega, by omega, by rw [es1, ← hst]; omega, h⟩, by show ks.length - ((c : Int) + 1).toNat < ks.length - (c : Int).toNat; omega⟩
  ·have hd : ks.drop c = [] := List.drop_eq_nil_of_le (by omega)
   rw [hd] at hst
   have hst : ix = standAt ks 1 s := hst
   have hlt := stand_lt hmem (s := s) (by omega)
   have sx : Seg (l.flatMap fI) (ix * 1) (fI (g l ix)) := flat_seg (f := fI) (fun _ => rfl) (g_get (by omega))
   have es : (stL ks l)[s]? = some (g l ix) := by
    rw [stL, List.getElem?_map, List.getElem?_range (by omega), hst]; rfl
   refine leS (hs.hp h) ?_
   refine Bn_ltF (by omega) (If_F (iaH h ‹_› (by omega) fun zb zo zk zv zc => ?_))
   refine lh0 h ‹_› ‹_› (by rfl) ?_
   refine bs1A h (by rfl) (by decide) (by rfl) (by decide) fun v1 w h => ?_
   refine apR (by rfl) (by decide) h 1 rfl (qZ 0 h rfl) (by first | rfl | assumption) (by omega) fun v2 w h => ?_
   refine Bn_ad (by omega) (by omega) ?_
   dsimp only [List.set] at h
   refine ⟨⟨s + 1, by omega, rfl, ?_⟩, by show q - ((s : Int) + 1).toNat < q - (s : Int).toNat; omega⟩
   rw [take_snoc es, List.flatMap_append]
   exact h.pick [1] (by decide) rfl
 ·have hsl := stL_len ks l
  rw [List.take_of_length_le (by omega), show s = 2 ^ (many ks).2 by omega] at h
  refine Bn_slA (by omega) ‹_› ?_
  refine Bn_ltF (by omega) (If_F ?_)
  exact Ret.mk ⟨u, rfl, h⟩
end
section
variable {w0 : World} {n al n0 n1 n2 : Int} {v : Value} {xs : List Int} (hn : I64 n) (ha : I64 al) (hn0 : I64 n0) (hn1 : I64 n1) (hn2 : I64 n2) (hv : SlC w0 1 v xs.length (xs.flatMap fI)) (hl : xs.length ≤ 9223372036854775807) (hx : ∀ x ∈ xs, I64 x) (hT : Tab w0) (hF : FacV w0)
include hn ha hn0 hn1 hn2 hv hl hx hT hF
set_option maxHeartbeats 16000000 in
theorem c_LawMerged : Calls Tryz.prog 9 #[.int .i64 n, v, .int .i64 al, .agg #[.int .i64 n0, .int .i64 n1, .int .i64 n2]] w0 (Ret fun r w' => Ext w0 w' ∧ r = .bool true) := by
 refine Exists.elim (pk_nat (c := n) (n := 6) (by decide)) fun m hm => ?_
 have hm6 := hm.2
 have cc1 := fun {W : World} (e : Ext w0 W) => c_sane (w0 := W) (hT.ext e) (hF.ext e)
 apply e_law25_ShareMerged
 unfold s_law25_ShareMerged
 have h := Hp.init [] w0
 refine bxA h fun g1 w h => ?_
 refine cl1 h n_law25_sane (cc1 h.ext) fun w h => ?_
 refine Un_T (If_F (Cl_i n_ref25_Made (c_Made hn ha (hv.ext h.ext) hl hx hm.1) ?_))
 rintro u w1 ⟨_, rfl, l, hll, hlo, h'⟩
 have h := h.cat1 h' ro_sm
 have p2 : 2 ^ m ≤ 32 := Nat.pow_le_pow_right (n := 2) (by decide) (show m ≤ 5 by omega)
 have wl := mdOk_w hlo
 have n6 : m ≤ 6 := by omega
 refine Cl_i n_share_Shapley (c_Shapley (l := l) (by rw [hll]; exact h.sl (i := 0) rfl) n6 hll wl (hT.ext h.ext) (hF.ext h.ext)) ?_
 rintro _ w1 ⟨vl, rfl, h'⟩
 have h := h.cat1 h' ro_sm
 refine Ex2 (Cl_i n_share_Classes (c_Classes (l := l) (by rw [hll]; exact h.sl (i := 1) rfl) n6 hll wl) ?_)
 rintro _ w1 ⟨uc, vs, kz, rfl, h'⟩
 have h := h.cat2 h' ro_sm sls_sm
 refine Ex2 (Cl_i n_share_Reduce (c_Reduce (l := l) (by rw [hll]; exact h.sl (i := 3) rfl) n6 hll wl) ?_)
 rintro _ w1 ⟨ra, rb, rfl, h'⟩
 have h := h.cat2 h' ro_sm ro_sm
 refine Ex3 (Exists.elim (p := fun ks => (clsV m l).map List.length = ks) ⟨_, rfl⟩ fun ks hks => ?_)
 have hcl := cls_len m l
 have hkl : ks.length = (clsV m l).length := by rw [← hks, List.length_map]
 have hM : MgOk ks (redV (clsV m l) l) := by
  refine ⟨by omega, fun k hk => ?_, by rw [← hks, cls_sum n6]; omega, by rw [← hks]; have := cls_cnt n6 l; omega, by rw [redV_len, hks], fun x hx => ?_⟩
  ·rw [← hks] at hk
   obtain ⟨q, hq, rfl⟩ := List.mem_map.1 hk
   have := cls_each hq
   omega
  ·obtain ⟨ix, _, rfl⟩ := List.mem_map.1 hx
   exact g_ok wl (by rw [hll]; exact redIx_lt n6 ix)
 rw [hks] at h
 have hsl : (shrsM ks (redV (clsV m l) l)).length = ks.length := by simp [shrsM]
 refine Cl_i n_share_Merged (c_Merged (ks := ks) (l := redV (clsV m l) l) (by unfold SlN; rw [hkl]; exact h.sl (i := 1) rfl) (qZ 0 h rfl) hM (hT.ext h.ext) (hF.ext h.ext)) ?_
 rintro _ w1 ⟨vm, rfl, h'⟩
 have h := h.cat1 h' ro_sm
 have hvl : vs.length = (clsV m l).length := (h.get (i := 4) rfl).1
 rw [← hkl] at hvl
 refine Ex2 (Bn_neF (by omega) (Gd_F (Gd_F (Bn_neF (by omega) (Pick_F (Gd_F (Gd_F (Bn_neF (by omega) (Pick_F (Gd_F (Gd_F (Bn_neF (by omega) (Pick_F (Gd_F (Gd_F (leS (qZ 0 h rfl) ?_))))))))))))))))
 refine Gd_F (Gd_F (leS (qZ 3 h rfl) ?_))
 refine Gd_F (Bn_neF (by omega) (Pick_F (Gd_F (Gd_F (leS (qZ 2 h rfl) ?_)))))
 refine Gd_F (Gd_F (leS (qZ 3 h rfl) ?_))
 refine Gd_F (Bn_neF (by omega) (Pick_F (If_F ?_)))
 have x1 := h.ext
 have hma : SlC w1 1 ra ks.length (ks.flatMap fN) := by rw [hkl]; exact h.sl (i := 2) rfl
 have hmm : SlC w1 2 vm ks.length (qC (shrsM ks (redV (clsV m l) l))) := h.sl (i := 0) rfl
 have huc : SlC w1 1 uc vs.length vs := h.sl (i := 3) rfl
 have hq : SLk w1 vs (clsV m l) := sls_k (h.get (i := 4) rfl)
 have hsh : SlC w1 2 vl m (qC (shrs m l)) := h.sl (i := 5) rfl
 have hg1 : Blk w1 g1 44 [.int .i64 n0, .int .i64 n1, .int .i64 n2] := h.get (i := 7) rfl
 have hv := hv.ext x1
 have hT := hT.ext x1
 have hF := hF.ext x1
 clear h h' cc1
 have h := Hp.init [] w1
 refine Lp1.mk (fun i W => ∃ c : Nat, c ≤ ks.length ∧ i = .int .i64 c ∧ Hp [] w1 W []) (fun i _ => match i with | .int _ i' => ks.length - i'.toNat | _ => 0) ⟨0, by omega, rfl, h⟩ ?_
 clear h
 rintro _ W ⟨c, hc, rfl, h⟩
 by_cases hck : c < ks.length
 ·refine Exists.elim (p := fun x => (clsV m l)[c]? = some x) ⟨_, List.getElem?_eq_getElem (by omega)⟩ fun q hq' => ?_
  refine Exists.elim (p := fun x => vs[c]? = some x) ⟨_, List.getElem?_eq_getElem (by omega)⟩ fun qv hqv => ?_
  have sx : Seg vs (c * 1) [qv] := seg_one hqv
  have kq : SlC w1 1 qv q.length (q.flatMap fN) := hq.el c qv q hqv hq'
  have lq := (cls_each (List.mem_of_getElem? hq')).2
  have ekc : ks[c]? = some q.length := by rw [← hks, List.getElem?_map, hq']; rfl
  have skc : Seg (ks.flatMap fN) (c * 1) (fN q.length) := flat_seg (f := fN) (fun _ => rfl) ekc
  refine leS (huc.hp h) ?_
  refine Bn_ltT (by omega) (If_T (Lp1.mk (fun i W => ∃ k : Nat, k ≤ q.length ∧ i = .int .i64 k ∧ Hp [] w1 W []) (fun i _ => match i with | .int _ i' => q.length - i'.toNat | _ => 0) ⟨0, by omega, rfl, h⟩ ?_))
  clear h
  rintro _ W ⟨k, hk, rfl, h⟩
  by_cases hkq : k < q.length
  ·refine Exists.elim (p := fun x => q[k]? = some x) ⟨_, List.getElem?_eq_getElem hkq⟩ fun i hi => ?_
   have him : i < m := clsV_lt (List.mem_flatten.2 ⟨q, List.mem_of_getElem? hq', List.mem_of_getElem? hi⟩)
   have sq : Seg (q.flatMap fN) (k * 1) (fN i) := flat_seg (f := fN) (fun _ => rfl) hi
   have ee := cls_shr (v := l) (show m ≤ 5 by omega) hq' (List.mem_of_getElem? hi)
   rw [hks] at ee
   have t1 : Seg (qC (shrs m l)) (i * 2) (fO (some (shr m l i))) := flat_seg (f := fun x : Rat => fO (some x)) (fun _ => rfl) (shrs_get him)
   have t2 : Seg (qC (shrsM ks (redV (clsV m l) l))) (c * 2) (fO (some (shr m l i))) := by
    rw [ee]
    exact flat_seg (f := fun x : Rat => fO (some x)) (fun _ => rfl) (by simp [shrsM, hck])
   have qe := qe_t (shr m l i)
   refine iaH h ‹_› (by omega) fun zb zo zk zv zc => ?_
   refine lh0 h ‹_› ‹_› (by rfl) ?_
   refine leS (kq.hp h) ?_
   refine Bn_ltT (by omega) (If_T (iaH h ‹_› (by omega) fun zb zo zk zv zc => ?_))
   refine lh0 h ‹_› ‹_› (by rfl) ?_
   refine iaH h ‹_› (by omega) fun zb zo zk zv zc => ?_
   refine lh0 h ‹_› ‹_› (by rfl) ?_
   replace h := h.dr
   refine Dv_ltF (by omega) (GdP_F (GdP_F (GdP_F (dlS (hsh.hp h) ?_))))
   refine GdP_F (Dv_geF (by omega) (PickP_F (GdP_F (GdP_F (GdP_F (diH h ‹_› (by omega) fun zb zo zk zv zc => ?_))))))
   refine GdP_F (dhA h ‹_› ‹_› (by rfl) ?_)
   refine GdP_F (GdP_F (GdP_F (diH h ‹_› (by omega) fun zb zo zk zv zc => ?_)))
   refine GdP_F (dhA h ‹_› ‹_› (by rfl) ?_)
   refine GdP_F (dqNeF ‹_› ?_)
   refine PickP_F (GdP_F (GdP_F (GdP_F (diH h ‹_› (by omega) fun zb zo zk zv zc => ?_))))
   refine GdP_F (dh0 h ‹_› ‹_› (by rfl) ?_)
   refine GdP_F (dlS (kq.hp h) ?_)
   refine GdP_F (GdP_F (GdP_F (diH h ‹_› (by omega) fun zb zo zk zv zc => ?_)))
   refine GdP_F (dh0 h ‹_› ‹_› (by rfl) ?_)
   refine GdP_F (Dv_neF (by omega) (PickP_F (If_F (Bn_ad (by omega) (by omega) ?_))))
   exact ⟨⟨k + 1, by omega, rfl, h⟩, by show q.length - ((k : Int) + 1).toNat < q.length - (k : Int).toNat; omega⟩
  ·refine iaH h ‹_› (by omega) fun zb zo zk zv zc => ?_
   refine lh0 h ‹_› ‹_› (by rfl) ?_
   refine leS (kq.hp h) ?_
   refine Bn_ltF (by omega) (If_F (Bn_ad (by omega) (by omega) ?_))
   exact ⟨⟨c + 1, by omega, rfl, h⟩, by show ks.length - ((c : Int) + 1).toNat < ks.length - (c : Int).toNat; omega⟩
 refine leS (huc.hp h) ?_
 refine Bn_ltF (by omega) (If_F (lgA h ‹_› (by rfl) ?_))
 clear hq huc hma hmm hsh hvl hcl hkl hM hsl hks
 refine Cl_i n_ref25_Combos (c_Combos hn0 hn1 hn2 (hv.ext h.ext) hl hx) ?_
 rintro _ w2 ⟨a, b, rfl, k2, l2, hC, h'⟩
 have h := h.cat2 h' ro_sm ro_sm
 have hC3 := hC.le3
 have hCl := hC.len
 have hn5 := hC.n5
 have hms := many_sum k2
 have hmem := small_mem hC.le3 hC.sz hC.n5
 refine Ex2 (Cl_i n_share_Merged (c_Merged (ks := k2) (l := l2) (qZ 1 h rfl) (by rw [hCl]; exact h.sl (i := 0) rfl) hC.mg (hT.ext h.ext) (hF.ext h.ext)) ?_)
 rintro _ w3 ⟨vo, rfl, h'⟩
 have h := h.cat1 h' ro_sm
 refine Ex2 (Cl_i n_ref25_Stands (c_Stands (ks := k2) (l := l2) (qZ 2 h rfl) (by rw [hCl]; exact h.sl (i := 1) rfl) hC) ?_)
 rintro us w4 ⟨_, rfl, h'⟩
 have h := h.cat1 h' ro_sm
 have wst : ∀ x ∈ stL k2 l2, wOk x := fun x hx => by
  obtain ⟨s, hs, rfl⟩ := List.mem_map.1 hx
  exact g_ok (mdOk_w hC.ok) (by rw [hCl]; exact stand_lt hmem (List.mem_range.1 hs))
 refine Cl_i n_share_Shapley (c_Shapley (n := (many k2).2) (l := stL k2 l2) (by rw [stL_len]; exact h.sl (i := 0) rfl) (by omega) (stL_len k2 l2) wst (hT.ext h.ext) (hF.ext h.ext)) ?_
 rintro _ w5 ⟨vp, rfl, h'⟩
 have h := (h.cat1 h' ro_sm).pick [0, 2, 4] (by decide) rfl
 have h : Hp [] w1 w5 [ro tR 2 vp (many k2).2 (qC (shrs (many k2).2 (stL k2 l2))), ro tR 2 vo k2.length (qC (shrsM k2 l2)), ro tI 1 a k2.length (k2.flatMap fN)] := h
 clear h'
 refine Ex2 (Bn_neF (by omega) (Gd_F (Gd_F (Bn_neF (by omega) (Pick_F (Gd_F (Gd_F (leS (qZ 1 h rfl) ?_))))))))
 refine Gd_F (Gd_F (leS (qZ 2 h rfl) ?_))
 refine Gd_F (Bn_neF (by omega) (Pick_F (If_F (Lp2.mk (fun x i W => ∃ c : Nat, c ≤ k2.length ∧ i = .int .i64 c ∧ x = .int .i64 ((k2.take c).sum : Nat) ∧ Hp [] w1 W [ro tR 2 vp (many k2).2 (qC (shrs (many k2).2 (stL k2 l2))), ro tR 2 vo k2.length (qC (shrsM k2 l2)), ro tI 1 a k2.length (k2.flatMap fN)]) (fun _ i _ => match i with | .int _ i' => k2.length - i'.toNat | _ => 0) ⟨0, by omega, rfl, rfl, h⟩ ?_))))
 clear h
 rintro _ _ W ⟨c, hc, rfl, rfl, h⟩
 by_cases hcl : c < k2.length
 ·refine Exists.elim (p := fun x => k2[c]? = some x) ⟨_, List.getElem?_eq_getElem hcl⟩ fun kc hkc => ?_
  have skc : Seg (k2.flatMap fN) (c * 1) (fN kc) := flat_seg (f := fN) (fun _ => rfl) hkc
  have es := take_sum hkc
  have el := take_sum_le k2 (c + 1)
  have ekd : k2.getD c 0 = kc := by rw [List.getD_eq_getElem?_getD, hkc]; rfl
  refine leS (qZ 2 h rfl) ?_
  refine Bn_ltT (by omega) (If_T (Lp2.mk (fun x i W => ∃ k : Nat, k ≤ kc ∧ i = .int .i64 k ∧ x = .int .i64 ((k2.take c).sum + k : Nat) ∧ Hp [] w1 W [ro tR 2 vp (many k2).2 (qC (shrs (many k2).2 (stL k2 l2))), ro tR 2 vo k2.length (qC (shrsM k2 l2)), ro tI 1 a k2.length (k2.flatMap fN)]) (fun _ i _ => match i with | .int _ i' => kc - i'.toNat | _ => 0) ⟨0, by omega, rfl, rfl, h⟩ ?_))
  clear h
  rintro _ _ W ⟨k, hk, rfl, rfl, h⟩
  by_cases hkk : k < kc
  ·refine Exists.elim (p := fun x => (k2.take c).sum + k = x) ⟨_, rfl⟩ fun at_ hat => ?_
   rw [hat]
   have hlt : at_ < (many k2).2 := by omega
   have ee := stand_shr hmem (by omega) (v := l2) hlt
   rw [← hat, clsAt_at k2 0 c k hcl (by omega), Nat.zero_add, hat] at ee
   have t1 : Seg (qC (shrs (many k2).2 (stL k2 l2))) (at_ * 2) (fO (some (shrM k2 l2 c))) := by
    rw [← ee]
    exact flat_seg (f := fun x : Rat => fO (some x)) (fun _ => rfl) (shrs_get hlt)
   have t2 : Seg (qC (shrsM k2 l2)) (c * 2) (fO (some (shrM k2 l2 c))) := flat_seg (f := fun x : Rat => fO (some x)) (fun _ => rfl) (by simp [shrsM, hcl])
   have qe := qe_t (shrM k2 l2 c)
   refine iaR h 2 rfl (by omega) fun zg zk zv => ?_
   refine lr0 h 2 rfl ‹_› skc (by rfl) ?_
   refine Bn_ltT (by omega) (If_T ?_)
   replace h := h.dr
   refine dlS (qZ 0 h rfl) ?_
   refine Dv_geF (by omega) (GdP_F (GdP_F (GdP_F (diR h 0 rfl (by omega) fun zg zk zv => ?_))))
   refine GdP_F (drA h 0 rfl ‹_› t1 (by rfl) ?_)
   refine GdP_F (GdP_F (GdP_F (diR h 1 rfl (by omega) fun zg zk zv => ?_)))
   refine GdP_F (drA h 1 rfl ‹_› t2 (by rfl) ?_)
   refine GdP_F (dqNeF ‹_› ?_)
   refine PickP_F (If_F (Bn_ad (by omega) (by omega) (Bn_ad (by omega) (by omega) ?_)))
   exact ⟨⟨k + 1, by omega, rfl, by rw [← Nat.add_assoc, hat]; rfl, h⟩, by show kc - ((k : Int) + 1).toNat < kc - (k : Int).toNat; omega⟩
  ·refine iaR h 2 rfl (by omega) fun zg zk zv => ?_
   refine lr0 h 2 rfl ‹_› skc (by rfl) ?_
   refine Bn_ltF (by omega) (If_F (Bn_ad (by omega) (by omega) ?_))
   refine ⟨⟨c + 1, by omega, rfl, ?_, h⟩, by show k2.length - ((c : Int) + 1).toNat < k2.length - (c : Int).toNat; omega⟩
   rw [es, show k = kc by omega]
 ·rw [show (k2.take c).sum = (many k2).2 by rw [hms, List.take_of_length_le (by omega)]]
  refine leS (qZ 2 h rfl) ?_
  refine Bn_ltF (by omega) (If_F (leS (qZ 0 h rfl) ?_))
  refine Bn_eqT (by omega) ?_
  exact Ret.mk ⟨x1.tr h.ext, rfl⟩
end
end Go.Proofs.YthjhkpefammjkaaGreatDoor
