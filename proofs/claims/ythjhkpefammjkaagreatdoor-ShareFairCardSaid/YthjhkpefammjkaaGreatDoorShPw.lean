/-
  Contracts and plain lemmas. By an AI agent.
-/
import Derived.Test.YthjhkpefammjkaaGreatDoorLShPw
import Derived.Test.YthjhkpefammjkaaGreatDoorShPm
import Derived.Test.YthjhkpefammjkaaGreatDoorShPs
import Derived.Test.YthjhkpefammjkaaGreatDoorPlain
set_option linter.unusedSimpArgs false
set_option linter.unusedVariables false
set_option linter.unusedSectionVars false
namespace Go.Proofs.YthjhkpefammjkaaGreatDoor
open Go Go.Eng Go.Proofs Go.Num Go.RowKit Go.Shr
set_option maxRecDepth 100000
theorem more_w {p : Nat} {l : List Int} {a : Int} (hl : l.length = p) (h : ∀ x ∈ l, mdOk x) (h1 : -100 ≤ a) (h2 : a ≤ 100) : ∀ x ∈ moreL p l a, wOk x := fun x hx => by
 refine Exists.elim (List.mem_map.1 hx) fun s hs => ?_
 have hs' := List.mem_range.1 hs.1
 have he : (if s < p then g l s else g l (s - p) + a) = x := hs.2
 by_cases e : s < p
 ·rw [if_pos e] at he
  have h3 := md_g h (show s < l.length by omega)
  have h4 := h3.1
  have h5 := h3.2
  exact And.intro (by omega) (by omega)
 ·rw [if_neg e] at he
  have h3 := md_g h (show s - p < l.length by omega)
  have h4 := h3.1
  have h5 := h3.2
  exact And.intro (by omega) (by omega)
section
variable {w0 : World} {n al ad : Int} {v : Value} {xs : List Int} (hn : I64 n) (ha : I64 al) (had : I64 ad) (hv : SlC w0 1 v xs.length (xs.flatMap fI)) (hl : xs.length ≤ 9223372036854775807) (hx : ∀ x ∈ xs, I64 x) (hT : Tab w0) (hF : FacV w0)
include hn ha had hv hl hx hT hF
set_option maxHeartbeats 16000000 in
theorem c_Fair : Calls Tryz.prog 6 #[.int .i64 n, v, .int .i64 al, .int .i64 ad] w0 (Ret fun r w' => Ext w0 w' ∧ r = .bool true) := by
 refine Exists.elim (pk_nat (c := n) (n := 6) (by decide)) fun m hm => ?_
 have hm6 := hm.2
 refine Exists.elim (pk_nat (c := ad) (n := 100) (by decide)) fun a100 ha100 => ?_
 have ha1002 := ha100.2
 have cc1 := fun {W : World} (e : Ext w0 W) => c_sane (w0 := W) (hT.ext e) (hF.ext e)
 apply e_law25_ShareFair
 unfold s_law25_ShareFair
 have h := Hp.init [] w0
 refine cl1 h n_law25_sane (cc1 h.ext) fun w h => ?_
 refine Un_T (If_F (Cl_i n_ref25_Made (c_Made hn ha (hv.ext h.ext) hl hx hm.1) ?_))
 rintro u w1 ⟨_, rfl, l, hll, hlo, h'⟩
 have h := h.cat1 h' ro_sm
 have p2 : 2 ^ m ≤ 32 := Nat.pow_le_pow_right (n := 2) (by decide) (show m ≤ 5 by omega)
 have wl := mdOk_w hlo
 have n6 : m ≤ 6 := by omega
 refine Cl_i n_share_Shapley (c_Shapley (l := l) (by rw [hll]; exact h.sl (i := 0) rfl) n6 hll wl (hT.ext h.ext) (hF.ext h.ext)) ?_
 rintro _ w1 ⟨vl, rfl, h'⟩
 have h := h.cat1 h' ro_sm
 refine Ex2 (Cl_i n_share_Classes (c_Classes (l := l) (by rw [hll]; exact h.sl (i := 1) rfl) n6 hll wl) ?_)
 rintro _ w1 ⟨uc, vs, kz, rfl, h'⟩
 have h := h.cat2 h' ro_sm sls_sm
 have x1 := h.ext
 have huc : SlC w1 1 uc vs.length vs := h.sl (i := 0) rfl
 have hq : SLk w1 vs (clsV m l) := sls_k (h.get (i := 1) rfl)
 have hsh : SlC w1 2 vl m (qC (shrs m l)) := h.sl (i := 2) rfl
 have hu : SlC w1 1 u (2 ^ m) (l.flatMap fI) := h.sl (i := 3) rfl
 have hvl := hq.len
 have hcl := cls_len m l
 have hT := hT.ext x1
 have hF := hF.ext x1
 refine Exists.elim (p := fun p => 2 ^ m = p) ⟨_, rfl⟩ fun p hp => ?_
 have hp0 : 0 < p := by rw [← hp]; exact Nat.two_pow_pos m
 rw [hp] at hu p2 hll
 clear cc1 h h' hv
 have h := Hp.init [] w1
 refine Ex2 (Bn_neF (by omega) (Gd_F (Gd_F (Bn_neF (by omega) (Pick_F (If_F (leS (hsh.hp h) ?_)))))))
 refine msS fI (0 : Int) rfl (by decide) h (n := m) (by omega) (by show m * 1 ≤ _; omega) fun tv w hg h => ?_
 refine Lp1.mk (fun i W => ∃ (c : Nat) (K : List Int), c ≤ vs.length ∧ i = .int .i64 c ∧ K.length = m ∧ (∀ (c' : Nat) (q' : List Nat) (k' i' : Nat), (clsV m l)[c']? = some q' → q'[k']? = some i' → c' < c → g K i' = c') ∧ Hp [] w1 W [ro tI 1 tv m (K.flatMap fI)]) (fun i _ => match i with | .int _ i' => vs.length - i'.toNat | _ => 0) ⟨0, List.replicate m 0, by omega, rfl, by simp, fun _ _ _ _ _ _ h => absurd h (Nat.not_lt_zero _), h⟩ ?_
 clear h
 rintro _ W ⟨c, K, hc, rfl, hK, hKg, h⟩
 by_cases hcv : c < vs.length
 ·
  refine Exists.elim (p := fun x => (clsV m l)[c]? = some x) ⟨_, List.getElem?_eq_getElem (by omega)⟩ fun q hq' => ?_
  refine Exists.elim (p := fun x => vs[c]? = some x) ⟨_, List.getElem?_eq_getElem (by omega)⟩ fun qv hqv => ?_
  have sx : Seg vs (c * 1) [qv] := seg_one hqv
  have kq : SlC w1 1 qv q.length (q.flatMap fN) := hq.el c qv q hqv hq'
  have lq := cls_each (List.mem_of_getElem? hq')
  refine leS (huc.hp h) ?_
  refine Bn_ltT (by omega) (If_T (Lp1.mk (fun i W => ∃ (k : Nat) (K : List Int), k ≤ q.length ∧ i = .int .i64 k ∧ K.length = m ∧ (∀ (c' : Nat) (q' : List Nat) (k' i' : Nat), (clsV m l)[c']? = some q' → q'[k']? = some i' → (c' < c ∨ (c' = c ∧ k' < k)) → g K i' = c') ∧ Hp [] w1 W [ro tI 1 tv m (K.flatMap fI)]) (fun i _ => match i with | .int _ i' => q.length - i'.toNat | _ => 0) ⟨0, K, by omega, rfl, hK, fun c' q' k' i' h1 h2 h3 => hKg c' q' k' i' h1 h2 (by omega), h⟩ ?_))
  clear h hKg hK K
  rintro _ W ⟨k, K, hk, rfl, hK, hKg, h⟩
  by_cases hkq : k < q.length
  ·refine Exists.elim (p := fun x => q[k]? = some x) ⟨_, List.getElem?_eq_getElem hkq⟩ fun i hi => ?_
   refine Exists.elim (p := fun x => q[0]? = some x) ⟨_, List.getElem?_eq_getElem (by omega)⟩ fun i0 hi0 => ?_
   have him : i < m := clsV_lt (List.mem_flatten.2 ⟨q, List.mem_of_getElem? hq', List.mem_of_getElem? hi⟩)
   have hi0m : i0 < m := clsV_lt (List.mem_flatten.2 ⟨q, List.mem_of_getElem? hq', List.mem_of_getElem? hi0⟩)
   have sq : Seg (q.flatMap fN) (k * 1) (fN i) := flat_seg (f := fN) (fun _ => rfl) hi
   have sq0 : Seg (q.flatMap fN) (0 * 1) (fN i0) := flat_seg (f := fN) (fun _ => rfl) hi0
   have ee : shr m l i0 = shr m l i := by
    unfold shr
    rw [numS_alike n6 hi0m him (cls_alk n6 hq' (List.mem_of_getElem? hi0) (List.mem_of_getElem? hi))]
   have t1 : Seg (qC (shrs m l)) (i * 2) (fO (some (shr m l i))) := flat_seg (f := fun x : Rat => fO (some x)) (fun _ => rfl) (shrs_get him)
   have t2 : Seg (qC (shrs m l)) (i0 * 2) (fO (some (shr m l i))) := by
    rw [← ee]
    exact flat_seg (f := fun x : Rat => fO (some x)) (fun _ => rfl) (shrs_get hi0m)
   have qe := qe_t (shr m l i)
   refine iaH h ‹_› (by omega) fun zb zo zk zv zc => ?_
   refine lh0 h ‹_› ‹_› (by rfl) ?_
   refine leS (kq.hp h) ?_
   refine Bn_ltT (by omega) (If_T (iaH h ‹_› (by omega) fun zb zo zk zv zc => ?_))
   refine lh0 h ‹_› ‹_› (by rfl) ?_
   refine iaH h ‹_› (by omega) fun zb zo zk zv zc => ?_
   refine lh0 h ‹_› ‹_› (by rfl) ?_
   replace h := h.dr
   refine Dv_ltF (by omega) (GdP_F (GdP_F (GdP_F (dlS (hsh.hp h) ?_))))
   refine GdP_F (Dv_geF (by omega) (PickP_F (GdP_F (GdP_F (GdP_F (diH h ‹_› (by omega) fun zb zo zk zv zc => ?_))))))
   refine GdP_F (dhA h ‹_› ‹_› (by rfl) ?_)
   refine GdP_F (GdP_F (GdP_F (GdP_F (diH h ‹_› (by omega) fun zb zo zk zv zc => ?_))))
   refine GdP_F (dh0 h ‹_› ‹_› (by rfl) ?_)
   refine GdP_F (diHz h ‹_› (by omega) (by omega) fun zb zo zk zv zc => ?_)
   refine GdP_F (dh0 h ‹_› ‹_› (by rfl) ?_)
   refine GdP_F (diH h ‹_› (by omega) fun zb zo zk zv zc => ?_)
   refine GdP_F (dhA h ‹_› ‹_› (by rfl) ?_)
   refine GdP_F (dqNeF ‹_› ?_)
   refine PickP_F (If_F (iaR h 0 rfl (by omega) fun zg zk zv => ?_))
   refine stR1 h 0 rfl ‹_› (by rfl) (by rfl) (by omega) fun w h => ?_
   refine Bn_ad (by omega) (by omega) ?_
   dsimp only [List.set] at h
   rw [set_fI] at h
   refine ⟨⟨k + 1, K.set i (c : Int), by omega, rfl, by rw [List.length_set]; exact hK, fun c' q' k' i' h1 h2 h3 => ?_, h⟩, by show q.length - ((k : Int) + 1).toNat < q.length - (k : Int).toNat; omega⟩
   rw [g_set (by omega)]
   by_cases e : i' = i
   ·subst e
    rw [if_pos rfl, cls_uniq hq' (List.mem_of_getElem? hi) h1 (List.mem_of_getElem? h2)]
   ·rw [if_neg e]
    refine hKg c' q' k' i' h1 h2 ?_
    rcases h3 with h3 | ⟨h3, h4⟩
    ·exact .inl h3
    ·refine .inr ⟨h3, ?_⟩
     refine Classical.byContradiction fun h5 => e ?_
     have : k' = k := by omega
     subst this; subst h3
     rw [hq'] at h1
     have := Option.some.inj h1
     subst this
     rw [hi] at h2
     exact (Option.some.inj h2).symm
  ·refine iaH h ‹_› (by omega) fun zb zo zk zv zc => ?_
   refine lh0 h ‹_› ‹_› (by rfl) ?_
   refine leS (kq.hp h) ?_
   refine Bn_ltF (by omega) (If_F (Bn_ad (by omega) (by omega) ?_))
   refine ⟨⟨c + 1, K, by omega, rfl, hK, fun c' q' k' i' h1 h2 h3 => hKg c' q' k' i' h1 h2 ?_, h⟩, by show vs.length - ((c : Int) + 1).toNat < vs.length - (c : Int).toNat; omega⟩
   by_cases e : c' = c
   ·subst e
    rw [hq'] at h1
    have := Option.some.inj h1
    subst this
    have := (List.getElem?_eq_some_iff.1 h2).1
    exact .inr ⟨rfl, by omega⟩
   ·exact .inl (by omega)
 have hKi : ∀ i, i < m → ∃ c : Nat, g K i = c ∧ ∃ q, (clsV m l)[c]? = some q ∧ i ∈ q := fun i hi => by
  obtain ⟨c', q, k, h1, h2⟩ := cls_all n6 (v := l) hi
  have := (List.getElem?_eq_some_iff.1 h1).1
  exact ⟨c', hKg c' q k i h1 h2 (by omega), q, h1, List.mem_of_getElem? h2⟩
 have hKa : ∀ i j, i < m → j < m → (g K i = g K j ↔ Alk m l i j) := fun i j hi hj => by
  obtain ⟨ci, e1, qi, h1, m1⟩ := hKi i hi
  obtain ⟨cj, e2, qj, h2, m2⟩ := hKi j hj
  rw [e1, e2, ← cls_same n6 h1 m1 h2 m2]
  omega
 refine leS (huc.hp h) ?_
 refine Bn_ltF (by omega) (If_F ?_)
 clear hKg hq huc hvl hcl hcv hc
 have hB : Tryz.prog.underlying 4 = some .bool := Tryz.underlying4
 refine Lp1.mk (fun x W => ∃ i : Nat, i ≤ m ∧ x = .int .i64 i ∧ Hp [] w1 W [ro tI 1 tv m (K.flatMap fI)]) (fun x _ => match x with | .int _ i' => m - i'.toNat | _ => 0) ⟨0, by omega, rfl, h⟩ ?_
 clear h
 rintro _ W ⟨i, hi, rfl, h⟩
 by_cases him : i < m
 ·
  refine leS (hsh.hp h) ?_
  refine Bn_ltT (by omega) (If_T (Lp1.mk (fun x W => ∃ j : Nat, j ≤ i ∧ x = .int .i64 j ∧ Hp [] w1 W [ro tI 1 tv m (K.flatMap fI)]) (fun x _ => match x with | .int _ i' => i - i'.toNat | _ => 0) ⟨0, by omega, rfl, h⟩ ?_))
  clear h
  rintro _ W ⟨j, hj, rfl, h⟩
  by_cases hji : j < i
  ·refine Bn_ltT (by omega) (If_T (Lp2.mk (fun b x W => ∃ (s : Nat) (bb : Bool), s ≤ p ∧ x = .int .i64 s ∧ b = .bool bb ∧ (bb = false ↔ ∀ t, t < s → t / 2 ^ i % 2 = 0 → t / 2 ^ j % 2 = 0 → g l (t + 2 ^ i) = g l (t + 2 ^ j)) ∧ Hp [] w1 W [ro tI 1 tv m (K.flatMap fI)]) (fun _ x _ => match x with | .int _ i' => p - i'.toNat | _ => 0) ⟨0, false, by omega, rfl, rfl, ⟨fun _ t h => absurd h (Nat.not_lt_zero t), fun _ => rfl⟩, h⟩ ?_))
   clear h
   rintro _ _ W ⟨s, bb, hs, rfl, rfl, hbb, h⟩
   by_cases hsp : s < p
   ·
    have hm' : p - ((s : Int) + 1).toNat < p - (s : Int).toNat := by clear hp hbb; omega
    have d1 : s / 2 ^ i ≤ s := Nat.div_le_self _ _
    have d2 : s / 2 ^ j ≤ s := Nat.div_le_self _ _
    have p63 : (64 : Nat) < 2 ^ 63 := by decide
    have hs1 : s + 1 ≤ p := hsp
    have hs5 : s < 2 ^ m := by rw [hp]; exact hsp
    cases bb
    ·have hall := hbb.1 rfl
     clear hbb
     refine Exists.elim (p := fun q => s / 2 ^ i = q) ⟨_, rfl⟩ fun q1 hq1 => ?_
     refine Exists.elim (p := fun q => s / 2 ^ j = q) ⟨_, rfl⟩ fun q2 hq2 => ?_
     have hq1s : q1 ≤ s := by rw [← hq1]; exact d1
     have hq2s : q2 ≤ s := by rw [← hq2]; exact d2
     clear d1 d2
     have stay : (s / 2 ^ i % 2 = 0 → s / 2 ^ j % 2 = 0 → g l (s + 2 ^ i) = g l (s + 2 ^ j)) → (false = false ↔ ∀ t, t < s + 1 → t / 2 ^ i % 2 = 0 → t / 2 ^ j % 2 = 0 → g l (t + 2 ^ i) = g l (t + 2 ^ j)) := fun hs => ⟨fun _ t ht a c => by
      by_cases e : t = s
      ·subst e; exact hs a c
      ·exact hall t (by omega) a c, fun _ => rfl⟩
     have hN : ∀ q : Nat, ¬ q % 2 = 0 → q % 2 = 1 := fun q h => by omega
     refine leS (hu.hp h) ?_
     refine Bn_ltT (by omega) (If_T (GdP_F (GdP_F (GdP_F ?_))))
     replace h := h.dr
     refine dvBx (fun w K hk => Bn_srA (by omega) hq1 hk) ?_
     refine GdP_F ?_
     by_cases h1 : q1 % 2 = 0
     ·refine dvBx (fun w K hk => rm2 (z := 0) h1 hk) ?_
      refine GdP_F (Dv_eqT (by omega) (GdP_F (GdP_T (GdP_T (GdP_T (dvBx (fun w K hk => Bn_srA (by omega) hq2 hk) ?_))))))
      refine GdP_T ?_
      by_cases h2 : q2 % 2 = 0
      ·refine dvBx (fun w K hk => rm2 (z := 0) h2 hk) ?_
       have o1 := (or_bit n6 (show i < m by omega) hs5 (by rw [hq1]; exact h1)).1
       have o2 := (or_bit n6 (show i < m by omega) hs5 (by rw [hq1]; exact h1)).2
       have o3 := (or_bit n6 (show j < m by omega) hs5 (by rw [hq2]; exact h2)).1
       have o4 := (or_bit n6 (show j < m by omega) hs5 (by rw [hq2]; exact h2)).2
       refine Exists.elim (p := fun q => 2 ^ i = q) ⟨_, rfl⟩ fun p1 hp1 => ?_
       refine Exists.elim (p := fun q => 2 ^ j = q) ⟨_, rfl⟩ fun p2' hp2 => ?_
       rw [hp1, hp] at o2
       rw [hp1] at o1
       rw [hp2, hp] at o4
       rw [hp2] at o3
       have s1 : Seg (l.flatMap fI) ((s + p1) * 1) (fI (g l (s + p1))) := flat_seg (f := fI) (fun _ => rfl) (g_get (by omega))
       have s2 : Seg (l.flatMap fI) ((s + p2') * 1) (fI (g l (s + p2'))) := flat_seg (f := fI) (fun _ => rfl) (g_get (by omega))
       have p1s : p1 ≤ 64 := by omega
       have p2s : p2' ≤ 64 := by omega
       have s64 : s ≤ 64 := by omega
       refine GdP_T (Dv_eqT (by omega) (GdP_F (PickP_T (GdP_F (GdP_T (GdP_T (GdP_T (GdP_T (dvBx (fun w K hk => Bn_slA (j := i) (by omega) hp1 hk) ?_)))))))))
       refine GdP_T (dvBx (v := .int .i64 ((s + p1 : Nat) : Int)) (fun w K hk => Bn_or (a := s) (b := p1) (Nat.lt_of_le_of_lt s64 p63) (Nat.lt_of_le_of_lt p1s p63) (by rw [o1]; exact hk)) ?_)
       refine GdP_T (diH h ‹_› (by omega) fun zb zo zk zv zc => ?_)
       refine GdP_T (dh0 h ‹_› ‹_› (by rfl) ?_)
       refine GdP_T (GdP_T (GdP_T (GdP_T (dvBx (fun w K hk => Bn_slA (j := j) (by omega) hp2 hk) ?_))))
       refine GdP_T (dvBx (v := .int .i64 ((s + p2' : Nat) : Int)) (fun w K hk => Bn_or (a := s) (b := p2') (Nat.lt_of_le_of_lt s64 p63) (Nat.lt_of_le_of_lt p2s p63) (by rw [o3]; exact hk)) ?_)
       by_cases hg : g l (s + p1) = g l (s + p2')
       ·refine GdP_T (diH h ‹_› (by omega) fun zb zo zk zv zc => ?_)
        refine GdP_T (dh0 h ‹_› ‹_› (by rfl) ?_)
        refine GdP_T (Dv_neF (by omega) (GdP_F (PickP_T (PickP_F (Bn_ad (by omega) (by omega) ?_)))))
        exact ⟨⟨s + 1, false, hs1, rfl, rfl, stay fun _ _ => by rw [hp1, hp2]; exact hg, h⟩, hm'⟩
       ·refine GdP_T (diH h ‹_› (by omega) fun zb zo zk zv zc => ?_)
        refine GdP_T (dh0 h ‹_› ‹_› (by rfl) ?_)
        refine GdP_T (Dv_neT (by omega) (GdP_F (PickP_T (PickP_F (Bn_ad (by omega) (by omega) ?_)))))
        refine ⟨⟨s + 1, true, hs1, rfl, rfl, ⟨fun h => (by cases h), fun h => absurd ?_ hg⟩, h⟩, hm'⟩
        rw [← hp1, ← hp2]
        exact h s (Nat.lt_succ_self s) (by rw [hq1]; exact h1) (by rw [hq2]; exact h2)
      ·refine dvBx (fun w K hk => rm2 (z := 1) (hN _ h2) hk) ?_
       refine GdP_T (Dv_eqF (by omega) (GdP_F (PickP_T (GdP_F (GdP_FT (GdP_FT (GdP_FT (GdP_FT (GdP_FT (GdP_FT (GdP_FT (GdP_FT (GdP_FT (GdP_FT (GdP_FT (GdP_FT (GdP_FT (GdP_FT (GdP_FT (GdP_F (PickP_F (PickP_F (Bn_ad (by omega) (by omega) ?_)))))))))))))))))))))))
       exact ⟨⟨s + 1, false, hs1, rfl, rfl, stay fun _ c => absurd (by rw [← hq2]; exact c) h2, h⟩, hm'⟩
     ·refine dvBx (fun w K hk => rm2 (z := 1) (hN _ h1) hk) ?_
      refine GdP_F (Dv_eqF (by omega) (GdP_F (GdP_FT (GdP_FT (GdP_FT (GdP_FT (GdP_FT (GdP_F (PickP_F (GdP_F (GdP_FT (GdP_FT (GdP_FT (GdP_FT (GdP_FT (GdP_FT (GdP_FT (GdP_FT (GdP_FT (GdP_FT (GdP_FT (GdP_FT (GdP_FT (GdP_FT (GdP_FT (GdP_F (PickP_F (PickP_F (Bn_ad (by omega) (by omega) ?_)))))))))))))))))))))))))))))
      exact ⟨⟨s + 1, false, hs1, rfl, rfl, stay fun c _ => absurd (by rw [← hq1]; exact c) h1, h⟩, hm'⟩
    ·refine leS (hu.hp h) ?_
     refine Bn_ltT (by omega) (If_T (GdP_TF (GdP_TF (GdP_TF (GdP_TF (GdP_TF (GdP_TF (GdP_U (GdP_U (GdP_U (GdP_U (GdP_U (GdP_TF (GdP_TF (GdP_U (GdP_U (GdP_U (GdP_U (GdP_U (GdP_U (GdP_U (GdP_U (GdP_U (GdP_U (GdP_U (GdP_U (GdP_U (GdP_U (GdP_U (GdP_TF (PickP_T ?_)))))))))))))))))))))))))))))))
     replace h := h.dr
     refine Bn_ad (by omega) (by omega) ?_
     exact ⟨⟨s + 1, true, hs1, rfl, rfl, ⟨fun h => (by cases h), fun h => hbb.2 fun t ht => h t (Nat.lt_succ_of_lt ht)⟩, h⟩, hm'⟩
   ·
    have hbA : bb = false ↔ Alk m l i j := by
     rw [hbb]
     exact ⟨fun h t ht a b => h t (by omega) a b, fun h t ht a b => h t (by omega) a b⟩
    have sKi : Seg (K.flatMap fI) (i * 1) (fI (g K i)) := flat_seg (f := fI) (fun _ => rfl) (g_get (by omega))
    have sKj : Seg (K.flatMap fI) (j * 1) (fI (g K j)) := flat_seg (f := fI) (fun _ => rfl) (g_get (by omega))
    have hka := hKa i j (by omega) (by omega)
    by_cases hg : g K i = g K j
    ·
     have hb : bb = false := hbA.2 (hka.1 hg)
     subst hb
     clear hbA hbb hka
     refine leS (hu.hp h) ?_
     refine Bn_ltF (by omega) (If_F ?_)
     replace h := h.dr
     refine diR h 0 rfl (by omega) fun zg zk zv => ?_
     refine dr0 h 0 rfl ‹_› sKi (by rfl) ?_
     refine diR h 0 rfl (by omega) fun zg zk zv => ?_
     refine dr0 h 0 rfl ‹_› sKj (by rfl) ?_
     refine Dv_eqT (by omega) (Dv_eqB (d := false) ‹_› (by rfl) ?_)
     refine If_F (Bn_ad (by omega) (by omega) ?_)
     exact ⟨⟨j + 1, by omega, rfl, h⟩, by show i - ((j : Int) + 1).toNat < i - (j : Int).toNat; omega⟩
    ·
     have hb : bb = true := (Bool.eq_false_or_eq_true bb).resolve_right fun e => hg (hka.2 (hbA.1 e))
     subst hb
     clear hbA hbb hka
     refine leS (hu.hp h) ?_
     refine Bn_ltF (by omega) (If_F ?_)
     replace h := h.dr
     refine diR h 0 rfl (by omega) fun zg zk zv => ?_
     refine dr0 h 0 rfl ‹_› sKi (by rfl) ?_
     refine diR h 0 rfl (by omega) fun zg zk zv => ?_
     refine dr0 h 0 rfl ‹_› sKj (by rfl) ?_
     refine Dv_eqF (by omega) (Dv_eqB (d := false) ‹_› (by rfl) ?_)
     refine If_F (Bn_ad (by omega) (by omega) ?_)
     exact ⟨⟨j + 1, by omega, rfl, h⟩, by show i - ((j : Int) + 1).toNat < i - (j : Int).toNat; omega⟩
  ·refine Bn_ltF (by omega) (If_F (Bn_ad (by omega) (by omega) ?_))
   exact ⟨⟨i + 1, by omega, rfl, h⟩, by show m - ((i : Int) + 1).toNat < m - (i : Int).toNat; omega⟩
 clear hKi hKa
 have h := (h.pick [] (by decide) rfl).nil tI 1
 have cc1 : ∀ {W : World}, Ext w1 W → Calls Tryz.prog 23 #[.int .i64 ad, .int .i64 100] W (Ret fun r w' => Ext W w' ∧ r = .int .i64 (a100 : Int)) := fun {W} _ => by
  have := c_lpick (w := W) (c := ad) (n := 100) had (by decide) (by decide)
  rw [ha100.1] at this; exact this
 refine leS (hsh.hp h) ?_
 refine Bn_ltF (by omega) (If_F (cl1 h n_law25_pick (cc1 h.ext) fun w h => ?_))
 refine Bn_su (by omega) (by omega) ?_
 clear cc1
 refine Lp2.mk (fun b i W => ∃ (s : Nat), s ≤ 2 * p ∧ i = .int .i64 s ∧ Hp [] w1 W [ro tI 1 b s (((moreL p l ((a100 : Int) - 20)).take s).flatMap fI)]) (fun _ i _ => match i with | .int _ i' => 2 * p - i'.toNat | _ => 0) ⟨0, by omega, rfl, h⟩ ?_
 clear h
 rintro b _ W ⟨s, hs, rfl, h⟩
 by_cases hs2 : s < 2 * p
 ·
  have em := moreL_at (v := l) (a := (a100 : Int) - 20) hs2
  by_cases hsp : s < p
  ·have sx : Seg (l.flatMap fI) (s * 1) (fI (g l s)) := flat_seg (f := fI) (fun _ => rfl) (g_get (by omega))
   rw [if_pos hsp] at em
   refine leS (hu.hp h) ?_
   refine Bn_mu (by omega) (by omega) (Bn_ltT (by omega) (If_T (leS (hu.hp h) ?_)))
   refine Bn_ltT (by omega) (If_T (iaH h ‹_› (by omega) fun zb zo zk zv zc => ?_))
   refine lh0 h ‹_› ‹_› (by rfl) ?_
   refine bs1A h (by rfl) (by decide) (by rfl) (by decide) fun v1 w h => ?_
   refine apR (by rfl) (by decide) h 1 rfl (qZ 0 h rfl) (by first | rfl | assumption) (by omega) fun v2 w h => ?_
   refine Bn_ad (by omega) (by omega) ?_
   dsimp only [List.set] at h
   refine ⟨⟨s + 1, by omega, rfl, ?_⟩, by show 2 * p - ((s : Int) + 1).toNat < 2 * p - (s : Int).toNat; omega⟩
   rw [take_snoc em, List.flatMap_append]
   exact h.pick [1] (by decide) rfl
  ·have sx : Seg (l.flatMap fI) (((s : Int) - (p : Int)).toNat * 1) (fI (g l (s - p))) := by
    rw [show ((s : Int) - (p : Int)).toNat = s - p by omega]
    exact flat_seg (f := fI) (fun _ => rfl) (g_get (by omega))
   rw [if_neg hsp] at em
   have gl := md_g hlo (show s - p < l.length by omega)
   have gl1 := gl.1
   have gl2 := gl.2
   refine leS (hu.hp h) ?_
   refine Bn_mu (by omega) (by omega) (Bn_ltT (by omega) (If_T (leS (hu.hp h) ?_)))
   refine Bn_ltF (by omega) (If_F (leS (hu.hp h) ?_))
   refine Bn_su (by omega) (by omega) (iaHz h ‹_› (by omega) (by omega) fun zb zo zk zv zc => ?_)
   refine lh0 h ‹_› ‹_› (by rfl) ?_
   refine Bn_ad (by omega) (by omega) (bs1A h (by rfl) (by decide) (by rfl) (by decide) fun v1 w h => ?_)
   refine apR (by rfl) (by decide) h 1 rfl (qZ 0 h rfl) (by first | rfl | assumption) (by omega) fun v2 w h => ?_
   refine Bn_ad (by omega) (by omega) ?_
   dsimp only [List.set] at h
   refine ⟨⟨s + 1, by omega, rfl, ?_⟩, by show 2 * p - ((s : Int) + 1).toNat < 2 * p - (s : Int).toNat; omega⟩
   rw [take_snoc em, List.flatMap_append]
   exact h.pick [1] (by decide) rfl
 ·
  have e : s = 2 * p := by omega
  subst e
  rw [List.take_of_length_le (by rw [moreL_len]; omega)] at h
  refine leS (hu.hp h) ?_
  refine Bn_mu (by omega) (by omega) (Bn_ltF (by omega) (If_F ?_))
  have hml : (moreL p l ((a100 : Int) - 20)).length = 2 ^ (m + 1) := by rw [moreL_len, Nat.pow_succ]; omega
  refine Cl_i n_share_Shapley (c_Shapley (l := moreL p l ((a100 : Int) - 20)) (n := m + 1) (by rw [moreL_len]; exact h.sl (i := 0) rfl) (by omega) hml (more_w hll hlo (by omega) (by omega)) (hT.ext h.ext) (hF.ext h.ext)) ?_
  rintro _ w2 ⟨v2, rfl, h'⟩
  have h := h.cat1 h' ro_sm
  have nw : shr (m + 1) (moreL p l ((a100 : Int) - 20)) m = (((a100 : Int) - 20 : Int) : Rat) / ((1 : Int) : Rat) := by rw [← hp]; exact shr_new (by omega)
  have t1 : Seg (qC (shrs (m + 1) (moreL p l ((a100 : Int) - 20)))) (m * 2) (fO (some ((((a100 : Int) - 20 : Int) : Rat) / ((1 : Int) : Rat)))) := by
   rw [← nw]
   exact flat_seg (f := fun x : Rat => fO (some x)) (fun _ => rfl) (shrs_get (by omega))
  have qe := qe_t ((((a100 : Int) - 20 : Int) : Rat) / ((1 : Int) : Rat))
  have cc1 : ∀ {W : World}, Ext w1 W → Calls Tryz.prog 22 #[.int .i64 ((a100 : Int) - 20), .int .i64 1] W (Ret fun r w' => Ext W w' ∧ r = ov (some ((((a100 : Int) - 20 : Int) : Rat) / ((1 : Int) : Rat)))) := fun {W} e => c_of (hT.ext e) (by unfold I64; omega) (by decide) (by decide)
  refine Ex2 ?_
  replace h := h.dr
  refine Dv_eqT (by omega) (GdP_T (GdP_T (dlS (qZ 0 h rfl) ?_)))
  refine GdP_T (GdP_T (dlS (hsh.hp h) ?_))
  refine GdP_T (Dv_ad (by omega) (by omega) (GdP_T (Dv_eqT (by omega) (PickP_T (GdP_T (GdP_T (GdP_T (dlS (hsh.hp h) ?_))))))))
  refine GdP_T (diR h 0 rfl (by omega) fun zg zk zv => ?_)
  refine GdP_T (drA h 0 rfl ‹_› t1 (by rfl) ?_)
  refine GdP_T (Gd_T (cl1 h n_law25_of (cc1 h.ext) fun w h => ?_))
  refine Kg_T ?_
  refine krA h 0 rfl ‹_› t1 (by rfl) ?_
  refine GdP_T (dqEqT ‹_› ?_)
  refine PickP_T (GdP_T (GdP_T (GdP_T (dlS (hsh.hp h) ?_))))
  refine GdP_T (dscH (qZ 0 h rfl) (by omega) fun v1 p1 => ?_)
  refine GdP_T (Gd_T ?_)
  have hv1 := p1.2 w (qZ 0 h rfl)
  rw [flat_take (f := fun x : Rat => fO (some x)) (fun _ => rfl), ← hp, shrs_more (by omega)] at hv1
  refine Cl_i n_law25_same (c_same (b := true) (xs := shrs m l) (ys := shrs m l) (by rw [shrs_len]; exact hv1) (by rw [shrs_len]; exact hsh.hp h) (by rw [shrs_len]; omega) (by rw [shrs_len]; omega) (by simp)) ?_
  rintro _ w3 ⟨x3, rfl⟩
  refine PickP_T ?_
  exact Ret.mk ⟨x1.tr (h.ext.tr x3), rfl⟩
end
end Go.Proofs.YthjhkpefammjkaaGreatDoor
