/-
  Contracts and plain lemmas. By an AI agent.
-/
import Derived.Test.YthjhkpefammjkaaGreatDoorLShPt
import Derived.Test.YthjhkpefammjkaaGreatDoorShPs
set_option linter.unusedSimpArgs false
set_option linter.unusedVariables false
set_option linter.unusedSectionVars false
namespace Go.Proofs.YthjhkpefammjkaaGreatDoor
open Go Go.Eng Go.Proofs Go.Num Go.RowKit Go.Shr
set_option maxRecDepth 100000
theorem set_qC {l : List Rat} {j : Nat} {y : Rat} (h : j < l.length) : (qC l).take (0 + j * 2) ++ fO (some y) ++ (qC l).drop (0 + j * 2 + (fO (some y)).length) = qC (l.set j y) := by
 rw [Nat.zero_add]
 exact flat_set (f := fun x : Rat => fO (some x)) (fun _ => rfl) l j y h
theorem qC_all (l : List Rat) : ((qC l).all fun x => x.oneCell') = true := by
 rw [List.all_eq_true]
 intro x hx
 obtain ⟨a, _, h⟩ := List.mem_flatMap.1 hx
 rcases List.mem_cons.1 h with h | h
 ·rw [h]; rfl
 ·rw [List.mem_singleton] at h
  rw [h]; rfl
section
variable {w0 : World} {n al ca by_ : Int} {v raw : Value} {xs rs : List Int} (hn : I64 n) (ha : I64 al) (hca : I64 ca) (hby : I64 by_) (hv : SlC w0 1 v xs.length (xs.flatMap fI)) (hl : xs.length ≤ 9223372036854775807) (hx : ∀ x ∈ xs, I64 x)
 (hr : SlC w0 1 raw rs.length (rs.flatMap fI)) (hrl : rs.length ≤ 9223372036854775807) (hT : Tab w0) (hF : FacV w0)
include hn ha hca hby hv hl hx hr hrl hT hF
set_option maxHeartbeats 16000000 in
theorem c_MatchesRef : Calls Tryz.prog 3 #[.int .i64 n, v, .int .i64 al, raw, .int .i64 ca, .int .i64 by_] w0 (Ret fun r w' => Ext w0 w' ∧ r = .bool true) := by
 refine Exists.elim (pk_nat (c := n) (n := 6) (by decide)) fun m hm => ?_
 have hm6 := hm.2
 have cc1 := fun {W : World} (e : Ext w0 W) => c_sane (w0 := W) (hT.ext e) (hF.ext e)
 apply e_law25_ShareMatchesReference
 unfold s_law25_ShareMatchesReference
 have h := Hp.init [] w0
 refine cl1 h n_law25_sane (cc1 h.ext) fun w h => ?_
 refine Un_T (If_F ?_)
 replace h := h.dr
 refine dlS (hr.hp h) ?_
 refine Dv_min (dscHz (hr.hp h) (by first | omega | decide) (by first | omega | decide) fun v1 p1 => ?_)
 have hvr := p1
 clear p1
 refine Cl_i n_ref25_Made (c_Made hn ha (hv.ext h.ext) hl hx hm.1) ?_
 rintro u w1 ⟨_, rfl, l, hll, hlo, h'⟩
 have x1 := (h.x h'.ext).ext
 have hu : SlC w1 1 u l.length (l.flatMap fI) := by rw [hll]; exact h'.sl (i := 0) rfl
 have p2 : 2 ^ m ≤ 32 := Nat.pow_le_pow_right (n := 2) (by decide) (show m ≤ 5 by omega)
 have hvr := hvr.2 w1 (hr.ext x1)
 rw [flat_take (f := fI) (fun _ => rfl)] at hvr
 refine Exists.elim (p := fun L => rs.take (min (rs.length : Int) 65).toNat = L) ⟨_, rfl⟩ fun L hL => ?_
 have hLl : L.length = (min (rs.length : Int) 65).toNat := by rw [← hL, List.length_take]; omega
 rw [hL, ← hLl] at hvr
 have hLl : L.length ≤ 65 := by omega
 have hT := hT.ext x1
 have hF := hF.ext x1
 clear cc1 h h' hL hr hv
 have h := Hp.init [] w1
 have hB : Tryz.prog.underlying 4 = some .bool := Tryz.underlying4
 have hu1 := (slc_c1 hu).1
 have hvr1 := (slc_c1 hvr).1
 refine bsN (vs := [_, _]) h (.cons (by first | assumption) (by rfl) (.cons (by first | assumption) (by rfl) .nil)) (by rfl) (by rfl) (by decide) (by decide) (by decide) fun v2 w h => ?_
 refine dlS (qZ 0 h rfl) ?_
 refine Lp1.mk (fun i W => ∃ j : Nat, j ≤ 2 ∧ i = .int .i64 j ∧ Hp [] w1 W [ro 22 1 v2 2 [u, v1]]) (fun i _ => match i with | .int _ i' => 2 - i'.toNat | _ => 0) ⟨0, by omega, rfl, h⟩ ?_
 clear h
 rintro _ W ⟨j, hj, rfl, h⟩
 by_cases hj2 : j < 2
 ·refine Exists.elim (p := fun t : Value × List Int => [u, v1][j]? = some t.1 ∧ SlC w1 1 t.1 t.2.length (t.2.flatMap fI) ∧ t.2.length ≤ 65) (by
   rcases (show j = 0 ∨ j = 1 by omega) with rfl | rfl
   ·exact ⟨(u, l), rfl, hu, by show l.length ≤ 65; rw [hll]; omega⟩
   ·exact ⟨(v1, L), rfl, hvr, hLl⟩) fun t ht => ?_
  obtain ⟨y, q⟩ := t
  obtain ⟨hy, hq, hq65⟩ := ht
  have hy : [u, v1][j]? = some y := hy
  have hq : SlC w1 1 y q.length (q.flatMap fI) := hq
  have hq65 : q.length ≤ 65 := hq65
  have sy : Seg [u, v1] (j * 1) [y] := seg_one hy
  clear hu hvr hu1 hvr1
  by_cases hok : ∃ k, VOk k q
  ·refine Exists.elim hok fun k hk => ?_
   obtain ⟨hk6, hqk, hqw⟩ := hk
   have hsl := shrs_len k q
   have hcl := cls_len k q
   have cr1 : ∀ {W : World}, Ext w1 W → Calls Tryz.prog 13 #[y] W (Ret fun r w' => ∃ u, r = .tuple #[u, .int .i64 0] ∧ Hp [] W w' [ro tR 2 u k (qC (shrs k q))]) := fun {W} e => c_Shapley (hq.ext e) hk6 hqk hqw (hT.ext e) (hF.ext e)
   have cr2 : ∀ {W : World}, Ext w1 W → Calls Tryz.prog 14 #[y] W (Ret fun r w' => ∃ u, r = .tuple #[u, .int .i64 0] ∧ Hp [] W w' [ro tR 2 u k (qC (shrs k q))]) := fun {W} e => c_fShapley (hq.ext e) hk6 hqk hqw
   have cc1 : ∀ {W : World}, Ext w1 W → ∀ {a b : Value}, SlC W 2 a k (qC (shrs k q)) → SlC W 2 b k (qC (shrs k q)) → Calls Tryz.prog 19 #[a, b] W (Ret fun r w' => Ext W w' ∧ r = .bool true) := fun {W} e {a b} h1 h2 =>
    c_same (xs := shrs k q) (ys := shrs k q) (by rw [hsl]; exact h1) (by rw [hsl]; exact h2) (by omega) (by omega) (by simp)
   have cc2 : ∀ {W : World}, Ext w1 W → ∀ {a b : Value}, SlC W 1 a (clsV k q).length (((clsV k q).map List.length).flatMap fN) → SlC W 1 b (clsV k q).length (((clsV k q).map List.length).flatMap fN) → Calls Tryz.prog 21 #[a, b] W (Ret fun r w' => Ext W w' ∧ r = .bool true) := fun {W} e {a b} h1 h2 =>
    c_ints (xs := ((clsV k q).map List.length).map fun (x : Nat) => (x : Int)) (ys := ((clsV k q).map List.length).map fun (x : Nat) => (x : Int)) (by rw [← fN_cast, List.length_map, List.length_map]; exact h1) (by rw [← fN_cast, List.length_map, List.length_map]; exact h2) (by rw [List.length_map, List.length_map]; omega) (by rw [List.length_map, List.length_map]; omega) (by simp)
   have hrd : (redV (clsV k q) q).length ≤ 64 := by rw [redV_len]; exact cls_cnt hk6 q
   have cc3 : ∀ {W : World}, Ext w1 W → ∀ {a b : Value}, SlC W 1 a (redV (clsV k q) q).length ((redV (clsV k q) q).flatMap fI) → SlC W 1 b (redV (clsV k q) q).length ((redV (clsV k q) q).flatMap fI) → Calls Tryz.prog 21 #[a, b] W (Ret fun r w' => Ext W w' ∧ r = .bool true) := fun {W} e {a b} h1 h2 =>
    c_ints (xs := redV (clsV k q) q) (ys := redV (clsV k q) q) h1 h2 (by omega) (by omega) (by simp)
   have hel : ∀ x ∈ clsV k q, x.length ≤ 1000 := fun x hx => by have := (cls_each hx).2; omega
   refine Bn_ltT (by omega) (If_T (iaR h 0 rfl (by omega) fun zg zk zv => ?_))
   refine lr0 h 0 rfl ‹_› sy (by rfl) ?_
   refine clR h n_share_Shapley (cr1 h.ext) fun v3 w h => ?_
   refine Ex2 (clR h n_ref25_Shapley (cr2 h.ext) fun v4 w h => ?_)
   refine Ex2 (Cl_i n_share_Classes (c_Classes (hq.ext h.ext) hk6 hqk hqw) ?_)
   rintro _ w ⟨u1, vs1, kz1, rfl, h'⟩
   have h := h.cat2 h' ro_sm sls_sm
   refine Ex2 (Cl_i n_ref25_Classes (c_fClasses (hq.ext h.ext) hk6 hqk hqw) ?_)
   rintro _ w ⟨u2, vs2, kz2, rfl, h'⟩
   have h := h.cat2 h' ro_sm sls_sm
   refine Ex2 (Cl_i n_share_Reduce (c_Reduce (hq.ext h.ext) hk6 hqk hqw) ?_)
   rintro _ w ⟨a1, b1, rfl, h'⟩
   have h := h.cat2 h' ro_sm ro_sm
   refine Ex3 (Cl_i n_ref25_Reduce (c_fReduce (hq.ext h.ext) hk6 hqk hqw) ?_)
   rintro _ w ⟨a2, b2, rfl, h'⟩
   have h := h.cat2 h' ro_sm ro_sm
   clear h'
   refine Ex3 (Bn_neF (by omega) (Gd_F (Gd_F (Gd_F (Bn_neF (by omega) (Pick_F (Gd_F (Gd_F (Gd_F (Bn_neF (by omega) (Pick_F (Gd_F (Gd_F (Gd_F (cl1 h n_law25_same (cc1 h.ext (by first | exact (qZ 9 h rfl) | assumption) (by first | exact (qZ 8 h rfl) | assumption)) fun w h => ?_)))))))))))))))
   refine Gd_F (Un_T (Pick_F (Gd_F (Gd_F (Gd_F (Cl_i n_law25_sets (c_sets (vs := vs1) (vs' := vs2) (ls := clsV k q) (ls' := clsV k q) (qZ 6 h rfl) (qZ 4 h rfl) (sls_k (h.get (i := 7) rfl)) (sls_k (h.get (i := 5) rfl)) (by omega) (by omega) hel hel (b := true) (by simp)) ?_))))))
   rintro _ w ⟨x, rfl⟩
   have h := h.x x
   refine Gd_F (Un_T (Pick_F (Gd_F (Gd_F (Gd_F (cl1 h n_law25_ints (cc2 h.ext (by first | exact (qZ 3 h rfl) | assumption) (by first | exact (qZ 1 h rfl) | assumption)) fun w h => ?_))))))
   refine Gd_F (Un_T (Pick_F (Gd_F (Gd_F (Gd_F (cl1 h n_law25_ints (cc3 h.ext (by first | exact (qZ 2 h rfl) | assumption) (by first | exact (qZ 0 h rfl) | assumption)) fun w h => ?_))))))
   refine Gd_F (Un_T (Pick_F (If_F (bs0 h fun v5 w h => ?_))))
   have h := h.pick [0, 9, 11] (by decide) rfl
   clear cr1 cr2 cc1 cc2 cc3
   refine apR (by rfl) (by decide) h 0 rfl (qZ 1 h rfl) (qC_all _) (by omega) fun v6 w h => ?_
   have h : Hp [] w1 w [ro tR 2 v6 k (qC (shrs k q)), ro tR 2 v4 k (qC (shrs k q)), ro 22 1 v2 2 [u, v1]] := h.cst (by simp)
   refine Jn0.cut (fun W => ∃ ys : List Rat, ys.length = k ∧ Hp [] w1 W [ro tR 2 v6 k (qC ys), ro tR 2 v4 k (qC (shrs k q)), ro 22 1 v2 2 [u, v1]]) ?_ ?_
   ·clear h
    rintro w ⟨ys, hys, h⟩
    refine bsN (vs := [_, _, _]) h (.cons (by first | assumption | exact qY 0 h rfl | exact qY 1 h rfl | exact qY 2 h rfl) (by rfl) (.cons (by first | assumption | exact qY 0 h rfl | exact qY 1 h rfl | exact qY 2 h rfl) (by rfl) (.cons (by rfl) (by rfl) .nil))) (by rfl) (by rfl) (by decide) (by decide) (by decide) fun v7 w h => ?_
    refine leS (qZ 0 h rfl) ?_
    refine Lp1.mk (fun i W => ∃ j' : Nat, j' ≤ 3 ∧ i = .int .i64 j' ∧ Hp [] w1 W [ro 26 1 v7 3 [v4, v6, .slice none 0 0], ro tR 2 v6 k (qC ys), ro tR 2 v4 k (qC (shrs k q)), ro 22 1 v2 2 [u, v1]]) (fun i _ => match i with | .int _ i' => 3 - i'.toNat | _ => 0) ⟨0, by omega, rfl, h⟩ ?_
    clear h
    rintro _ W ⟨j', hj', rfl, h⟩
    by_cases hj3 : j' < 3
    ·refine Exists.elim (p := fun t : Value × List Rat => [v4, v6, Value.slice none 0 0][j']? = some t.1 ∧ SlC W 2 t.1 t.2.length (qC t.2) ∧ t.2.length ≤ 6) (by
      rcases (show j' = 0 ∨ j' = 1 ∨ j' = 2 by omega) with rfl | rfl | rfl
      ·exact ⟨(v4, shrs k q), rfl, by show SlC W 2 v4 (shrs k q).length _; rw [hsl]; exact h.sl (i := 2) rfl, by show (shrs k q).length ≤ 6; omega⟩
      ·exact ⟨(v6, ys), rfl, by show SlC W 2 v6 ys.length _; rw [hys]; exact h.sl (i := 1) rfl, by show ys.length ≤ 6; omega⟩
      ·exact ⟨(.slice none 0 0, []), rfl, ⟨rfl, .inl ⟨rfl, rfl⟩⟩, by show 0 ≤ 6; omega⟩) fun t ht => ?_
     obtain ⟨yv, yl⟩ := t
     obtain ⟨t1, t2, t3⟩ := ht
     have t1 : [v4, v6, Value.slice none 0 0][j']? = some yv := t1
     have t2 : SlC W 2 yv yl.length (qC yl) := t2
     have t3 : yl.length ≤ 6 := t3
     have syv : Seg [v4, v6, Value.slice none 0 0] (j' * 1) [yv] := seg_one t1
     have xW := h.ext
     have fin : ∀ {W2 : World}, Hp [] W W2 [] → Hp [] w1 W2 [ro 26 1 v7 3 [v4, v6, .slice none 0 0], ro tR 2 v6 k (qC ys), ro tR 2 v4 k (qC (shrs k q)), ro 22 1 v2 2 [u, v1]] := fun hh => h.x hh.ext
     by_cases hb : shrs k q = yl
     ·have cc1 := fun {W2 : World} (e : Ext w1 W2) (e2 : Ext W W2) => c_Check (w0 := W2) (hq.ext e) (by omega) hk6 hqk hqw (hT.ext e) (hF.ext e) (t2.ext e2) (by omega) (b := true) (by simpa using hb)
      have cc2 := fun {W2 : World} (e : Ext w1 W2) (e2 : Ext W W2) => c_fCheck (w0 := W2) (hq.ext e) hk6 hqk hqw (t2.ext e2) (by omega) (b := true) (by simpa using hb)
      refine Bn_ltT (by omega) (If_T (iaR h 0 rfl (by omega) fun zg zk zv => ?_))
      refine lr0 h 0 rfl ‹_› syv (by rfl) ?_
      refine Cl_i n_share_Check (cc1 h.ext (.refl _)) ?_
      rintro _ w ⟨x2, rfl⟩
      have h := h.x x2
      refine Cl_i n_ref25_Check (cc2 h.ext x2) ?_
      rintro _ w ⟨x3, rfl⟩
      have h := h.x x3
      refine Bn_neB (d := false) ‹_› (by rfl) ?_
      refine If_F (Bn_ad (by omega) (by omega) ?_)
      exact ⟨⟨j' + 1, by omega, rfl, h⟩, by show 3 - ((j' : Int) + 1).toNat < 3 - (j' : Int).toNat; omega⟩
     ·have cc1 := fun {W2 : World} (e : Ext w1 W2) (e2 : Ext W W2) => c_Check (w0 := W2) (hq.ext e) (by omega) hk6 hqk hqw (hT.ext e) (hF.ext e) (t2.ext e2) (by omega) (b := false) ⟨fun h => (by cases h), fun h => absurd h hb⟩
      have cc2 := fun {W2 : World} (e : Ext w1 W2) (e2 : Ext W W2) => c_fCheck (w0 := W2) (hq.ext e) hk6 hqk hqw (t2.ext e2) (by omega) (b := false) ⟨fun h => (by cases h), fun h => absurd h hb⟩
      refine Bn_ltT (by omega) (If_T (iaR h 0 rfl (by omega) fun zg zk zv => ?_))
      refine lr0 h 0 rfl ‹_› syv (by rfl) ?_
      refine Cl_i n_share_Check (cc1 h.ext (.refl _)) ?_
      rintro _ w ⟨x2, rfl⟩
      have h := h.x x2
      refine Cl_i n_ref25_Check (cc2 h.ext x2) ?_
      rintro _ w ⟨x3, rfl⟩
      have h := h.x x3
      refine Bn_neB (d := false) ‹_› (by rfl) ?_
      refine If_F (Bn_ad (by omega) (by omega) ?_)
      exact ⟨⟨j' + 1, by omega, rfl, h⟩, by show 3 - ((j' : Int) + 1).toNat < 3 - (j' : Int).toNat; omega⟩
    ·refine Bn_ltF (by omega) (If_F (Bn_ad (by omega) (by omega) ?_))
     exact ⟨⟨j + 1, by omega, rfl, h.pick [3] (by decide) rfl⟩, by show 2 - ((j : Int) + 1).toNat < 2 - (j : Int).toNat; omega⟩
   ·intro K lf
    by_cases hk0 : k = 0
    ·refine leS (qZ 0 h rfl) ?_
     refine Bn_gtF (by omega) (If_F ?_)
     exact lf _ ⟨shrs k q, hsl, h⟩
    ·refine Exists.elim (pk_nat (c := ca) (n := (k : Int)) (by omega)) fun kk hkk => ?_
     refine Exists.elim (pk_nat (c := by_) (n := 40) (by decide)) fun q1 hq1 => ?_
     refine Exists.elim (pk_nat (c := by_.tdiv 40) (n := 6) (by decide)) fun q2 hq2 => ?_
     have hkk2 := hkk.2
     have hq12 := hq1.2
     have hq22 := hq2.2
     have tb := tdiv_bd hby.1 hby.2 (show (0 : Int) < 40 by decide)
     have cc1 : ∀ {W : World}, Ext w1 W → Calls Tryz.prog 23 #[.int .i64 ca, .int .i64 (k : Int)] W (Ret fun r w' => Ext W w' ∧ r = .int .i64 (kk : Int)) := fun {W} _ => by
      have := c_lpick (w := W) (c := ca) (n := (k : Int)) hca (by omega) (by omega)
      rw [hkk.1] at this; exact this
     have cc2 : ∀ {W : World}, Ext w1 W → Calls Tryz.prog 23 #[.int .i64 by_, .int .i64 40] W (Ret fun r w' => Ext W w' ∧ r = .int .i64 (q1 : Int)) := fun {W} _ => by
      have := c_lpick (w := W) (c := by_) (n := 40) hby (by decide) (by decide)
      rw [hq1.1] at this; exact this
     have cc3 : ∀ {W : World}, Ext w1 W → Calls Tryz.prog 23 #[.int .i64 (by_.tdiv 40), .int .i64 6] W (Ret fun r w' => Ext W w' ∧ r = .int .i64 (q2 : Int)) := fun {W} _ => by
      have := c_lpick (w := W) (c := by_.tdiv 40) (n := 6) ⟨tb.1, tb.2⟩ (by decide) (by decide)
      rw [hq2.1] at this; exact this
     have cc4 := fun {W : World} (e : Ext w1 W) => c_of (w := W) (n := (q1 : Int)) (d := 1 + (q2 : Int)) (hT.ext e) ⟨by omega, by omega⟩ ⟨by omega, by omega⟩ (by omega)
     obtain ⟨hby1, hby2⟩ := hby
     refine leS (qZ 0 h rfl) ?_
     refine Bn_gtT (by omega) (If_T (leS (qZ 0 h rfl) ?_))
     refine cl1 h n_law25_pick (cc1 h.ext) fun w h => ?_
     refine cl1 h n_law25_pick (cc2 h.ext) fun w h => ?_
     refine Bn_qt (by omega) (by omega) (by omega) (cl1 h n_law25_pick (cc3 h.ext) fun w h => ?_)
     refine Bn_ad (by omega) (by omega) (cl1 h n_law25_of (cc4 h.ext) fun w h => ?_)
     refine iaR h 0 rfl (by omega) fun zg zk zv => ?_
     refine stRA h 0 rfl ‹_› (by rfl) (by rfl) (by simp only [List.length_cons, List.length_nil]; omega) fun w h => ?_
     dsimp only [List.set] at h
     refine lf _ ⟨(shrs k q).set kk ((((q1 : Nat) : Int) : Rat) / (((1 : Int) + (q2 : Nat) : Int) : Rat)), by rw [List.length_set]; exact hsl, ?_⟩
     rw [← set_qC (by omega)]
     exact h
  ·have hnil : ∀ {W : World} {c : Nat}, SlC W c (.slice none 0 0) 0 [] := ⟨by simp, .inl ⟨rfl, rfl⟩⟩
   have cc1 := fun {W : World} (e : Ext w1 W) => c_ShapleyE (w0 := W) (hq.ext e) (by omega) hok
   have cc2 := fun {W : World} (e : Ext w1 W) => c_fShapleyE (w0 := W) (hq.ext e) (by omega) hok
   have cc3 := fun {W : World} (e : Ext w1 W) => c_ClassesE (w0 := W) (hq.ext e) (by omega) hok
   have cc4 := fun {W : World} (e : Ext w1 W) => c_fClassesE (w0 := W) (hq.ext e) (by omega) hok
   have cc5 := fun {W : World} (e : Ext w1 W) => c_ReduceE (w0 := W) (hq.ext e) (by omega) hok
   have cc6 := fun {W : World} (e : Ext w1 W) => c_fReduceE (w0 := W) (hq.ext e) (by omega) hok
   have cc7 : ∀ {W : World}, Ext w1 W → Calls Tryz.prog 19 #[.slice none 0 0, .slice none 0 0] W (Ret fun r w' => Ext W w' ∧ r = .bool true) := fun {W} e => c_same (xs := []) (ys := []) hnil hnil (by decide) (by decide) (by simp)
   have cc8 : ∀ {W : World}, Ext w1 W → Calls Tryz.prog 20 #[.slice none 0 0, .slice none 0 0] W (Ret fun r w' => Ext W w' ∧ r = .bool true) := fun {W} e => c_sets (vs := []) (vs' := []) (ls := []) (ls' := []) hnil hnil ⟨rfl, by simp⟩ ⟨rfl, by simp⟩ (by decide) (by decide) (by simp) (by simp) (by simp)
   have cc9 : ∀ {W : World}, Ext w1 W → Calls Tryz.prog 21 #[.slice none 0 0, .slice none 0 0] W (Ret fun r w' => Ext W w' ∧ r = .bool true) := fun {W} e => c_ints (xs := []) (ys := []) hnil hnil (by decide) (by decide) (by simp)
   have cc10 := fun {W : World} (e : Ext w1 W) {u : Value} => c_CheckE (w0 := W) (hq.ext e) (by omega) hok (u := u)
   have cc11 := fun {W : World} (e : Ext w1 W) {u : Value} => c_fCheckE (w0 := W) (hq.ext e) (by omega) hok (u := u)
   refine Bn_ltT (by omega) (If_T (iaR h 0 rfl (by omega) fun zg zk zv => ?_))
   refine lr0 h 0 rfl ‹_› sy (by rfl) ?_
   refine cl1 h n_share_Shapley (cc1 h.ext) fun w h => ?_
   refine Ex2 (cl1 h n_ref25_Shapley (cc2 h.ext) fun w h => ?_)
   refine Ex2 (cl1 h n_share_Classes (cc3 h.ext) fun w h => ?_)
   refine Ex2 (cl1 h n_ref25_Classes (cc4 h.ext) fun w h => ?_)
   refine Ex2 (cl1 h n_share_Reduce (cc5 h.ext) fun w h => ?_)
   refine Ex3 (cl1 h n_ref25_Reduce (cc6 h.ext) fun w h => ?_)
   refine Ex3 (Bn_neF (by omega) (Gd_F (Gd_F (Gd_F (Bn_neF (by omega) (Pick_F (Gd_F (Gd_F (Gd_F (Bn_neF (by omega) (Pick_F (Gd_F (Gd_F (Gd_F (cl1 h n_law25_same (cc7 h.ext) fun w h => ?_)))))))))))))))
   refine Gd_F (Un_T (Pick_F (Gd_F (Gd_F (Gd_F (cl1 h n_law25_sets (cc8 h.ext) fun w h => ?_))))))
   refine Gd_F (Un_T (Pick_F (Gd_F (Gd_F (Gd_F (cl1 h n_law25_ints (cc9 h.ext) fun w h => ?_))))))
   refine Gd_F (Un_T (Pick_F (Gd_F (Gd_F (Gd_F (cl1 h n_law25_ints (cc9 h.ext) fun w h => ?_))))))
   refine Gd_F (Un_T (Pick_F (If_F (bs0 h fun v3 w h => ?_))))
   refine apR (by rfl) (by decide) h 0 rfl (hnil (c := 2)) (by rfl) (by decide) fun v4 w h => ?_
   refine Jn0.mk fun K lf => ?_
   refine leS (qZ 0 h rfl) ?_
   refine Bn_gtF (by omega) (If_F ?_)
   dsimp only [List.set] at h
   refine lf _ ?_
   clear lf cc1 cc2 cc3 cc4 cc5 cc6 cc7 cc8 cc9
   refine bsN (vs := [_, _, _]) h (.cons (by rfl) (by rfl) (.cons (by first | assumption | exact qY 0 h rfl | exact qY 1 h rfl) (by rfl) (.cons (by rfl) (by rfl) .nil))) (by rfl) (by rfl) (by decide) (by decide) (by decide) fun v5 w h => ?_
   refine leS (qZ 0 h rfl) ?_
   have h := h.pick [0, 2] (by decide) rfl
   refine Lp1.mk (fun i W => ∃ j' : Nat, j' ≤ 3 ∧ i = .int .i64 j' ∧ Hp [] w1 W [ro 26 1 v5 3 [.slice none 0 0, v4, .slice none 0 0], ro 22 1 v2 2 [u, v1]]) (fun i _ => match i with | .int _ i' => 3 - i'.toNat | _ => 0) ⟨0, by omega, rfl, h⟩ ?_
   clear h
   rintro _ W ⟨j', hj', rfl, h⟩
   by_cases hj3 : j' < 3
   ·refine Exists.elim (p := fun t : Value => [Value.slice none 0 0, v4, Value.slice none 0 0][j']? = some t) ⟨_, List.getElem?_eq_getElem hj3⟩ fun yv t1 => ?_
    have syv : Seg [Value.slice none 0 0, v4, Value.slice none 0 0] (j' * 1) [yv] := seg_one t1
    refine Bn_ltT (by omega) (If_T (iaR h 0 rfl (by omega) fun zg zk zv => ?_))
    refine lr0 h 0 rfl ‹_› syv (by rfl) ?_
    refine cl1 h n_share_Check (cc10 h.ext) fun w h => ?_
    refine cl1 h n_ref25_Check (cc11 h.ext) fun w h => ?_
    refine Bn_neB (d := false) ‹_› (by rfl) ?_
    refine If_F (Bn_ad (by omega) (by omega) ?_)
    exact ⟨⟨j' + 1, by omega, rfl, h⟩, by show 3 - ((j' : Int) + 1).toNat < 3 - (j' : Int).toNat; omega⟩
   ·refine Bn_ltF (by omega) (If_F (Bn_ad (by omega) (by omega) ?_))
    exact ⟨⟨j + 1, by omega, rfl, h.pick [1] (by decide) rfl⟩, by show 2 - ((j : Int) + 1).toNat < 2 - (j : Int).toNat; omega⟩
 ·refine Bn_ltF (by omega) (If_F ?_)
  exact Ret.mk ⟨x1.tr h.ext, rfl⟩
end
end Go.Proofs.YthjhkpefammjkaaGreatDoor
