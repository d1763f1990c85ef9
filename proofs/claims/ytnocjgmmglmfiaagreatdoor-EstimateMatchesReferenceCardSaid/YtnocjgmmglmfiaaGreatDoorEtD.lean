/-
  Contracts and plain lemmas. By an AI agent.
-/
import Derived.Test.YtnocjgmmglmfiaaGreatDoorLEtD
import Derived.Test.YtnocjgmmglmfiaaGreatDoorEsX
set_option linter.unusedSimpArgs false
set_option linter.unusedVariables false
set_option linter.unusedSectionVars false
namespace Go.Proofs.YtnocjgmmglmfiaaGreatDoor
open Go Go.Eng Go.Proofs Go.Num Go.RowKit
set_option maxRecDepth 100000
set_option linter.unusedVariables false
set_option linter.unusedSectionVars false
def cutR (p : RS) : RS := (p.1.take 40, p.2.take 40)
theorem cutR_ok (p : RS) : (cutR p).1.length ≤ 1000000 ∧ (cutR p).2.length ≤ 1000000 := by
  unfold cutR; simp only [List.length_take]; omega
theorem rs_map (l : List RS) : RSok (l.map cutR) := fun p hp => by
  obtain ⟨a, _, rfl⟩ := List.mem_map.1 hp
  exact cutR_ok a
theorem cut_snoc {l : List RS} {j : Nat} {a : RS} (h : l[j]? = some a) : (l.take (j + 1)).map cutR = (l.take j).map cutR ++ [cutR a] := by
  rw [take_snoc h, List.map_append]; rfl
set_option maxHeartbeats 4000000 in
theorem c_short {w0 : World} {v : Value} {l : List RS} (hv : SlR w0 v l) (hk : ∀ a ∈ l, a.1.length ≤ maxLen ∧ a.2.length ≤ maxLen) (hl : l.length ≤ 9223372036854775807) :
    Calls Tryz.prog 13 #[v] w0 (Ret fun r w' => Hp [] w0 w' [ro tR 2 r ((l.take 12).map cutR).length (((l.take 12).map cutR).flatMap fR)]) := by
  have hv : SlC w0 2 v l.length (l.flatMap fR) := hv
  apply e_law16_short
  unfold s_law16_short
  have h := Hp.init [] w0
  have h := h.nil tR 2
  refine Lp2.mk (fun u i W => ∃ j : Nat, j ≤ l.length ∧ j ≤ 12 ∧ i = .int .i64 j ∧ Hp [] w0 W [ro tR 2 u j (((l.take j).map cutR).flatMap fR)])
    (fun _ i _ => match i with | .int _ i' => l.length - i'.toNat | _ => 0) ⟨0, by omega, by omega, rfl, h⟩ ?_
  clear h
  rintro u _ W ⟨j, hj, hj12, rfl, h⟩
  by_cases hjl : j < l.length ∧ j < 12
  rotate_left
  · have hmd : (l.take j).map cutR = (l.take 12).map cutR := by
      by_cases hc : j < l.length
      · rw [show j = 12 by omega]
      · rw [List.take_of_length_le (by omega), List.take_of_length_le (by omega)]
    have hml : j = ((l.take 12).map cutR).length := by rw [List.length_map, List.length_take]; omega
    have hjl' : ¬ ((j : Int) < (l.length : Int) ∧ (j : Int) < 12) := by omega
    rw [hmd] at h
    refine leS (hv.hp h) ?_
    refine Lt2F hjl' ?_
    refine If_F ?_
    exact Ret.mk (hml ▸ h)
  have hj1 := hjl.1
  have hj2 := hjl.2
  refine Exists.elim (p := fun a => l[j]? = some a) ⟨_, List.getElem?_eq_getElem hj1⟩ fun a ha => ?_
  have sa : Seg (l.flatMap fR) (j * 2) (fR a) := flat_seg (f := fR) (fun _ => rfl) ha
  have k1 := (hk a (List.mem_of_getElem? ha)).1
  have k2 := (hk a (List.mem_of_getElem? ha)).2
  have hsn := cut_snoc ha
  have e1 : a.1.take (min (a.1.length : Int) 40).toNat = a.1.take 40 := take_min (k := 40)
  have e2 : a.2.take (min (a.2.length : Int) 40).toNat = a.2.take 40 := take_min (k := 40)
  refine leS (hv.hp h) ?_
  refine Bn_ltT (by omega) ?_
  iterate 2 refine Gd_T ?_
  refine Bn_ltT (by omega) ?_
  refine Pick_T ?_
  refine If_T ?_
  replace h := h.dr
  refine diH h (by assumption) (by omega) fun zb zo zk zv zc => ?_
  refine dfS ?_
  refine dh1 h (by assumption) (by assumption) (by rfl) ?_
  refine diH h (by assumption) (by omega) fun zb zo zk zv zc => ?_
  refine dfS ?_
  refine dh1 h (by assumption) (by assumption) (by rfl) ?_
  refine Dv_lenT ?_
  refine Dv_min ?_
  refine Dv_tH (by omega) (by omega) ?_
  refine diH h (by assumption) (by omega) fun zb zo zk zv zc => ?_
  refine dfS ?_
  refine dh1 h (by assumption) (by assumption) (by rfl) ?_
  refine diH h (by assumption) (by omega) fun zb zo zk zv zc => ?_
  refine dfS ?_
  refine dh1 h (by assumption) (by assumption) (by rfl) ?_
  refine Dv_lenT ?_
  refine Dv_min ?_
  refine Dv_tH (by omega) (by omega) ?_
  refine dbS (PC.cons (by rfl) (PC.cons (by rfl) PC.nil)) (by rfl) ?_
  refine bs1A h (by rfl) (by decide) (by rfl) (by decide) fun v1 w h => ?_
  refine apR (by rfl) (by decide) h 1 rfl (h.sl (i := 0) rfl) (by first | rfl | assumption) (by omega) fun v2 w h => ?_
  refine Bn_ad (by omega) (by omega) ?_
  dsimp only [List.set] at h
  refine ⟨⟨j + 1, by omega, by omega, rfl, ?_⟩, by show l.length - ((j : Int) + 1).toNat < l.length - (j : Int).toNat; omega⟩
  rw [hsn, List.flatMap_append]
  rw [e1, e2] at h
  exact h.drop 1
theorem tot_ex (o : Option (Rat × Rat)) : ∃ a b z, totV o = .tuple #[ov a, ov b, .int .i64 z] ∧ -1000 < z ∧ z < 1000 := by
  rcases o with _ | ⟨a, b⟩
  · exact ⟨none, none, 160, rfl, by decide, by decide⟩
  · exact ⟨some a, some b, 0, rfl, by decide, by decide⟩
theorem var_ex (o : Option Rat) : ∃ a z, varV o = .tuple #[ov a, .int .i64 z] ∧ -1000 < z ∧ z < 1000 := by
  rcases o with _ | a
  · exact ⟨none, 160, rfl, by decide, by decide⟩
  · exact ⟨some a, 0, rfl, by decide, by decide⟩
theorem exp_ex (o : Option (Rat × Rat × Rat)) : ∃ a b c z, expV o = .tuple #[ov a, ov b, ov c, .int .i64 z] ∧ -1000 < z ∧ z < 1000 := by
  rcases o with _ | ⟨a, b, c⟩
  · exact ⟨none, none, none, 160, rfl, by decide, by decide⟩
  · exact ⟨some a, some b, some c, 0, rfl, by decide, by decide⟩
theorem four {α : Type} {P : α → Prop} {a b c d : α} (ha : P a) (hb : P b) (hc : P c) (hd : P d) {j : Nat} (hj : j < 4) : ∃ x, [a, b, c, d][j]? = some x ∧ P x := by
  rcases j with _ | _ | _ | _ | j
  · exact ⟨a, rfl, ha⟩
  · exact ⟨b, rfl, hb⟩
  · exact ⟨c, rfl, hc⟩
  · exact ⟨d, rfl, hd⟩
  · omega
theorem slc_cell1 {w : World} {c n : Nat} {v : Value} {xs : List Value} (h : SlC w c v n xs) : v.cells = [v].toArray ∧ v.oneCell' = true := by
  obtain ⟨a, l, m, rfl, _⟩ := h.key
  exact ⟨rfl, rfl⟩
theorem seg_one {xs : List Value} {j : Nat} {v : Value} (h : xs[j]? = some v) : Seg xs (j * 1) [v] := fun k u hk => by
  rcases k with _ | k
  · cases hk; rw [Nat.mul_one]; exact h
  · simp at hk
theorem gd_short {w1 w : World} {L : List Et} {vx ux : Value} {xs ys : List Value} {n j : Nat} {K : Value → World → Prop} (h : Hp [] w1 w L) (hx : SlC w1 1 vx 4 xs) (sx : Seg xs (j * 1) [ux]) (hj : j < 4) (hux : SlC w1 2 ux n ys) (hn : ¬ (5 < n ∧ n ≤ 10)) (hk : K (.bool false) w) :
    Bn Tryz.prog .gtr 3 true (.int .i64 n) (.int .i64 5) w fun t1 w => Gd t1 true (fun k => k vx w) w fun t2 w => Gd t1 true (fun k => k (.int .i64 j) w) w fun t3 w => Gd t1 true (fun k => Ia Tryz.prog 28 t2 t3 w k) w fun t4 w => Gd t1 true (fun k => Ld Tryz.prog 23 t4 w k) w fun t5 w => Gd t1 true (fun k => Bt Tryz.prog .len #[23] 3 #[t5] w k) w fun t6 w => Gd t1 true (fun k => Bn Tryz.prog .leq 3 true t6 (.int .i64 10) w k) w fun t7 w => Pick t1 t7 (.bool false) w K := by
  by_cases h5 : 5 < n
  · have h10 : 10 < n := by omega
    refine Bn_gtT (by omega) ?_
    iterate 3 refine Gd_T ?_
    refine iaH h (by assumption) (by omega) fun zb zo zk zv zc => ?_
    refine Gd_T ?_
    refine lh0 h (by assumption) (by assumption) (by rfl) ?_
    refine Gd_T ?_
    refine leS (hux.hp h) ?_
    refine Gd_T ?_
    refine Bn_leF (by omega) ?_
    refine Pick_T ?_
    exact hk
  · refine Bn_gtF (by omega) ?_
    iterate 6 refine Gd_FT ?_
    refine Pick_F ?_
    exact hk
abbrev R4 := Value × List RS × Value × List RS
def RI (w : World) (e : R4) : Prop := SlR w e.1 e.2.1 ∧ RSok e.2.1 ∧ SlR w e.2.2.1 e.2.2.2 ∧ RSok e.2.2.2 ∧ e.2.1.length ≤ 100
set_option maxHeartbeats 8000000 in
theorem law_Matches {w0 : World} {v v2 v3 : Value} {l : List I3} {lx lp : List RS} (he : En w0) (hv : SlC w0 3 v l.length (l.flatMap fT)) (hok : I3ok l) (hl : l.length ≤ 9223372036854775807)
    (hx : SlR w0 v2 lx) (kx : ∀ a ∈ lx, a.1.length ≤ maxLen ∧ a.2.length ≤ maxLen) (hlx : lx.length ≤ maxLen)
    (hp : SlR w0 v3 lp) (kp : ∀ a ∈ lp, a.1.length ≤ maxLen ∧ a.2.length ≤ maxLen) (hlp : lp.length ≤ maxLen) :
    Calls Tryz.prog 3 #[v, v2, v3] w0 (Ret fun r w' => Ext w0 w' ∧ r = .bool true) := by
  have hm := made_ME l 20
  have hml := made_len l 20
  obtain ⟨m, hmm⟩ : ∃ m, made l 20 = m := ⟨_, rfl⟩
  rw [hmm] at hm hml
  have hf := made_ME l 4
  have hfl := made_len l 4
  obtain ⟨f, hff⟩ : ∃ f, made l 4 = f := ⟨_, rfl⟩
  rw [hff] at hf hfl
  have cc1 := fun {W : World} (x : Ext w0 W) => c_sane (he.ext x)
  apply e_law16_EstimateMatchesReference
  unfold s_law16_EstimateMatchesReference
  have h := Hp.init [] w0
  refine cl1 h n_law16_sane (cc1 h.ext) fun w h => ?_
  refine Un_T ?_
  refine If_F ?_
  refine Cl_i n_ref16_Made (c_Made (most := 20) (hv.hp h) hok hl (by decide)) ?_
  rintro _ w' ⟨x, p, rfl, h'⟩
  rw [hmm] at h'
  have h := h.cat2 h' ro_sm ro_sm
  refine Ex2 ?_
  refine Cl_i n_ref16_Made (c_Made (most := 4) (hv.hp h) hok hl (by decide)) ?_
  rintro _ w' ⟨x4, p4, rfl, h'⟩
  rw [hff] at h'
  have h := h.cat2 h' ro_sm ro_sm
  refine Ex2 ?_
  refine Cl_i n_law16_short (c_short (hx.ext h.ext) kx hlx) ?_
  rintro y2 w' h'
  have h := h.cat1 h' ro_sm
  skip
  have c1 := slc_cell1 (h.sl (i := 4) rfl)
  have c2 := slc_cell1 (h.sl (i := 0) rfl)
  have c3 := slc_cell1 (h.sl (i := 2) rfl)
  refine bsN (vs := [_, _, _, _]) h (.cons c1.1 (by rfl) (.cons c2.1 (by rfl) (.cons c3.1 (by rfl) (.cons c1.1 (by rfl) .nil)))) (by rfl) (by rfl) (by decide) (by decide) (by decide) fun vx w h => ?_
  refine Cl_i n_law16_short (c_short (hp.ext h.ext) kp hlp) ?_
  rintro q2 w' h'
  have h := h.cat1 h' ro_sm
  refine Cl_i n_law16_short (c_short (hp.ext h.ext) kp hlp) ?_
  rintro q3 w' h'
  have h := h.cat1 h' ro_sm
  have d1 := slc_cell1 (h.sl (i := 6) rfl)
  have d2 := slc_cell1 (h.sl (i := 1) rfl)
  have d3 := slc_cell1 (h.sl (i := 0) rfl)
  have d4 := slc_cell1 (h.sl (i := 4) rfl)
  refine bsN (vs := [_, _, _, _]) h (.cons d1.1 (by rfl) (.cons d2.1 (by rfl) (.cons d4.1 (by rfl) (.cons d3.1 (by rfl) .nil)))) (by rfl) (by rfl) (by decide) (by decide) (by decide) fun vp w1 h => ?_
  have hvx := h.sl (i := 3) rfl
  have hvp := h.sl (i := 0) rfl
  have r1 := h.sl (i := 8) rfl
  have r2 := h.sl (i := 4) rfl
  have r3 := h.sl (i := 6) rfl
  have s1 := h.sl (i := 7) rfl
  have s2 := h.sl (i := 2) rfl
  have s3 := h.sl (i := 5) rfl
  have s4 := h.sl (i := 1) rfl
  have x1 := h.ext
  have he1 := he.ext x1
  clear cc1
  refine Exists.elim (p := fun L => L = [((x, m.map fun e => tx e.1, p, m.map fun e => tx e.2) : R4), (y2, (lx.take 12).map cutR, q2, (lp.take 12).map cutR), (x4, f.map fun e => tx e.1, p4, f.map fun e => tx e.2), (x, m.map fun e => tx e.1, q3, (lp.take 12).map cutR)]) ⟨_, rfl⟩ fun L hL => ?_
  have hLx : L.map (fun e => e.1) = [x, y2, x4, x] := by rw [hL]; rfl
  have hLp : L.map (fun e => e.2.2.1) = [p, q2, p4, q3] := by rw [hL]; rfl
  have hLR : ∀ j, j < 4 → ∃ e, L[j]? = some e ∧ RI w1 e := fun j hj => by
    rw [hL]
    refine four ?_ ?_ ?_ ?_ hj
    · exact ⟨.ofx r1, hm.rx, .ofp s1, hm.rp, by show (m.map _).length ≤ 100; rw [List.length_map]; omega⟩
    · exact ⟨r2, rs_map _, s2, rs_map _, by show ((lx.take 12).map _).length ≤ 100; rw [List.length_map, List.length_take]; omega⟩
    · exact ⟨.ofx r3, hf.rx, .ofp s3, hf.rp, by show (f.map _).length ≤ 100; rw [List.length_map]; omega⟩
    · exact ⟨.ofx r1, hm.rx, s4, rs_map _, by show (m.map _).length ≤ 100; rw [List.length_map]; omega⟩
  clear h r1 r2 r3 s1 s2 s3 s4 hL
  have hvx : SlC w1 1 vx 4 [x, y2, x4, x] := hvx
  have hvp : SlC w1 1 vp 4 [p, q2, p4, q3] := hvp
  have h := Hp.init [] w1
  refine Lp1.mk (fun i W => ∃ j : Nat, j ≤ 4 ∧ i = .int .i64 j ∧ Hp [] w1 W []) (fun i _ => match i with | .int _ i' => 4 - i'.toNat | _ => 0) ⟨0, by omega, rfl, h⟩ ?_
  clear h
  rintro _ W ⟨j, hj, rfl, h⟩
  by_cases hj4 : j < 4
  · refine Exists.elim (hLR j hj4) ?_
    rintro ⟨ux, ax, up, ap⟩ ⟨hje, hux, kax, hup, kap, hal⟩
    have hal : ax.length ≤ 100 := hal
    have sx : Seg [x, y2, x4, x] (j * 1) [ux] := seg_one (by rw [← hLx, List.getElem?_map, hje]; rfl)
    have sp : Seg [p, q2, p4, q3] (j * 1) [up] := seg_one (by rw [← hLp, List.getElem?_map, hje]; rfl)
    have hux' : SlC w1 2 ux ax.length (ax.flatMap fR) := hux
    refine Exists.elim (tot_ex (totO ax ap)) fun ta ht => Exists.elim ht fun tb ht => Exists.elim ht fun tz ht => ?_
    refine Exists.elim (var_ex (varO ax ap)) fun va hv' => Exists.elim hv' fun vz hv' => ?_
    refine Exists.elim (exp_ex (expO ax ap)) fun ea hE => Exists.elim hE fun eb hE => Exists.elim hE fun ec hE => Exists.elim hE fun ez hE => ?_
    have cc2 : ∀ {W : World}, Ext w1 W → Calls Tryz.prog 14 #[ux, up] W (Ret fun r w' => Ext W w' ∧ r = .tuple #[ov ta, ov tb, .int .i64 tz]) := fun {W} x => ht.1 ▸ c_Total (hux.ext x) (hup.ext x) kax kap (he1.ext x)
    have cc3 : ∀ {W : World}, Ext w1 W → Calls Tryz.prog 15 #[ux, up] W (Ret fun r w' => Ext W w' ∧ r = .tuple #[ov ta, ov tb, .int .i64 tz]) := fun {W} x => ht.1 ▸ c_fTotal (hux.ext x) (hup.ext x) kax kap
    have cc4 : ∀ {W : World}, Ext w1 W → Calls Tryz.prog 16 #[ux, up] W (Ret fun r w' => Ext W w' ∧ r = .tuple #[ov va, .int .i64 vz]) := fun {W} x => hv'.1 ▸ c_Variance (hux.ext x) (hup.ext x) kax kap (he1.ext x)
    have cc5 : ∀ {W : World}, Ext w1 W → Calls Tryz.prog 17 #[ux, up] W (Ret fun r w' => Ext W w' ∧ r = .tuple #[ov va, .int .i64 vz]) := fun {W} x => hv'.1 ▸ c_fVariance (hux.ext x) (hup.ext x) kax kap
    have cc6 : ∀ {W : World}, Ext w1 W → Calls Tryz.prog 18 #[ux, up] W (Ret fun r w' => Ext W w' ∧ r = .tuple #[ov ea, ov eb, ov ec, .int .i64 ez]) := fun {W} x => hE.1 ▸ c_Expect (hux.ext x) (hup.ext x) kax kap (he1.ext x)
    have cc7 : ∀ {W : World}, Ext w1 W → Calls Tryz.prog 19 #[ux, up] W (Ret fun r w' => Ext W w' ∧ r = .tuple #[ov ea, ov eb, ov ec, .int .i64 ez]) := fun {W} x => hE.1 ▸ c_fExpect (hux.ext x) (hup.ext x) kax kap
    have z1 := ht.2
    have z2 := hv'.2
    have z3 := hE.2
    clear ht hv' hE
    refine leS (hvx.hp h) ?_
    refine Bn_ltT (by omega) ?_
    refine If_T ?_
    refine Jn3.lfc tR tR (fO ta) (fO tb) (.int .i64 tz) h (fun K lf1 => ?_) (fun ga gb w h => ?_)
    · replace h := h.dr
      refine diH h (by assumption) (by omega) fun zb zo zk zv zc => ?_
      refine dh0 h (by assumption) (by assumption) (by rfl) ?_
      refine diH h (by assumption) (by omega) fun zb zo zk zv zc => ?_
      refine dh0 h (by assumption) (by assumption) (by rfl) ?_
      refine ⟨?_, ?_⟩
      refine cl1 h n_estimate_Total (cc2 h.ext) fun w h => ?_
      refine ExP3x ?_
      refine ⟨?_, ?_⟩
      refine alS h fun g1 w h => ?_
      iterate 2 refine kh0 h (by assumption) (by assumption) (by rfl) ?_
      refine alS h fun g2 w h => ?_
      iterate 2 refine kh0 h (by assumption) (by assumption) (by rfl) ?_
      refine stA h 1 rfl rfl rfl rfl fun w h => ?_
      refine stA h 0 rfl rfl rfl rfl fun w h => ?_
      exact lf1 _ _ _ (h.pick [1, 0] (by decide) rfl)
      refine alS h fun g1 w h => ?_
      iterate 2 refine kh0 h (by assumption) (by assumption) (by rfl) ?_
      refine alS h fun g2 w h => ?_
      iterate 2 refine kh0 h (by assumption) (by assumption) (by rfl) ?_
      refine stA h 0 rfl rfl rfl rfl fun w h => ?_
      refine stA h 1 rfl rfl rfl rfl fun w h => ?_
      exact lf1 _ _ _ h
      refine ⟨?_, ?_⟩
      refine alS h fun g1 w h => ?_
      iterate 2 refine kh0 h (by assumption) (by assumption) (by rfl) ?_
      refine ⟨?_, ?_⟩
      refine cl1 h n_estimate_Total (cc2 h.ext) fun w h => ?_
      refine ExP3x ?_
      refine alS h fun g2 w h => ?_
      iterate 2 refine kh0 h (by assumption) (by assumption) (by rfl) ?_
      refine stA h 1 rfl rfl rfl rfl fun w h => ?_
      refine stA h 0 rfl rfl rfl rfl fun w h => ?_
      exact lf1 _ _ _ (h.pick [1, 0] (by decide) rfl)
      refine alS h fun g2 w h => ?_
      iterate 2 refine kh0 h (by assumption) (by assumption) (by rfl) ?_
      refine cl1 h n_estimate_Total (cc2 h.ext) fun w h => ?_
      refine ExP3x ?_
      refine stA h 1 rfl rfl rfl rfl fun w h => ?_
      refine stA h 0 rfl rfl rfl rfl fun w h => ?_
      exact lf1 _ _ _ (h.pick [1, 0] (by decide) rfl)
      refine alS h fun g1 w h => ?_
      iterate 2 refine kh0 h (by assumption) (by assumption) (by rfl) ?_
      refine ⟨?_, ?_⟩
      refine cl1 h n_estimate_Total (cc2 h.ext) fun w h => ?_
      refine ExP3x ?_
      refine alS h fun g2 w h => ?_
      iterate 2 refine kh0 h (by assumption) (by assumption) (by rfl) ?_
      refine stA h 0 rfl rfl rfl rfl fun w h => ?_
      refine stA h 1 rfl rfl rfl rfl fun w h => ?_
      exact lf1 _ _ _ h
      refine alS h fun g2 w h => ?_
      iterate 2 refine kh0 h (by assumption) (by assumption) (by rfl) ?_
      refine cl1 h n_estimate_Total (cc2 h.ext) fun w h => ?_
      refine ExP3x ?_
      refine stA h 0 rfl rfl rfl rfl fun w h => ?_
      refine stA h 1 rfl rfl rfl rfl fun w h => ?_
      exact lf1 _ _ _ h
    skip
    refine Jn3.lfc tR tR (fO ta) (fO tb) (.int .i64 tz) h (fun K lf1 => ?_) (fun gc gd w h => ?_)
    · replace h := h.dr
      refine diH h (by assumption) (by omega) fun zb zo zk zv zc => ?_
      refine dh0 h (by assumption) (by assumption) (by rfl) ?_
      refine diH h (by assumption) (by omega) fun zb zo zk zv zc => ?_
      refine dh0 h (by assumption) (by assumption) (by rfl) ?_
      refine ⟨?_, ?_⟩
      refine cl1 h n_ref16_Total (cc3 h.ext) fun w h => ?_
      refine ExP3x ?_
      refine ⟨?_, ?_⟩
      refine alS h fun g1 w h => ?_
      iterate 2 refine kh0 h (by assumption) (by assumption) (by rfl) ?_
      refine alS h fun g2 w h => ?_
      iterate 2 refine kh0 h (by assumption) (by assumption) (by rfl) ?_
      refine stA h 1 rfl rfl rfl rfl fun w h => ?_
      refine stA h 0 rfl rfl rfl rfl fun w h => ?_
      exact lf1 _ _ _ (h.pick [1, 0, 2, 3] (by decide) rfl)
      refine alS h fun g1 w h => ?_
      iterate 2 refine kh0 h (by assumption) (by assumption) (by rfl) ?_
      refine alS h fun g2 w h => ?_
      iterate 2 refine kh0 h (by assumption) (by assumption) (by rfl) ?_
      refine stA h 0 rfl rfl rfl rfl fun w h => ?_
      refine stA h 1 rfl rfl rfl rfl fun w h => ?_
      exact lf1 _ _ _ h
      refine ⟨?_, ?_⟩
      refine alS h fun g1 w h => ?_
      iterate 2 refine kh0 h (by assumption) (by assumption) (by rfl) ?_
      refine ⟨?_, ?_⟩
      refine cl1 h n_ref16_Total (cc3 h.ext) fun w h => ?_
      refine ExP3x ?_
      refine alS h fun g2 w h => ?_
      iterate 2 refine kh0 h (by assumption) (by assumption) (by rfl) ?_
      refine stA h 1 rfl rfl rfl rfl fun w h => ?_
      refine stA h 0 rfl rfl rfl rfl fun w h => ?_
      exact lf1 _ _ _ (h.pick [1, 0, 2, 3] (by decide) rfl)
      refine alS h fun g2 w h => ?_
      iterate 2 refine kh0 h (by assumption) (by assumption) (by rfl) ?_
      refine cl1 h n_ref16_Total (cc3 h.ext) fun w h => ?_
      refine ExP3x ?_
      refine stA h 1 rfl rfl rfl rfl fun w h => ?_
      refine stA h 0 rfl rfl rfl rfl fun w h => ?_
      exact lf1 _ _ _ (h.pick [1, 0, 2, 3] (by decide) rfl)
      refine alS h fun g1 w h => ?_
      iterate 2 refine kh0 h (by assumption) (by assumption) (by rfl) ?_
      refine ⟨?_, ?_⟩
      refine cl1 h n_ref16_Total (cc3 h.ext) fun w h => ?_
      refine ExP3x ?_
      refine alS h fun g2 w h => ?_
      iterate 2 refine kh0 h (by assumption) (by assumption) (by rfl) ?_
      refine stA h 0 rfl rfl rfl rfl fun w h => ?_
      refine stA h 1 rfl rfl rfl rfl fun w h => ?_
      exact lf1 _ _ _ h
      refine alS h fun g2 w h => ?_
      iterate 2 refine kh0 h (by assumption) (by assumption) (by rfl) ?_
      refine cl1 h n_ref16_Total (cc3 h.ext) fun w h => ?_
      refine ExP3x ?_
      refine stA h 0 rfl rfl rfl rfl fun w h => ?_
      refine stA h 1 rfl rfl rfl rfl fun w h => ?_
      exact lf1 _ _ _ h
    skip
    refine Jn2.lfb tR (fO va) (.int .i64 vz) h (fun K lf1 => ?_) (fun ge w h => ?_)
    · replace h := h.dr
      refine diH h (by assumption) (by omega) fun zb zo zk zv zc => ?_
      refine dh0 h (by assumption) (by assumption) (by rfl) ?_
      refine diH h (by assumption) (by omega) fun zb zo zk zv zc => ?_
      refine dh0 h (by assumption) (by assumption) (by rfl) ?_
      refine ⟨?_, ?_⟩
      refine cl1 h n_estimate_Variance (cc4 h.ext) fun w h => ?_
      refine ExP2 ?_
      refine alS h fun g1 w h => ?_
      iterate 2 refine kh0 h (by assumption) (by assumption) (by rfl) ?_
      refine stA h 0 rfl rfl rfl rfl fun w h => ?_
      exact lf1 _ _ h
      refine alS h fun g1 w h => ?_
      iterate 2 refine kh0 h (by assumption) (by assumption) (by rfl) ?_
      refine cl1 h n_estimate_Variance (cc4 h.ext) fun w h => ?_
      refine ExP2 ?_
      refine stA h 0 rfl rfl rfl rfl fun w h => ?_
      exact lf1 _ _ h
    skip
    refine Jn2.lfb tR (fO va) (.int .i64 vz) h (fun K lf1 => ?_) (fun gf w h => ?_)
    · replace h := h.dr
      refine diH h (by assumption) (by omega) fun zb zo zk zv zc => ?_
      refine dh0 h (by assumption) (by assumption) (by rfl) ?_
      refine diH h (by assumption) (by omega) fun zb zo zk zv zc => ?_
      refine dh0 h (by assumption) (by assumption) (by rfl) ?_
      refine ⟨?_, ?_⟩
      refine cl1 h n_ref16_Variance (cc5 h.ext) fun w h => ?_
      refine ExP2 ?_
      refine alS h fun g1 w h => ?_
      iterate 2 refine kh0 h (by assumption) (by assumption) (by rfl) ?_
      refine stA h 0 rfl rfl rfl rfl fun w h => ?_
      exact lf1 _ _ h
      refine alS h fun g1 w h => ?_
      iterate 2 refine kh0 h (by assumption) (by assumption) (by rfl) ?_
      refine cl1 h n_ref16_Variance (cc5 h.ext) fun w h => ?_
      refine ExP2 ?_
      refine stA h 0 rfl rfl rfl rfl fun w h => ?_
      exact lf1 _ _ h
    by_cases hb : 5 < ax.length ∧ ax.length ≤ 10
    · have hb1 := hb.1
      have hb2 := hb.2
      refine Bn_neF (by omega) ?_
      refine Gd_F ?_
      refine ldA h 4 rfl rfl ?_
      refine Gd_F ?_
      refine ldA h 2 rfl rfl ?_
      refine Gd_F ?_
      refine qNeS ?_
      refine Pick_F ?_
      refine Gd_F ?_
      refine ldA h 5 rfl rfl ?_
      refine Gd_F ?_
      refine ldA h 3 rfl rfl ?_
      refine Gd_F ?_
      refine qNeS ?_
      refine Pick_F ?_
      iterate 3 refine Gd_F ?_
      refine Bn_neF (by omega) ?_
      refine Pick_F ?_
      refine Gd_F ?_
      refine ldA h 1 rfl rfl ?_
      refine Gd_F ?_
      refine ldA h 0 rfl rfl ?_
      refine Gd_F ?_
      refine qNeS ?_
      refine Pick_F ?_
      refine If_F ?_
      refine iaH h (by assumption) (by omega) fun zb zo zk zv zc => ?_
      refine lh0 h (by assumption) (by assumption) (by rfl) ?_
      refine leS (hux'.hp h) ?_
      refine Bn_gtT (by omega) ?_
      iterate 3 refine Gd_T ?_
      refine iaH h (by assumption) (by omega) fun zb zo zk zv zc => ?_
      refine Gd_T ?_
      refine lh0 h (by assumption) (by assumption) (by rfl) ?_
      refine Gd_T ?_
      refine leS (hux'.hp h) ?_
      refine Gd_T ?_
      refine Bn_leT (by omega) ?_
      refine Pick_T ?_
      refine If_T ?_
      refine Bn_ad (by omega) (by omega) ?_
      exact ⟨⟨j + 1, by omega, rfl, h.pick [] (by decide) rfl⟩, by show 4 - ((j : Int) + 1).toNat < 4 - (j : Int).toNat; omega⟩
    refine Bn_neF (by omega) ?_
    refine Gd_F ?_
    refine ldA h 4 rfl rfl ?_
    refine Gd_F ?_
    refine ldA h 2 rfl rfl ?_
    refine Gd_F ?_
    refine qNeS ?_
    refine Pick_F ?_
    refine Gd_F ?_
    refine ldA h 5 rfl rfl ?_
    refine Gd_F ?_
    refine ldA h 3 rfl rfl ?_
    refine Gd_F ?_
    refine qNeS ?_
    refine Pick_F ?_
    iterate 3 refine Gd_F ?_
    refine Bn_neF (by omega) ?_
    refine Pick_F ?_
    refine Gd_F ?_
    refine ldA h 1 rfl rfl ?_
    refine Gd_F ?_
    refine ldA h 0 rfl rfl ?_
    refine Gd_F ?_
    refine qNeS ?_
    refine Pick_F ?_
    refine If_F ?_
    refine iaH h (by assumption) (by omega) fun zb zo zk zv zc => ?_
    refine lh0 h (by assumption) (by assumption) (by rfl) ?_
    refine leS (hux'.hp h) ?_
    refine gd_short h hvx sx hj4 hux' hb ?_
    refine If_F ?_
    refine Jn4.lfc tR tR tR (fO ea) (fO eb) (fO ec) (.int .i64 ez) h (fun K lf1 => ?_) (fun gg gh gi w h => ?_)
    · replace h := h.dr
      refine diH h (by assumption) (by omega) fun zb zo zk zv zc => ?_
      refine dh0 h (by assumption) (by assumption) (by rfl) ?_
      refine diH h (by assumption) (by omega) fun zb zo zk zv zc => ?_
      refine dh0 h (by assumption) (by assumption) (by rfl) ?_
      refine ⟨?_, ?_⟩
      refine cl1 h n_estimate_Expect (cc6 h.ext) fun w h => ?_
      refine ExP4x ?_
      refine ⟨?_, ?_⟩
      refine alS h fun g1 w h => ?_
      iterate 2 refine kh0 h (by assumption) (by assumption) (by rfl) ?_
      refine ⟨?_, ?_⟩
      refine alS h fun g2 w h => ?_
      iterate 2 refine kh0 h (by assumption) (by assumption) (by rfl) ?_
      refine alS h fun g3 w h => ?_
      iterate 2 refine kh0 h (by assumption) (by assumption) (by rfl) ?_
      refine stA h 2 rfl rfl rfl rfl fun w h => ?_
      refine stA h 1 rfl rfl rfl rfl fun w h => ?_
      refine stA h 0 rfl rfl rfl rfl fun w h => ?_
      exact lf1 _ _ _ _ (h.pick [2, 1, 0, 3, 4, 5, 6, 7, 8] (by decide) rfl)
      refine alS h fun g2 w h => ?_
      iterate 2 refine kh0 h (by assumption) (by assumption) (by rfl) ?_
      refine alS h fun g3 w h => ?_
      iterate 2 refine kh0 h (by assumption) (by assumption) (by rfl) ?_
      refine stA h 2 rfl rfl rfl rfl fun w h => ?_
      refine stA h 0 rfl rfl rfl rfl fun w h => ?_
      refine stA h 1 rfl rfl rfl rfl fun w h => ?_
      exact lf1 _ _ _ _ (h.pick [2, 0, 1, 3, 4, 5, 6, 7, 8] (by decide) rfl)
      refine ⟨?_, ?_⟩
      refine alS h fun g1 w h => ?_
      iterate 2 refine kh0 h (by assumption) (by assumption) (by rfl) ?_
      refine ⟨?_, ?_⟩
      refine alS h fun g2 w h => ?_
      iterate 2 refine kh0 h (by assumption) (by assumption) (by rfl) ?_
      refine alS h fun g3 w h => ?_
      iterate 2 refine kh0 h (by assumption) (by assumption) (by rfl) ?_
      refine stA h 1 rfl rfl rfl rfl fun w h => ?_
      refine stA h 2 rfl rfl rfl rfl fun w h => ?_
      refine stA h 0 rfl rfl rfl rfl fun w h => ?_
      exact lf1 _ _ _ _ (h.pick [1, 2, 0, 3, 4, 5, 6, 7, 8] (by decide) rfl)
      refine alS h fun g2 w h => ?_
      iterate 2 refine kh0 h (by assumption) (by assumption) (by rfl) ?_
      refine alS h fun g3 w h => ?_
      iterate 2 refine kh0 h (by assumption) (by assumption) (by rfl) ?_
      refine stA h 0 rfl rfl rfl rfl fun w h => ?_
      refine stA h 2 rfl rfl rfl rfl fun w h => ?_
      refine stA h 1 rfl rfl rfl rfl fun w h => ?_
      exact lf1 _ _ _ _ (h.pick [0, 2, 1, 3, 4, 5, 6, 7, 8] (by decide) rfl)
      refine alS h fun g1 w h => ?_
      iterate 2 refine kh0 h (by assumption) (by assumption) (by rfl) ?_
      refine ⟨?_, ?_⟩
      refine alS h fun g2 w h => ?_
      iterate 2 refine kh0 h (by assumption) (by assumption) (by rfl) ?_
      refine alS h fun g3 w h => ?_
      iterate 2 refine kh0 h (by assumption) (by assumption) (by rfl) ?_
      refine stA h 1 rfl rfl rfl rfl fun w h => ?_
      refine stA h 0 rfl rfl rfl rfl fun w h => ?_
      refine stA h 2 rfl rfl rfl rfl fun w h => ?_
      exact lf1 _ _ _ _ (h.pick [1, 0, 2, 3, 4, 5, 6, 7, 8] (by decide) rfl)
      refine alS h fun g2 w h => ?_
      iterate 2 refine kh0 h (by assumption) (by assumption) (by rfl) ?_
      refine alS h fun g3 w h => ?_
      iterate 2 refine kh0 h (by assumption) (by assumption) (by rfl) ?_
      refine stA h 0 rfl rfl rfl rfl fun w h => ?_
      refine stA h 1 rfl rfl rfl rfl fun w h => ?_
      refine stA h 2 rfl rfl rfl rfl fun w h => ?_
      exact lf1 _ _ _ _ h
      refine ⟨?_, ?_⟩
      refine alS h fun g1 w h => ?_
      iterate 2 refine kh0 h (by assumption) (by assumption) (by rfl) ?_
      refine ⟨?_, ?_⟩
      refine cl1 h n_estimate_Expect (cc6 h.ext) fun w h => ?_
      refine ExP4x ?_
      refine ⟨?_, ?_⟩
      refine alS h fun g2 w h => ?_
      iterate 2 refine kh0 h (by assumption) (by assumption) (by rfl) ?_
      refine alS h fun g3 w h => ?_
      iterate 2 refine kh0 h (by assumption) (by assumption) (by rfl) ?_
      refine stA h 2 rfl rfl rfl rfl fun w h => ?_
      refine stA h 1 rfl rfl rfl rfl fun w h => ?_
      refine stA h 0 rfl rfl rfl rfl fun w h => ?_
      exact lf1 _ _ _ _ (h.pick [2, 1, 0, 3, 4, 5, 6, 7, 8] (by decide) rfl)
      refine alS h fun g2 w h => ?_
      iterate 2 refine kh0 h (by assumption) (by assumption) (by rfl) ?_
      refine alS h fun g3 w h => ?_
      iterate 2 refine kh0 h (by assumption) (by assumption) (by rfl) ?_
      refine stA h 2 rfl rfl rfl rfl fun w h => ?_
      refine stA h 0 rfl rfl rfl rfl fun w h => ?_
      refine stA h 1 rfl rfl rfl rfl fun w h => ?_
      exact lf1 _ _ _ _ (h.pick [2, 0, 1, 3, 4, 5, 6, 7, 8] (by decide) rfl)
      refine ⟨?_, ?_⟩
      refine alS h fun g2 w h => ?_
      iterate 2 refine kh0 h (by assumption) (by assumption) (by rfl) ?_
      refine ⟨?_, ?_⟩
      refine cl1 h n_estimate_Expect (cc6 h.ext) fun w h => ?_
      refine ExP4x ?_
      refine alS h fun g3 w h => ?_
      iterate 2 refine kh0 h (by assumption) (by assumption) (by rfl) ?_
      refine stA h 2 rfl rfl rfl rfl fun w h => ?_
      refine stA h 1 rfl rfl rfl rfl fun w h => ?_
      refine stA h 0 rfl rfl rfl rfl fun w h => ?_
      exact lf1 _ _ _ _ (h.pick [2, 1, 0, 3, 4, 5, 6, 7, 8] (by decide) rfl)
      refine alS h fun g3 w h => ?_
      iterate 2 refine kh0 h (by assumption) (by assumption) (by rfl) ?_
      refine cl1 h n_estimate_Expect (cc6 h.ext) fun w h => ?_
      refine ExP4x ?_
      refine stA h 2 rfl rfl rfl rfl fun w h => ?_
      refine stA h 1 rfl rfl rfl rfl fun w h => ?_
      refine stA h 0 rfl rfl rfl rfl fun w h => ?_
      exact lf1 _ _ _ _ (h.pick [2, 1, 0, 3, 4, 5, 6, 7, 8] (by decide) rfl)
      refine alS h fun g2 w h => ?_
      iterate 2 refine kh0 h (by assumption) (by assumption) (by rfl) ?_
      refine ⟨?_, ?_⟩
      refine cl1 h n_estimate_Expect (cc6 h.ext) fun w h => ?_
      refine ExP4x ?_
      refine alS h fun g3 w h => ?_
      iterate 2 refine kh0 h (by assumption) (by assumption) (by rfl) ?_
      refine stA h 2 rfl rfl rfl rfl fun w h => ?_
      refine stA h 0 rfl rfl rfl rfl fun w h => ?_
      refine stA h 1 rfl rfl rfl rfl fun w h => ?_
      exact lf1 _ _ _ _ (h.pick [2, 0, 1, 3, 4, 5, 6, 7, 8] (by decide) rfl)
      refine alS h fun g3 w h => ?_
      iterate 2 refine kh0 h (by assumption) (by assumption) (by rfl) ?_
      refine cl1 h n_estimate_Expect (cc6 h.ext) fun w h => ?_
      refine ExP4x ?_
      refine stA h 2 rfl rfl rfl rfl fun w h => ?_
      refine stA h 0 rfl rfl rfl rfl fun w h => ?_
      refine stA h 1 rfl rfl rfl rfl fun w h => ?_
      exact lf1 _ _ _ _ (h.pick [2, 0, 1, 3, 4, 5, 6, 7, 8] (by decide) rfl)
      refine ⟨?_, ?_⟩
      refine alS h fun g1 w h => ?_
      iterate 2 refine kh0 h (by assumption) (by assumption) (by rfl) ?_
      refine ⟨?_, ?_⟩
      refine cl1 h n_estimate_Expect (cc6 h.ext) fun w h => ?_
      refine ExP4x ?_
      refine ⟨?_, ?_⟩
      refine alS h fun g2 w h => ?_
      iterate 2 refine kh0 h (by assumption) (by assumption) (by rfl) ?_
      refine alS h fun g3 w h => ?_
      iterate 2 refine kh0 h (by assumption) (by assumption) (by rfl) ?_
      refine stA h 1 rfl rfl rfl rfl fun w h => ?_
      refine stA h 2 rfl rfl rfl rfl fun w h => ?_
      refine stA h 0 rfl rfl rfl rfl fun w h => ?_
      exact lf1 _ _ _ _ (h.pick [1, 2, 0, 3, 4, 5, 6, 7, 8] (by decide) rfl)
      refine alS h fun g2 w h => ?_
      iterate 2 refine kh0 h (by assumption) (by assumption) (by rfl) ?_
      refine alS h fun g3 w h => ?_
      iterate 2 refine kh0 h (by assumption) (by assumption) (by rfl) ?_
      refine stA h 0 rfl rfl rfl rfl fun w h => ?_
      refine stA h 2 rfl rfl rfl rfl fun w h => ?_
      refine stA h 1 rfl rfl rfl rfl fun w h => ?_
      exact lf1 _ _ _ _ (h.pick [0, 2, 1, 3, 4, 5, 6, 7, 8] (by decide) rfl)
      refine ⟨?_, ?_⟩
      refine alS h fun g2 w h => ?_
      iterate 2 refine kh0 h (by assumption) (by assumption) (by rfl) ?_
      refine ⟨?_, ?_⟩
      refine cl1 h n_estimate_Expect (cc6 h.ext) fun w h => ?_
      refine ExP4x ?_
      refine alS h fun g3 w h => ?_
      iterate 2 refine kh0 h (by assumption) (by assumption) (by rfl) ?_
      refine stA h 1 rfl rfl rfl rfl fun w h => ?_
      refine stA h 2 rfl rfl rfl rfl fun w h => ?_
      refine stA h 0 rfl rfl rfl rfl fun w h => ?_
      exact lf1 _ _ _ _ (h.pick [1, 2, 0, 3, 4, 5, 6, 7, 8] (by decide) rfl)
      refine alS h fun g3 w h => ?_
      iterate 2 refine kh0 h (by assumption) (by assumption) (by rfl) ?_
      refine cl1 h n_estimate_Expect (cc6 h.ext) fun w h => ?_
      refine ExP4x ?_
      refine stA h 1 rfl rfl rfl rfl fun w h => ?_
      refine stA h 2 rfl rfl rfl rfl fun w h => ?_
      refine stA h 0 rfl rfl rfl rfl fun w h => ?_
      exact lf1 _ _ _ _ (h.pick [1, 2, 0, 3, 4, 5, 6, 7, 8] (by decide) rfl)
      refine alS h fun g2 w h => ?_
      iterate 2 refine kh0 h (by assumption) (by assumption) (by rfl) ?_
      refine ⟨?_, ?_⟩
      refine cl1 h n_estimate_Expect (cc6 h.ext) fun w h => ?_
      refine ExP4x ?_
      refine alS h fun g3 w h => ?_
      iterate 2 refine kh0 h (by assumption) (by assumption) (by rfl) ?_
      refine stA h 0 rfl rfl rfl rfl fun w h => ?_
      refine stA h 2 rfl rfl rfl rfl fun w h => ?_
      refine stA h 1 rfl rfl rfl rfl fun w h => ?_
      exact lf1 _ _ _ _ (h.pick [0, 2, 1, 3, 4, 5, 6, 7, 8] (by decide) rfl)
      refine alS h fun g3 w h => ?_
      iterate 2 refine kh0 h (by assumption) (by assumption) (by rfl) ?_
      refine cl1 h n_estimate_Expect (cc6 h.ext) fun w h => ?_
      refine ExP4x ?_
      refine stA h 0 rfl rfl rfl rfl fun w h => ?_
      refine stA h 2 rfl rfl rfl rfl fun w h => ?_
      refine stA h 1 rfl rfl rfl rfl fun w h => ?_
      exact lf1 _ _ _ _ (h.pick [0, 2, 1, 3, 4, 5, 6, 7, 8] (by decide) rfl)
      refine alS h fun g1 w h => ?_
      iterate 2 refine kh0 h (by assumption) (by assumption) (by rfl) ?_
      refine ⟨?_, ?_⟩
      refine cl1 h n_estimate_Expect (cc6 h.ext) fun w h => ?_
      refine ExP4x ?_
      refine ⟨?_, ?_⟩
      refine alS h fun g2 w h => ?_
      iterate 2 refine kh0 h (by assumption) (by assumption) (by rfl) ?_
      refine alS h fun g3 w h => ?_
      iterate 2 refine kh0 h (by assumption) (by assumption) (by rfl) ?_
      refine stA h 1 rfl rfl rfl rfl fun w h => ?_
      refine stA h 0 rfl rfl rfl rfl fun w h => ?_
      refine stA h 2 rfl rfl rfl rfl fun w h => ?_
      exact lf1 _ _ _ _ (h.pick [1, 0, 2, 3, 4, 5, 6, 7, 8] (by decide) rfl)
      refine alS h fun g2 w h => ?_
      iterate 2 refine kh0 h (by assumption) (by assumption) (by rfl) ?_
      refine alS h fun g3 w h => ?_
      iterate 2 refine kh0 h (by assumption) (by assumption) (by rfl) ?_
      refine stA h 0 rfl rfl rfl rfl fun w h => ?_
      refine stA h 1 rfl rfl rfl rfl fun w h => ?_
      refine stA h 2 rfl rfl rfl rfl fun w h => ?_
      exact lf1 _ _ _ _ h
      refine ⟨?_, ?_⟩
      refine alS h fun g2 w h => ?_
      iterate 2 refine kh0 h (by assumption) (by assumption) (by rfl) ?_
      refine ⟨?_, ?_⟩
      refine cl1 h n_estimate_Expect (cc6 h.ext) fun w h => ?_
      refine ExP4x ?_
      refine alS h fun g3 w h => ?_
      iterate 2 refine kh0 h (by assumption) (by assumption) (by rfl) ?_
      refine stA h 1 rfl rfl rfl rfl fun w h => ?_
      refine stA h 0 rfl rfl rfl rfl fun w h => ?_
      refine stA h 2 rfl rfl rfl rfl fun w h => ?_
      exact lf1 _ _ _ _ (h.pick [1, 0, 2, 3, 4, 5, 6, 7, 8] (by decide) rfl)
      refine alS h fun g3 w h => ?_
      iterate 2 refine kh0 h (by assumption) (by assumption) (by rfl) ?_
      refine cl1 h n_estimate_Expect (cc6 h.ext) fun w h => ?_
      refine ExP4x ?_
      refine stA h 1 rfl rfl rfl rfl fun w h => ?_
      refine stA h 0 rfl rfl rfl rfl fun w h => ?_
      refine stA h 2 rfl rfl rfl rfl fun w h => ?_
      exact lf1 _ _ _ _ (h.pick [1, 0, 2, 3, 4, 5, 6, 7, 8] (by decide) rfl)
      refine alS h fun g2 w h => ?_
      iterate 2 refine kh0 h (by assumption) (by assumption) (by rfl) ?_
      refine ⟨?_, ?_⟩
      refine cl1 h n_estimate_Expect (cc6 h.ext) fun w h => ?_
      refine ExP4x ?_
      refine alS h fun g3 w h => ?_
      iterate 2 refine kh0 h (by assumption) (by assumption) (by rfl) ?_
      refine stA h 0 rfl rfl rfl rfl fun w h => ?_
      refine stA h 1 rfl rfl rfl rfl fun w h => ?_
      refine stA h 2 rfl rfl rfl rfl fun w h => ?_
      exact lf1 _ _ _ _ h
      refine alS h fun g3 w h => ?_
      iterate 2 refine kh0 h (by assumption) (by assumption) (by rfl) ?_
      refine cl1 h n_estimate_Expect (cc6 h.ext) fun w h => ?_
      refine ExP4x ?_
      refine stA h 0 rfl rfl rfl rfl fun w h => ?_
      refine stA h 1 rfl rfl rfl rfl fun w h => ?_
      refine stA h 2 rfl rfl rfl rfl fun w h => ?_
      exact lf1 _ _ _ _ h
    skip
    refine Jn4.lfc tR tR tR (fO ea) (fO eb) (fO ec) (.int .i64 ez) h (fun K lf1 => ?_) (fun gj gk gl w h => ?_)
    · replace h := h.dr
      refine diH h (by assumption) (by omega) fun zb zo zk zv zc => ?_
      refine dh0 h (by assumption) (by assumption) (by rfl) ?_
      refine diH h (by assumption) (by omega) fun zb zo zk zv zc => ?_
      refine dh0 h (by assumption) (by assumption) (by rfl) ?_
      refine ⟨?_, ?_⟩
      refine cl1 h n_ref16_Expect (cc7 h.ext) fun w h => ?_
      refine ExP4x ?_
      refine ⟨?_, ?_⟩
      refine alS h fun g1 w h => ?_
      iterate 2 refine kh0 h (by assumption) (by assumption) (by rfl) ?_
      refine ⟨?_, ?_⟩
      refine alS h fun g2 w h => ?_
      iterate 2 refine kh0 h (by assumption) (by assumption) (by rfl) ?_
      refine alS h fun g3 w h => ?_
      iterate 2 refine kh0 h (by assumption) (by assumption) (by rfl) ?_
      refine stA h 2 rfl rfl rfl rfl fun w h => ?_
      refine stA h 1 rfl rfl rfl rfl fun w h => ?_
      refine stA h 0 rfl rfl rfl rfl fun w h => ?_
      exact lf1 _ _ _ _ (h.pick [2, 1, 0, 3, 4, 5, 6, 7, 8, 9, 10, 11] (by decide) rfl)
      refine alS h fun g2 w h => ?_
      iterate 2 refine kh0 h (by assumption) (by assumption) (by rfl) ?_
      refine alS h fun g3 w h => ?_
      iterate 2 refine kh0 h (by assumption) (by assumption) (by rfl) ?_
      refine stA h 2 rfl rfl rfl rfl fun w h => ?_
      refine stA h 0 rfl rfl rfl rfl fun w h => ?_
      refine stA h 1 rfl rfl rfl rfl fun w h => ?_
      exact lf1 _ _ _ _ (h.pick [2, 0, 1, 3, 4, 5, 6, 7, 8, 9, 10, 11] (by decide) rfl)
      refine ⟨?_, ?_⟩
      refine alS h fun g1 w h => ?_
      iterate 2 refine kh0 h (by assumption) (by assumption) (by rfl) ?_
      refine ⟨?_, ?_⟩
      refine alS h fun g2 w h => ?_
      iterate 2 refine kh0 h (by assumption) (by assumption) (by rfl) ?_
      refine alS h fun g3 w h => ?_
      iterate 2 refine kh0 h (by assumption) (by assumption) (by rfl) ?_
      refine stA h 1 rfl rfl rfl rfl fun w h => ?_
      refine stA h 2 rfl rfl rfl rfl fun w h => ?_
      refine stA h 0 rfl rfl rfl rfl fun w h => ?_
      exact lf1 _ _ _ _ (h.pick [1, 2, 0, 3, 4, 5, 6, 7, 8, 9, 10, 11] (by decide) rfl)
      refine alS h fun g2 w h => ?_
      iterate 2 refine kh0 h (by assumption) (by assumption) (by rfl) ?_
      refine alS h fun g3 w h => ?_
      iterate 2 refine kh0 h (by assumption) (by assumption) (by rfl) ?_
      refine stA h 0 rfl rfl rfl rfl fun w h => ?_
      refine stA h 2 rfl rfl rfl rfl fun w h => ?_
      refine stA h 1 rfl rfl rfl rfl fun w h => ?_
      exact lf1 _ _ _ _ (h.pick [0, 2, 1, 3, 4, 5, 6, 7, 8, 9, 10, 11] (by decide) rfl)
      refine alS h fun g1 w h => ?_
      iterate 2 refine kh0 h (by assumption) (by assumption) (by rfl) ?_
      refine ⟨?_, ?_⟩
      refine alS h fun g2 w h => ?_
      iterate 2 refine kh0 h (by assumption) (by assumption) (by rfl) ?_
      refine alS h fun g3 w h => ?_
      iterate 2 refine kh0 h (by assumption) (by assumption) (by rfl) ?_
      refine stA h 1 rfl rfl rfl rfl fun w h => ?_
      refine stA h 0 rfl rfl rfl rfl fun w h => ?_
      refine stA h 2 rfl rfl rfl rfl fun w h => ?_
      exact lf1 _ _ _ _ (h.pick [1, 0, 2, 3, 4, 5, 6, 7, 8, 9, 10, 11] (by decide) rfl)
      refine alS h fun g2 w h => ?_
      iterate 2 refine kh0 h (by assumption) (by assumption) (by rfl) ?_
      refine alS h fun g3 w h => ?_
      iterate 2 refine kh0 h (by assumption) (by assumption) (by rfl) ?_
      refine stA h 0 rfl rfl rfl rfl fun w h => ?_
      refine stA h 1 rfl rfl rfl rfl fun w h => ?_
      refine stA h 2 rfl rfl rfl rfl fun w h => ?_
      exact lf1 _ _ _ _ h
      refine ⟨?_, ?_⟩
      refine alS h fun g1 w h => ?_
      iterate 2 refine kh0 h (by assumption) (by assumption) (by rfl) ?_
      refine ⟨?_, ?_⟩
      refine cl1 h n_ref16_Expect (cc7 h.ext) fun w h => ?_
      refine ExP4x ?_
      refine ⟨?_, ?_⟩
      refine alS h fun g2 w h => ?_
      iterate 2 refine kh0 h (by assumption) (by assumption) (by rfl) ?_
      refine alS h fun g3 w h => ?_
      iterate 2 refine kh0 h (by assumption) (by assumption) (by rfl) ?_
      refine stA h 2 rfl rfl rfl rfl fun w h => ?_
      refine stA h 1 rfl rfl rfl rfl fun w h => ?_
      refine stA h 0 rfl rfl rfl rfl fun w h => ?_
      exact lf1 _ _ _ _ (h.pick [2, 1, 0, 3, 4, 5, 6, 7, 8, 9, 10, 11] (by decide) rfl)
      refine alS h fun g2 w h => ?_
      iterate 2 refine kh0 h (by assumption) (by assumption) (by rfl) ?_
      refine alS h fun g3 w h => ?_
      iterate 2 refine kh0 h (by assumption) (by assumption) (by rfl) ?_
      refine stA h 2 rfl rfl rfl rfl fun w h => ?_
      refine stA h 0 rfl rfl rfl rfl fun w h => ?_
      refine stA h 1 rfl rfl rfl rfl fun w h => ?_
      exact lf1 _ _ _ _ (h.pick [2, 0, 1, 3, 4, 5, 6, 7, 8, 9, 10, 11] (by decide) rfl)
      refine ⟨?_, ?_⟩
      refine alS h fun g2 w h => ?_
      iterate 2 refine kh0 h (by assumption) (by assumption) (by rfl) ?_
      refine ⟨?_, ?_⟩
      refine cl1 h n_ref16_Expect (cc7 h.ext) fun w h => ?_
      refine ExP4x ?_
      refine alS h fun g3 w h => ?_
      iterate 2 refine kh0 h (by assumption) (by assumption) (by rfl) ?_
      refine stA h 2 rfl rfl rfl rfl fun w h => ?_
      refine stA h 1 rfl rfl rfl rfl fun w h => ?_
      refine stA h 0 rfl rfl rfl rfl fun w h => ?_
      exact lf1 _ _ _ _ (h.pick [2, 1, 0, 3, 4, 5, 6, 7, 8, 9, 10, 11] (by decide) rfl)
      refine alS h fun g3 w h => ?_
      iterate 2 refine kh0 h (by assumption) (by assumption) (by rfl) ?_
      refine cl1 h n_ref16_Expect (cc7 h.ext) fun w h => ?_
      refine ExP4x ?_
      refine stA h 2 rfl rfl rfl rfl fun w h => ?_
      refine stA h 1 rfl rfl rfl rfl fun w h => ?_
      refine stA h 0 rfl rfl rfl rfl fun w h => ?_
      exact lf1 _ _ _ _ (h.pick [2, 1, 0, 3, 4, 5, 6, 7, 8, 9, 10, 11] (by decide) rfl)
      refine alS h fun g2 w h => ?_
      iterate 2 refine kh0 h (by assumption) (by assumption) (by rfl) ?_
      refine ⟨?_, ?_⟩
      refine cl1 h n_ref16_Expect (cc7 h.ext) fun w h => ?_
      refine ExP4x ?_
      refine alS h fun g3 w h => ?_
      iterate 2 refine kh0 h (by assumption) (by assumption) (by rfl) ?_
      refine stA h 2 rfl rfl rfl rfl fun w h => ?_
      refine stA h 0 rfl rfl rfl rfl fun w h => ?_
      refine stA h 1 rfl rfl rfl rfl fun w h => ?_
      exact lf1 _ _ _ _ (h.pick [2, 0, 1, 3, 4, 5, 6, 7, 8, 9, 10, 11] (by decide) rfl)
      refine alS h fun g3 w h => ?_
      iterate 2 refine kh0 h (by assumption) (by assumption) (by rfl) ?_
      refine cl1 h n_ref16_Expect (cc7 h.ext) fun w h => ?_
      refine ExP4x ?_
      refine stA h 2 rfl rfl rfl rfl fun w h => ?_
      refine stA h 0 rfl rfl rfl rfl fun w h => ?_
      refine stA h 1 rfl rfl rfl rfl fun w h => ?_
      exact lf1 _ _ _ _ (h.pick [2, 0, 1, 3, 4, 5, 6, 7, 8, 9, 10, 11] (by decide) rfl)
      refine ⟨?_, ?_⟩
      refine alS h fun g1 w h => ?_
      iterate 2 refine kh0 h (by assumption) (by assumption) (by rfl) ?_
      refine ⟨?_, ?_⟩
      refine cl1 h n_ref16_Expect (cc7 h.ext) fun w h => ?_
      refine ExP4x ?_
      refine ⟨?_, ?_⟩
      refine alS h fun g2 w h => ?_
      iterate 2 refine kh0 h (by assumption) (by assumption) (by rfl) ?_
      refine alS h fun g3 w h => ?_
      iterate 2 refine kh0 h (by assumption) (by assumption) (by rfl) ?_
      refine stA h 1 rfl rfl rfl rfl fun w h => ?_
      refine stA h 2 rfl rfl rfl rfl fun w h => ?_
      refine stA h 0 rfl rfl rfl rfl fun w h => ?_
      exact lf1 _ _ _ _ (h.pick [1, 2, 0, 3, 4, 5, 6, 7, 8, 9, 10, 11] (by decide) rfl)
      refine alS h fun g2 w h => ?_
      iterate 2 refine kh0 h (by assumption) (by assumption) (by rfl) ?_
      refine alS h fun g3 w h => ?_
      iterate 2 refine kh0 h (by assumption) (by assumption) (by rfl) ?_
      refine stA h 0 rfl rfl rfl rfl fun w h => ?_
      refine stA h 2 rfl rfl rfl rfl fun w h => ?_
      refine stA h 1 rfl rfl rfl rfl fun w h => ?_
      exact lf1 _ _ _ _ (h.pick [0, 2, 1, 3, 4, 5, 6, 7, 8, 9, 10, 11] (by decide) rfl)
      refine ⟨?_, ?_⟩
      refine alS h fun g2 w h => ?_
      iterate 2 refine kh0 h (by assumption) (by assumption) (by rfl) ?_
      refine ⟨?_, ?_⟩
      refine cl1 h n_ref16_Expect (cc7 h.ext) fun w h => ?_
      refine ExP4x ?_
      refine alS h fun g3 w h => ?_
      iterate 2 refine kh0 h (by assumption) (by assumption) (by rfl) ?_
      refine stA h 1 rfl rfl rfl rfl fun w h => ?_
      refine stA h 2 rfl rfl rfl rfl fun w h => ?_
      refine stA h 0 rfl rfl rfl rfl fun w h => ?_
      exact lf1 _ _ _ _ (h.pick [1, 2, 0, 3, 4, 5, 6, 7, 8, 9, 10, 11] (by decide) rfl)
      refine alS h fun g3 w h => ?_
      iterate 2 refine kh0 h (by assumption) (by assumption) (by rfl) ?_
      refine cl1 h n_ref16_Expect (cc7 h.ext) fun w h => ?_
      refine ExP4x ?_
      refine stA h 1 rfl rfl rfl rfl fun w h => ?_
      refine stA h 2 rfl rfl rfl rfl fun w h => ?_
      refine stA h 0 rfl rfl rfl rfl fun w h => ?_
      exact lf1 _ _ _ _ (h.pick [1, 2, 0, 3, 4, 5, 6, 7, 8, 9, 10, 11] (by decide) rfl)
      refine alS h fun g2 w h => ?_
      iterate 2 refine kh0 h (by assumption) (by assumption) (by rfl) ?_
      refine ⟨?_, ?_⟩
      refine cl1 h n_ref16_Expect (cc7 h.ext) fun w h => ?_
      refine ExP4x ?_
      refine alS h fun g3 w h => ?_
      iterate 2 refine kh0 h (by assumption) (by assumption) (by rfl) ?_
      refine stA h 0 rfl rfl rfl rfl fun w h => ?_
      refine stA h 2 rfl rfl rfl rfl fun w h => ?_
      refine stA h 1 rfl rfl rfl rfl fun w h => ?_
      exact lf1 _ _ _ _ (h.pick [0, 2, 1, 3, 4, 5, 6, 7, 8, 9, 10, 11] (by decide) rfl)
      refine alS h fun g3 w h => ?_
      iterate 2 refine kh0 h (by assumption) (by assumption) (by rfl) ?_
      refine cl1 h n_ref16_Expect (cc7 h.ext) fun w h => ?_
      refine ExP4x ?_
      refine stA h 0 rfl rfl rfl rfl fun w h => ?_
      refine stA h 2 rfl rfl rfl rfl fun w h => ?_
      refine stA h 1 rfl rfl rfl rfl fun w h => ?_
      exact lf1 _ _ _ _ (h.pick [0, 2, 1, 3, 4, 5, 6, 7, 8, 9, 10, 11] (by decide) rfl)
      refine alS h fun g1 w h => ?_
      iterate 2 refine kh0 h (by assumption) (by assumption) (by rfl) ?_
      refine ⟨?_, ?_⟩
      refine cl1 h n_ref16_Expect (cc7 h.ext) fun w h => ?_
      refine ExP4x ?_
      refine ⟨?_, ?_⟩
      refine alS h fun g2 w h => ?_
      iterate 2 refine kh0 h (by assumption) (by assumption) (by rfl) ?_
      refine alS h fun g3 w h => ?_
      iterate 2 refine kh0 h (by assumption) (by assumption) (by rfl) ?_
      refine stA h 1 rfl rfl rfl rfl fun w h => ?_
      refine stA h 0 rfl rfl rfl rfl fun w h => ?_
      refine stA h 2 rfl rfl rfl rfl fun w h => ?_
      exact lf1 _ _ _ _ (h.pick [1, 0, 2, 3, 4, 5, 6, 7, 8, 9, 10, 11] (by decide) rfl)
      refine alS h fun g2 w h => ?_
      iterate 2 refine kh0 h (by assumption) (by assumption) (by rfl) ?_
      refine alS h fun g3 w h => ?_
      iterate 2 refine kh0 h (by assumption) (by assumption) (by rfl) ?_
      refine stA h 0 rfl rfl rfl rfl fun w h => ?_
      refine stA h 1 rfl rfl rfl rfl fun w h => ?_
      refine stA h 2 rfl rfl rfl rfl fun w h => ?_
      exact lf1 _ _ _ _ h
      refine ⟨?_, ?_⟩
      refine alS h fun g2 w h => ?_
      iterate 2 refine kh0 h (by assumption) (by assumption) (by rfl) ?_
      refine ⟨?_, ?_⟩
      refine cl1 h n_ref16_Expect (cc7 h.ext) fun w h => ?_
      refine ExP4x ?_
      refine alS h fun g3 w h => ?_
      iterate 2 refine kh0 h (by assumption) (by assumption) (by rfl) ?_
      refine stA h 1 rfl rfl rfl rfl fun w h => ?_
      refine stA h 0 rfl rfl rfl rfl fun w h => ?_
      refine stA h 2 rfl rfl rfl rfl fun w h => ?_
      exact lf1 _ _ _ _ (h.pick [1, 0, 2, 3, 4, 5, 6, 7, 8, 9, 10, 11] (by decide) rfl)
      refine alS h fun g3 w h => ?_
      iterate 2 refine kh0 h (by assumption) (by assumption) (by rfl) ?_
      refine cl1 h n_ref16_Expect (cc7 h.ext) fun w h => ?_
      refine ExP4x ?_
      refine stA h 1 rfl rfl rfl rfl fun w h => ?_
      refine stA h 0 rfl rfl rfl rfl fun w h => ?_
      refine stA h 2 rfl rfl rfl rfl fun w h => ?_
      exact lf1 _ _ _ _ (h.pick [1, 0, 2, 3, 4, 5, 6, 7, 8, 9, 10, 11] (by decide) rfl)
      refine alS h fun g2 w h => ?_
      iterate 2 refine kh0 h (by assumption) (by assumption) (by rfl) ?_
      refine ⟨?_, ?_⟩
      refine cl1 h n_ref16_Expect (cc7 h.ext) fun w h => ?_
      refine ExP4x ?_
      refine alS h fun g3 w h => ?_
      iterate 2 refine kh0 h (by assumption) (by assumption) (by rfl) ?_
      refine stA h 0 rfl rfl rfl rfl fun w h => ?_
      refine stA h 1 rfl rfl rfl rfl fun w h => ?_
      refine stA h 2 rfl rfl rfl rfl fun w h => ?_
      exact lf1 _ _ _ _ h
      refine alS h fun g3 w h => ?_
      iterate 2 refine kh0 h (by assumption) (by assumption) (by rfl) ?_
      refine cl1 h n_ref16_Expect (cc7 h.ext) fun w h => ?_
      refine ExP4x ?_
      refine stA h 0 rfl rfl rfl rfl fun w h => ?_
      refine stA h 1 rfl rfl rfl rfl fun w h => ?_
      refine stA h 2 rfl rfl rfl rfl fun w h => ?_
      exact lf1 _ _ _ _ h
    refine Bn_neF (by omega) ?_
    refine Gd_F ?_
    refine ldA h 3 rfl rfl ?_
    refine Gd_F ?_
    refine ldA h 0 rfl rfl ?_
    refine Gd_F ?_
    refine qNeS ?_
    refine Pick_F ?_
    refine Gd_F ?_
    refine ldA h 4 rfl rfl ?_
    refine Gd_F ?_
    refine ldA h 1 rfl rfl ?_
    refine Gd_F ?_
    refine qNeS ?_
    refine Pick_F ?_
    refine Gd_F ?_
    refine ldA h 5 rfl rfl ?_
    refine Gd_F ?_
    refine ldA h 2 rfl rfl ?_
    refine Gd_F ?_
    refine qNeS ?_
    refine Pick_F ?_
    refine If_F ?_
    refine Bn_ad (by omega) (by omega) ?_
    exact ⟨⟨j + 1, by omega, rfl, h.pick [] (by decide) rfl⟩, by show 4 - ((j : Int) + 1).toNat < 4 - (j : Int).toNat; omega⟩
  refine leS (hvx.hp h) ?_
  refine Bn_ltF (by omega) ?_
  refine If_F ?_
  exact Ret.mk ⟨Ext.tr x1 h.ext, rfl⟩
end Go.Proofs.YtnocjgmmglmfiaaGreatDoor
