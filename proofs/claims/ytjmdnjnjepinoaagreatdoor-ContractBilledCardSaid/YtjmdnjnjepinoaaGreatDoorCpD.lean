/-
  Contracts and plain lemmas. By an AI agent.
-/
import Derived.Test.YtjmdnjnjepinoaaGreatDoorLCpD
import Derived.Test.YtjmdnjnjepinoaaGreatDoorCpB
set_option linter.unusedSimpArgs false
set_option linter.unusedVariables false
set_option linter.unusedSectionVars false
namespace Go.Proofs.YtjmdnjnjepinoaaGreatDoor
open Go Go.Eng Go.Proofs Go.Num Go.RowKit
set_option maxRecDepth 100000
set_option linter.unusedVariables false
set_option linter.unusedSectionVars false
theorem four {l : List Int} (h : l.length = 4) : ∃ a b c d, l = [a, b, c, d] := by
 match l, h with
 | [a, b, c, d], _ => exact ⟨a, b, c, d, rfl⟩
theorem ownF_t {r : Int} {d : Du} {T : List Int} {i : Nat} (h1 : d.1 = r) (h2 : d.2.1 = (i : Int)) : ownF r T d = T.set i (T.getD i 0 + d.2.2) := by
 unfold ownF
 rw [if_pos h1]
 unfold addT
 rw [h2]; rfl
theorem ownF_n {r : Int} {d : Du} {T : List Int} (h1 : d.1 ≠ r) : ownF r T d = T := by unfold ownF; rw [if_neg h1]
section
variable {w0 : World} {v : Value} {l : List I5} {x0 x1 x2 x3 : Int} (he : En w0) (hv : SlC w0 5 v l.length (l.flatMap f5)) (hI : I5ok l) (hll : l.length ≤ 9223372036854775807) (h0 : I64 x0) (h1 : I64 x1) (h2 : I64 x2) (h3 : I64 x3)
include he hv hI hll h0 h1 h2 h3
set_option maxHeartbeats 16000000 in
theorem law_Billed : Calls Tryz.prog 8 #[.agg #[.int .i64 x0, .int .i64 x1, .int .i64 x2, .int .i64 x3], v] w0 (Ret fun r w' => Ext w0 w' ∧ r = .bool true) := by
 have t0 := pickZ_bd (c := x0) (n := 4) (by decide)
 have t1 := pickZ_bd (c := x1) (n := 4) (by decide)
 have t3 := capZ_bd x3
 have cc1 := fun {W : World} (x : Ext w0 W) => c_sane (w0 := W) (he.ext x)
 have cc2 : ∀ {W : World}, Ext w0 W → Calls Tryz.prog 12 #[.agg #[.int .i64 x0, .int .i64 x1, .int .i64 x2, .int .i64 x3]] W (Ret fun r w' => Ext W w' ∧ r = aC (pickZ x0 4) (pickZ x1 4) (smQ x2 x0) (capZ x3)) := fun {W} _ => c_Made h0 h1 h2 h3
 have hgp := fun {W : World} (e : Ext w0 W) {u : Value} {m : List Int} (hmb : ∀ y ∈ m, 0 ≤ y ∧ y ≤ 1000) (hml : m.length ≤ 100) (hu : SlC W 1 u m.length (m.flatMap fI)) => g_pen (W := W) (v := u) (m := m) (tm := pickZ x0 4) (gr := pickZ x1 4) (cap := capZ x3) (n := x2) (d := x0) (he.ext e) (by omega) (by omega) t3 hmb hml hu
 have hP := smQ_Pri x2 x0
 have hval := val_mk (tm := pickZ x0 4) (gr := pickZ x1 4) (cap := capZ x3) (n := x2) (d := x0) (by omega) (by omega) t3
 have hCk : CTk ⟨pickZ x0 4, pickZ x1 4, tx (smQ x2 x0), capZ x3⟩ := ⟨by show I64 (pickZ x0 4); omega, by show I64 (pickZ x1 4); omega, by show I64 (capZ x3); omega, itoa_ok hP.s.rb.n, itoa_ok hP.s.rb.d⟩
 obtain ⟨q, hq⟩ : ∃ q, smQ x2 x0 = q := ⟨_, rfl⟩
 obtain ⟨g, hg⟩ : ∃ g : Nat, (pickZ x1 4).toNat = g := ⟨_, rfl⟩
 have hgz : pickZ x1 4 = (g : Int) := by omega
 obtain ⟨cap, hcap⟩ : ∃ c, capZ x3 = c := ⟨_, rfl⟩
 obtain ⟨tm, htm⟩ : ∃ c, pickZ x0 4 = c := ⟨_, rfl⟩
 have hgp : ∀ {W : World}, Ext w0 W → ∀ {u : Value} {m : List Int}, (∀ y ∈ m, 0 ≤ y ∧ y ≤ 1000) → m.length ≤ 100 → SlC W 1 u m.length (m.flatMap fI) → Calls Tryz.prog 13 #[aC tm g q cap, u] W (Ret fun r w' => ∃ u, r = .tuple #[u, .int .i64 0] ∧ Hp [] W w' [ro tI 1 u m.length ((penL q g cap m).flatMap fI)]) := fun e u m a b hu => by
  have := hgp e a b hu
  rw [hq, hg, hgz, htm, hcap] at this
  exact this
 rw [hq, hgz, hcap, htm] at cc2 hval hCk
 rw [hq] at hP
 rw [hcap] at t3
 rw [hgz] at t1
 rw [htm] at t0
 clear hq hg hcap htm
 apply e_law26_ContractBilled
 unfold s_law26_ContractBilled
 have h := Hp.init [] w0
 refine bxA h fun g1 w h => ?_
 refine cl1 h n_law26_sane (cc1 h.ext) fun w h => ?_
 refine ldA h 0 rfl rfl ?_
 refine cl1 h n_ref26_Made (cc2 h.ext) fun w h => ?_
 refine alS h fun g2 w h => ?_
 refine stA h 0 rfl rfl rfl rfl fun w h => ?_
 dsimp only [List.set] at h
 refine Cl_i n_ref26_Requests (c_Requests (hv.hp h) hI hll) ?_
 rintro v1 w' ⟨ks, L, hL, hM, hO, hh⟩
 have h := h.cat2 hh ro_sm (shE_sm hO)
 clear hh
 refine Exists.elim (mon_of hP.nn (g := g) (cap := cap) (by omega) t3 hM hL) fun B hB => ?_
 have hLk := hM.k hL
 have hltb : ∀ y ∈ L.map (·.lt), 0 ≤ y ∧ y ≤ 1000 := fun y hy => by
  obtain ⟨e, he, rfl⟩ := List.mem_map.1 hy
  obtain ⟨i, hi⟩ := List.getElem?_of_mem he
  have := madeE_lt (hM i e hi)
  omega
 refine Exists.elim (p := fun pen => penL q g cap (L.map (·.lt)) = pen) ⟨_, rfl⟩ fun pen hpe => ?_
 rw [hpe] at hB
 have hlm : (L.map (·.lt)).length = L.length := List.length_map ..
 have hpO : penO ⟨tm, (g : Int), tx q, cap⟩ (L.map (·.lt)) = some pen := by
  unfold penO
  rw [hval]
  simp only [Option.bind_some]
  rw [if_pos ⟨by omega, fun y hy => late_ok (hltb y hy)⟩, ← hpe]; rfl
 have hbO : bilO ⟨tm, (g : Int), tx q, cap⟩ L = some (B.map duB).flatten := bilO_y hpO hB.ok hB.all
 have cr1 : ∀ {W : World}, Ext w0 W → ∀ {u : Value}, SlC W 1 u L.length ((L.map (·.lt)).flatMap fI) → Calls Tryz.prog 13 #[aC tm g q cap, u] W (Ret fun r w' => ∃ u, r = .tuple #[u, .int .i64 0] ∧ Hp [] W w' [ro tI 1 u L.length (pen.flatMap fI)]) := fun {W} e u hu => by
  have := hgp e hltb (by omega) (u := u) (by rw [hlm]; exact hu)
  rw [hpe, hlm] at this
  exact this
 refine Exists.elim (p := fun ds => (B.map duB).flatten = ds) ⟨_, rfl⟩ fun ds hds => ?_
 have hdu := hB.du
 have hdl := hB.dl
 have hsm := hB.sm
 have hown := fun (i : Nat) (e : LE) (p : Int) => hB.own (i := i) (e := e) (p := p)
 rw [hds] at hdu hdl hsm hbO hown
 have htot : totO ds = some (totL ds) := by
  unfold totO
  rw [if_pos ⟨by omega, fun d hd => by have := hdu d hd; exact ⟨this.2.1, by omega, by omega⟩⟩]
 have hts : (totL ds).sum = pen.sum := by
  unfold totL
  rw [tot_sum ds _ fun d hd => by have := hdu d hd; simp; omega, hsm]
  simp
 have htb : ∀ y ∈ totL ds, 0 ≤ y ∧ y ≤ 1000000000000 := fun y hy => by
  have := totL_bd ds.length rfl (fun d hd => by have := hdu d hd; exact ⟨this.2.1, by omega, by omega⟩) y hy
  omega
 have hpb := hB.pb
 have hps := hB.ps
 have hpl := hB.pl
 have cc3 : ∀ {W : World}, Ext w0 W → ∀ {u : Value}, SlC W 1 u 4 ((totL ds).flatMap fI) → Calls Tryz.prog 34 #[u] W (Ret fun r w' => Ext W w' ∧ r = .int .i64 pen.sum) := fun {W} _ u hu => by
  have := c_sums (w0 := W) (v := u) (l := totL ds) (by rw [totL_len]; exact hu) (by rw [totL_len]; decide) htb
  rw [hts] at this
  exact this
 have cc4 : ∀ {W : World}, Ext w0 W → ∀ {u : Value}, SlC W 1 u L.length (pen.flatMap fI) → Calls Tryz.prog 34 #[u] W (Ret fun r w' => Ext W w' ∧ r = .int .i64 pen.sum) := fun {W} _ u hu => c_sums (hpl ▸ hu) (by omega) fun y hy => by have := hpb y hy; omega
 have cr2 : ∀ {W : World}, Ext w0 W → ∀ {u : Value}, SlC W 3 u ds.length (ds.flatMap fU) → Calls Tryz.prog 21 #[u] W (Ret fun r w' => ∃ u, r = .tuple #[u, .int .i64 0] ∧ Hp [] W w' [ro tI 1 u 4 ((totL ds).flatMap fI)]) := fun {W} e u hu => by
  have := c_Totals (w0 := W) hu (fun d hd => by have := hdu d hd; exact ⟨by omega, by omega, by omega⟩) (by omega)
  rw [htot] at this
  have e4 := totL_len ds
  rw [← e4]
  exact this
 have hbil : ∀ {W : World}, Ext w0 W → ∀ {u : Value}, SlC W 3 u L.length (L.flatMap fL) → (∀ e ∈ L, SlC W 2 (.slice e.a e.n e.k) e.sh.length (e.sh.flatMap fR)) → Calls Tryz.prog 18 #[aC tm g q cap, u] W (Ret fun r w' => ∃ u, r = .tuple #[u, .int .i64 0] ∧ Hp [] W w' [ro tD 3 u ds.length (ds.flatMap fU)]) := fun {W} e u hu hs => by
  have := c_Bill (w0 := W) (c := ⟨tm, (g : Int), tx q, cap⟩) hCk hu hs hLk (by omega) (he.ext e)
  rw [hbO] at this
  exact this
 have h := h.nil tI 1
 refine Lp2.mk (fun u i W => ∃ j : Nat, j ≤ L.length ∧ i = .int .i64 j ∧ Hp [] w0 W [ro tI 1 u j (((L.take j).map (·.lt)).flatMap fI), ro tLt 3 v1 L.length (L.flatMap fL), shE ks L, bx g2 tC [.int .i64 tm, .int .i64 (g : Int), str (eN (some q)), str (eD (some q)), .int .i64 cap]])
  (fun _ i _ => match i with | .int _ i' => L.length - i'.toNat | _ => 0) ⟨0, by omega, rfl, h.pick [0, 1, 2, 3] (by decide) rfl⟩ ?_
 clear h cc1 cc2
 rintro u _ W ⟨j, hj, rfl, h⟩
 by_cases hjl : j < L.length
 ·refine Exists.elim (p := fun x => L[j]? = some x) ⟨_, List.getElem?_eq_getElem hjl⟩ fun e he => ?_
  have sx : Seg (L.flatMap fL) (j * 3) (fL e) := flat_seg (f := fL) (fun _ => rfl) he
  clear cc3 cc4 cr1 cr2
  refine leS (h.sl (i := 1) rfl) ?_
  refine Bn_ltT (by omega) ?_
  refine If_T ?_
  refine iaR h 1 rfl (by omega) fun zg zk zv => ?_
  refine faS ?_
  refine lr1 h 1 rfl ‹_› ‹_› (by rfl) ?_
  refine bs1A h (by rfl) (by decide) (by rfl) (by decide) fun v2 w h => ?_
  refine apR (by rfl) (by decide) h 1 rfl (h.sl (i := 0) rfl) (by first | rfl | assumption) (by omega) fun v3 w h => ?_
  refine Bn_ad (by omega) (by omega) ?_
  dsimp only [List.set] at h
  refine ⟨⟨j + 1, by omega, rfl, ?_⟩, by show L.length - ((j : Int) + 1).toNat < L.length - (j : Int).toNat; omega⟩
  rw [take_snoc he, List.map_append, List.flatMap_append]
  exact h.pick [1, 2, 3, 4] (by decide) rfl
 have hjl' : j = L.length := by omega
 rw [List.take_of_length_le (by omega), hjl'] at h
 refine leS (h.sl (i := 1) rfl) ?_
 refine Bn_ltF (by omega) ?_
 refine If_F ?_
 refine ldA h 3 rfl rfl ?_
 refine clR h n_contract_Penalties (cr1 h.ext (by first | exact (h.sl (i := 0) rfl) | assumption)) fun v2 w h => ?_
 refine Ex2 ?_
 refine ldA h 4 rfl rfl ?_
 refine clR h n_contract_Bill (hbil h.ext (h.sl (i := 2) rfl) (h.get (i := 3) rfl)) fun v3 w h => ?_
 refine Ex2 ?_
 refine clR h n_contract_Totals (cr2 h.ext (by first | exact (h.sl (i := 0) rfl) | assumption)) fun v4 w h => ?_
 refine Ex2 ?_
 replace h := h.dr
 refine Dv_neF (by omega) ?_
 iterate 2 refine GdP_F ?_
 refine Dv_neF (by omega) ?_
 refine PickP_F ?_
 iterate 2 refine GdP_F ?_
 refine Dv_neF (by omega) ?_
 refine PickP_F ?_
 iterate 2 refine GdP_F ?_
 refine dlS (h.sl (i := 2) rfl) ?_
 iterate 2 refine GdP_F ?_
 refine dlS (h.sl (i := 4) rfl) ?_
 refine GdP_F ?_
 refine Dv_neF (by omega) ?_
 refine PickP_F ?_
 iterate 2 refine GdP_F ?_
 refine dlS (h.sl (i := 0) rfl) ?_
 refine GdP_F ?_
 refine Dv_neF (by omega) ?_
 refine PickP_F ?_
 iterate 2 refine GdP_F ?_
 refine Gd_F ?_
 refine cl1 h n_law26_sums (cc3 h.ext (by first | exact (h.sl (i := 0) rfl) | assumption)) fun w h => ?_
 refine Gd_F ?_
 refine cl1 h n_law26_sums (cc4 h.ext (by first | exact (h.sl (i := 2) rfl) | assumption)) fun w h => ?_
 refine GdP_F ?_
 refine Dv_neF (by omega) ?_
 refine PickP_F ?_
 iterate 2 refine GdP_F ?_
 refine dfS ?_
 refine GdP_F ?_
 refine dl1 h 6 rfl rfl ?_
 refine Gd_F ?_
 refine cl1 h n_law26_sums (cc4 h.ext (by first | exact (h.sl (i := 2) rfl) | assumption)) fun w h => ?_
 refine Kg_F ?_
 refine kl1 h 6 rfl rfl ?_
 refine GdP_F ?_
 refine Dv_gtF (by omega) ?_
 refine PickP_F ?_
 refine If_F ?_
 have h := h.pick [1, 2, 4, 5] (by decide) rfl
 clear cc3 cc4 cr1 cr2 hbil
 refine Lp1.mk (fun i W => ∃ j : Nat, j ≤ L.length ∧ i = .int .i64 j ∧ Hp [] w0 W [ro tD 3 v3 ds.length (ds.flatMap fU), ro tI 1 v2 L.length (pen.flatMap fI), ro tLt 3 v1 L.length (L.flatMap fL), shE ks L])
  (fun i _ => match i with | .int _ i' => L.length - i'.toNat | _ => 0) ⟨0, by omega, rfl, h⟩ ?_
 clear h
 rintro _ W ⟨j, hj, rfl, h⟩
 by_cases hjl : j < L.length
 rotate_left
 ·refine leS (h.sl (i := 2) rfl) ?_
  refine Bn_ltF (by omega) ?_
  refine If_F ?_
  exact Ret.mk ⟨h.ext, rfl⟩
 refine Exists.elim (p := fun x => L[j]? = some x) ⟨_, List.getElem?_eq_getElem hjl⟩ fun e hej => ?_
 refine Exists.elim (p := fun x => pen[j]? = some x) ⟨_, List.getElem?_eq_getElem (by omega)⟩ fun p hp => ?_
 have sx : Seg (L.flatMap fL) (j * 3) (fL e) := flat_seg (f := fL) (fun _ => rfl) hej
 have sp : Seg (pen.flatMap fI) (j * 1) (fI p) := flat_seg (f := fI) (fun _ => rfl) hp
 have hek := hLk e (List.mem_of_getElem? hej)
 have hk := (hB.at' j e p hej hp).1
 have hpp := hpb p (List.mem_of_getElem? hp)
 have hon := hown j e p hej hp
 refine Exists.elim (four hk.len) fun a hq => Exists.elim hq fun b hq => Exists.elim hq fun c hq => Exists.elim hq fun d hq => ?_
 have hnn := hk.nn
 have hsum := hk.sum
 have hspl := hk.spl
 rw [hq] at hnn hsum hspl hon
 have na := hnn a (by simp)
 have nb := hnn b (by simp)
 have nc := hnn c (by simp)
 have nd := hnn d (by simp)
 have cc1 : ∀ {W : World}, Ext w0 W → ∀ {u : Value}, SlC W 1 u 4 [.int .i64 a, .int .i64 b, .int .i64 c, .int .i64 d] → Calls Tryz.prog 34 #[u] W (Ret fun r w' => Ext W w' ∧ r = .int .i64 p) := fun {W} _ u hu => by
  have := c_sums (w0 := W) (v := u) (l := [a, b, c, d]) hu (by simp) (fun y hy => by have := hnn y hy; omega)
  rw [hsum] at this
  exact this
 have cc2 : ∀ {W : World}, Ext w0 W → ∀ {u u' : Value}, SlC W 1 u 4 [.int .i64 a, .int .i64 b, .int .i64 c, .int .i64 d] → SlC W 1 u' 4 [.int .i64 a, .int .i64 b, .int .i64 c, .int .i64 d] → Calls Tryz.prog 17 #[u, u'] W (Ret fun r w' => Ext W w' ∧ r = .bool true) := fun {W} e u u' h1 h2 => c_SameT (l := [a, b, c, d]) h1 h2 (by simp)
 have hsp4 : e.lt ≠ 0 → ∀ {W : World}, Ext w0 W → SlC W 2 (.slice e.a e.n e.k) e.sh.length (e.sh.flatMap fR) → Calls Tryz.prog 24 #[.int .i64 p, .slice e.a e.n e.k] W (Ret fun r w' => ∃ u, r = .tuple #[u, .int .i64 0] ∧ Hp [] W w' [ro tI 1 u 4 [.int .i64 a, .int .i64 b, .int .i64 c, .int .i64 d]]) := fun hne {W} ex hu => by
  have := c_Split (w0 := W) (a := p) hu hek.sh hek.sl (by omega) (he.ext ex)
  rw [hspl hne] at this
  exact this
 have hr1 := hek.rq
 have hr2 := hek.lt
 refine leS (h.sl (i := 2) rfl) ?_
 refine Bn_ltT (by omega) ?_
 refine If_T ?_
 refine alS h fun g3 w h => ?_
 refine Lp1.mk (fun i W => ∃ (k : Nat) (A1 A2 A3 A4 : Int), k ≤ ds.length ∧ i = .int .i64 k ∧ (ds.take k).foldl (ownF e.rq) [0, 0, 0, 0] = [A1, A2, A3, A4] ∧ ((0 ≤ A1 ∧ A1 ≤ k * 1000000000) ∧ (0 ≤ A2 ∧ A2 ≤ k * 1000000000) ∧ (0 ≤ A3 ∧ A3 ≤ k * 1000000000) ∧ (0 ≤ A4 ∧ A4 ≤ k * 1000000000)) ∧ Hp [] w0 W [bx g3 26 [.int .i64 A1, .int .i64 A2, .int .i64 A3, .int .i64 A4], ro tD 3 v3 ds.length (ds.flatMap fU), ro tI 1 v2 L.length (pen.flatMap fI), ro tLt 3 v1 L.length (L.flatMap fL), shE ks L])
  (fun i _ => match i with | .int _ i' => ds.length - i'.toNat | _ => 0) ⟨0, 0, 0, 0, 0, by omega, rfl, rfl, by decide, h⟩ ?_
 clear h
 rintro _ W ⟨k, A1, A2, A3, A4, hkk, rfl, hf, hbd, h⟩
 by_cases hkl : k < ds.length
 rotate_left
 ·rw [List.take_of_length_le (by omega), hon] at hf
  simp only [List.cons.injEq, and_true] at hf
  rw [← hf.1, ← hf.2.1, ← hf.2.2.1, ← hf.2.2.2] at h
  by_cases hlz : e.lt = 0
  ·refine leS (h.sl (i := 1) rfl) ?_
   refine Bn_ltF (by omega) ?_
   refine If_F ?_
   replace h := h.dr
   refine dscA ?_
   refine diR h 2 rfl (by omega) fun zg zk zv => ?_
   refine dr0 h 2 rfl ‹_› ‹_› (by rfl) ?_
   refine cl1 h n_law26_sums (cc1 h.ext (by first | exact (bx_sl (h.get (i := 0) rfl) rfl) | assumption)) fun w h => ?_
   refine kr0 h 2 rfl ‹_› ‹_› (by rfl) ?_
   refine Dv_neF (by omega) ?_
   refine If_F ?_
   refine iaR h 3 rfl (by omega) fun zg zk zv => ?_
   refine faS ?_
   refine lr1 h 3 rfl ‹_› ‹_› (by rfl) ?_
   refine Bn_eqT (by omega) ?_
   refine If_T ?_
   refine Bn_ad (by omega) (by omega) ?_
   exact ⟨⟨j + 1, by omega, rfl, h.pick [1, 2, 3, 4] (by decide) rfl⟩, by show L.length - ((j : Int) + 1).toNat < L.length - (j : Int).toNat; omega⟩
  ·refine leS (h.sl (i := 1) rfl) ?_
   refine Bn_ltF (by omega) ?_
   refine If_F ?_
   replace h := h.dr
   refine dscA ?_
   refine diR h 2 rfl (by omega) fun zg zk zv => ?_
   refine dr0 h 2 rfl ‹_› ‹_› (by rfl) ?_
   refine cl1 h n_law26_sums (cc1 h.ext (by first | exact (bx_sl (h.get (i := 0) rfl) rfl) | assumption)) fun w h => ?_
   refine kr0 h 2 rfl ‹_› ‹_› (by rfl) ?_
   refine Dv_neF (by omega) ?_
   refine If_F ?_
   refine iaR h 3 rfl (by omega) fun zg zk zv => ?_
   refine faS ?_
   refine lr1 h 3 rfl ‹_› ‹_› (by rfl) ?_
   refine Bn_eqF (by omega) ?_
   refine If_F ?_
   replace h := h.dr
   refine diR h 2 rfl (by omega) fun zg zk zv => ?_
   refine dr0 h 2 rfl ‹_› ‹_› (by rfl) ?_
   refine diR h 3 rfl (by omega) fun zg zk zv => ?_
   refine dfS ?_
   refine dr1 h 3 rfl ‹_› ‹_› (by rfl) ?_
   refine clR h n_contract_Split (hsp4 hlz h.ext (h.get (i := 4) rfl e (List.mem_of_getElem? hej))) fun v5 w h => ?_
   refine ExP2 ?_
   refine Bn_neF (by omega) ?_
   iterate 2 refine Gd_F ?_
   refine scA ?_
   refine Gd_F ?_
   refine cl1 h n_ref26_Same (cc2 h.ext (by first | exact (h.sl (i := 0) rfl) | assumption) (by first | exact (bx_sl (h.get (i := 1) rfl) rfl) | assumption)) fun w h => ?_
   refine Gd_F ?_
   refine Un_T ?_
   refine Pick_F ?_
   refine If_F ?_
   refine Bn_ad (by omega) (by omega) ?_
   exact ⟨⟨j + 1, by omega, rfl, h.pick [2, 3, 4, 5] (by decide) rfl⟩, by show L.length - ((j : Int) + 1).toNat < L.length - (j : Int).toNat; omega⟩
 clear cc1 cc2 hsp4
 refine Exists.elim (p := fun x => ds[k]? = some x) ⟨_, List.getElem?_eq_getElem hkl⟩ fun dd hd => ?_
 have hdd := hdu dd (List.mem_of_getElem? hd)
 have d1 := hdd.1
 have d2 := hdd.2.1
 have d3 := hdd.2.2
 have b1 := hbd.1
 have b2 := hbd.2.1
 have b3 := hbd.2.2.1
 have b4 := hbd.2.2.2
 have hfs : (ds.take (k + 1)).foldl (ownF e.rq) [0, 0, 0, 0] = ownF e.rq [A1, A2, A3, A4] dd := by rw [take_snoc hd, List.foldl_append, hf]; rfl
 by_cases hrq : dd.1 = e.rq
 rotate_left
 ·have sd : Seg (ds.flatMap fU) (k * 3) (fU dd) := flat_seg (f := fU) (fun _ => rfl) hd
  rw [ownF_n hrq] at hfs
  refine leS (h.sl (i := 1) rfl) ?_
  refine Bn_ltT (by omega) ?_
  refine If_T ?_
  replace h := h.dr
  refine diR h 1 rfl (by omega) fun zg zk zv => ?_
  refine dfS ?_
  refine dr0 h 1 rfl ‹_› ‹_› (by rfl) ?_
  refine diR h 3 rfl (by omega) fun zg zk zv => ?_
  refine dfS ?_
  refine dr0 h 3 rfl ‹_› ‹_› (by rfl) ?_
  refine Dv_neT (by omega) ?_
  refine If_T ?_
  refine Bn_ad (by omega) (by omega) ?_
  exact ⟨⟨k + 1, _, _, _, _, by omega, rfl, hfs, by omega, h⟩, by show ds.length - ((k : Int) + 1).toNat < ds.length - (k : Int).toNat; omega⟩
 by_cases ht0 : dd.2.1 = 0
 ·have sd : Seg (ds.flatMap fU) (k * 3) [.int .i64 dd.1, .int .i64 0, .int .i64 dd.2.2] := by rw [← ht0]; exact flat_seg (f := fU) (fun _ => rfl) hd
  rw [ownF_t (i := 0) hrq ht0] at hfs
  have hfs' : (ds.take (k + 1)).foldl (ownF e.rq) [0, 0, 0, 0] = [(A1 + dd.2.2), A2, A3, A4] := hfs
  refine leS (h.sl (i := 1) rfl) ?_
  refine Bn_ltT (by omega) ?_
  refine If_T ?_
  replace h := h.dr
  refine diR h 1 rfl (by omega) fun zg zk zv => ?_
  refine dfS ?_
  refine dr0 h 1 rfl ‹_› ‹_› (by rfl) ?_
  refine diR h 3 rfl (by omega) fun zg zk zv => ?_
  refine dfS ?_
  refine dr0 h 3 rfl ‹_› ‹_› (by rfl) ?_
  refine Dv_neF (by omega) ?_
  refine If_F ?_
  refine iaR h 1 rfl (by omega) fun zg zk zv => ?_
  refine faS ?_
  refine lr1 h 1 rfl ‹_› ‹_› (by rfl) ?_
  refine Bn_ltF (by omega) ?_
  iterate 3 refine Gd_F ?_
  refine iaR h 1 rfl (by omega) fun zg zk zv => ?_
  refine Gd_F ?_
  refine faS ?_
  refine Gd_F ?_
  refine lr1 h 1 rfl ‹_› ‹_› (by rfl) ?_
  refine Gd_F ?_
  refine Bn_gtF (by omega) ?_
  refine Pick_F ?_
  iterate 3 refine Gd_F ?_
  refine iaR h 1 rfl (by omega) fun zg zk zv => ?_
  refine Gd_F ?_
  refine faS ?_
  refine Gd_F ?_
  refine lr1 h 1 rfl ‹_› ‹_› (by rfl) ?_
  refine Gd_F ?_
  refine Bn_ltF (by omega) ?_
  refine Pick_F ?_
  refine If_F ?_
  replace h := h.dr
  refine diR h 1 rfl (by omega) fun zg zk zv => ?_
  refine dfS ?_
  refine dr1 h 1 rfl ‹_› ‹_› (by rfl) ?_
  refine diR h 1 rfl (by omega) fun zg zk zv => ?_
  refine dfS ?_
  refine dr1 h 1 rfl ‹_› ‹_› (by rfl) ?_
  refine diZ (by decide) (by decide) ?_
  refine dl1 h 0 rfl rfl ?_
  refine diR h 1 rfl (by omega) fun zg zk zv => ?_
  refine dfS ?_
  refine dr1 h 1 rfl ‹_› ‹_› (by rfl) ?_
  refine Dv_ad (by omega) (by omega) ?_
  refine diZ (by decide) (by decide) ?_
  refine st1 h 0 rfl rfl rfl rfl fun w h => ?_
  refine Bn_ad (by omega) (by omega) ?_
  dsimp only [List.set] at h
  exact ⟨⟨k + 1, _, _, _, _, by omega, rfl, hfs', by omega, h⟩, by show ds.length - ((k : Int) + 1).toNat < ds.length - (k : Int).toNat; omega⟩
 by_cases ht1 : dd.2.1 = 1
 ·have sd : Seg (ds.flatMap fU) (k * 3) [.int .i64 dd.1, .int .i64 1, .int .i64 dd.2.2] := by rw [← ht1]; exact flat_seg (f := fU) (fun _ => rfl) hd
  rw [ownF_t (i := 1) hrq ht1] at hfs
  have hfs' : (ds.take (k + 1)).foldl (ownF e.rq) [0, 0, 0, 0] = [A1, (A2 + dd.2.2), A3, A4] := hfs
  refine leS (h.sl (i := 1) rfl) ?_
  refine Bn_ltT (by omega) ?_
  refine If_T ?_
  replace h := h.dr
  refine diR h 1 rfl (by omega) fun zg zk zv => ?_
  refine dfS ?_
  refine dr0 h 1 rfl ‹_› ‹_› (by rfl) ?_
  refine diR h 3 rfl (by omega) fun zg zk zv => ?_
  refine dfS ?_
  refine dr0 h 3 rfl ‹_› ‹_› (by rfl) ?_
  refine Dv_neF (by omega) ?_
  refine If_F ?_
  refine iaR h 1 rfl (by omega) fun zg zk zv => ?_
  refine faS ?_
  refine lr1 h 1 rfl ‹_› ‹_› (by rfl) ?_
  refine Bn_ltF (by omega) ?_
  iterate 3 refine Gd_F ?_
  refine iaR h 1 rfl (by omega) fun zg zk zv => ?_
  refine Gd_F ?_
  refine faS ?_
  refine Gd_F ?_
  refine lr1 h 1 rfl ‹_› ‹_› (by rfl) ?_
  refine Gd_F ?_
  refine Bn_gtF (by omega) ?_
  refine Pick_F ?_
  iterate 3 refine Gd_F ?_
  refine iaR h 1 rfl (by omega) fun zg zk zv => ?_
  refine Gd_F ?_
  refine faS ?_
  refine Gd_F ?_
  refine lr1 h 1 rfl ‹_› ‹_› (by rfl) ?_
  refine Gd_F ?_
  refine Bn_ltF (by omega) ?_
  refine Pick_F ?_
  refine If_F ?_
  replace h := h.dr
  refine diR h 1 rfl (by omega) fun zg zk zv => ?_
  refine dfS ?_
  refine dr1 h 1 rfl ‹_› ‹_› (by rfl) ?_
  refine diR h 1 rfl (by omega) fun zg zk zv => ?_
  refine dfS ?_
  refine dr1 h 1 rfl ‹_› ‹_› (by rfl) ?_
  refine diZ (by decide) (by decide) ?_
  refine dl1 h 0 rfl rfl ?_
  refine diR h 1 rfl (by omega) fun zg zk zv => ?_
  refine dfS ?_
  refine dr1 h 1 rfl ‹_› ‹_› (by rfl) ?_
  refine Dv_ad (by omega) (by omega) ?_
  refine diZ (by decide) (by decide) ?_
  refine st1 h 0 rfl rfl rfl rfl fun w h => ?_
  refine Bn_ad (by omega) (by omega) ?_
  dsimp only [List.set] at h
  exact ⟨⟨k + 1, _, _, _, _, by omega, rfl, hfs', by omega, h⟩, by show ds.length - ((k : Int) + 1).toNat < ds.length - (k : Int).toNat; omega⟩
 by_cases ht2 : dd.2.1 = 2
 ·have sd : Seg (ds.flatMap fU) (k * 3) [.int .i64 dd.1, .int .i64 2, .int .i64 dd.2.2] := by rw [← ht2]; exact flat_seg (f := fU) (fun _ => rfl) hd
  rw [ownF_t (i := 2) hrq ht2] at hfs
  have hfs' : (ds.take (k + 1)).foldl (ownF e.rq) [0, 0, 0, 0] = [A1, A2, (A3 + dd.2.2), A4] := hfs
  refine leS (h.sl (i := 1) rfl) ?_
  refine Bn_ltT (by omega) ?_
  refine If_T ?_
  replace h := h.dr
  refine diR h 1 rfl (by omega) fun zg zk zv => ?_
  refine dfS ?_
  refine dr0 h 1 rfl ‹_› ‹_› (by rfl) ?_
  refine diR h 3 rfl (by omega) fun zg zk zv => ?_
  refine dfS ?_
  refine dr0 h 3 rfl ‹_› ‹_› (by rfl) ?_
  refine Dv_neF (by omega) ?_
  refine If_F ?_
  refine iaR h 1 rfl (by omega) fun zg zk zv => ?_
  refine faS ?_
  refine lr1 h 1 rfl ‹_› ‹_› (by rfl) ?_
  refine Bn_ltF (by omega) ?_
  iterate 3 refine Gd_F ?_
  refine iaR h 1 rfl (by omega) fun zg zk zv => ?_
  refine Gd_F ?_
  refine faS ?_
  refine Gd_F ?_
  refine lr1 h 1 rfl ‹_› ‹_› (by rfl) ?_
  refine Gd_F ?_
  refine Bn_gtF (by omega) ?_
  refine Pick_F ?_
  iterate 3 refine Gd_F ?_
  refine iaR h 1 rfl (by omega) fun zg zk zv => ?_
  refine Gd_F ?_
  refine faS ?_
  refine Gd_F ?_
  refine lr1 h 1 rfl ‹_› ‹_› (by rfl) ?_
  refine Gd_F ?_
  refine Bn_ltF (by omega) ?_
  refine Pick_F ?_
  refine If_F ?_
  replace h := h.dr
  refine diR h 1 rfl (by omega) fun zg zk zv => ?_
  refine dfS ?_
  refine dr1 h 1 rfl ‹_› ‹_› (by rfl) ?_
  refine diR h 1 rfl (by omega) fun zg zk zv => ?_
  refine dfS ?_
  refine dr1 h 1 rfl ‹_› ‹_› (by rfl) ?_
  refine diZ (by decide) (by decide) ?_
  refine dl1 h 0 rfl rfl ?_
  refine diR h 1 rfl (by omega) fun zg zk zv => ?_
  refine dfS ?_
  refine dr1 h 1 rfl ‹_› ‹_› (by rfl) ?_
  refine Dv_ad (by omega) (by omega) ?_
  refine diZ (by decide) (by decide) ?_
  refine st1 h 0 rfl rfl rfl rfl fun w h => ?_
  refine Bn_ad (by omega) (by omega) ?_
  dsimp only [List.set] at h
  exact ⟨⟨k + 1, _, _, _, _, by omega, rfl, hfs', by omega, h⟩, by show ds.length - ((k : Int) + 1).toNat < ds.length - (k : Int).toNat; omega⟩
 by_cases ht3 : dd.2.1 = 3
 ·have sd : Seg (ds.flatMap fU) (k * 3) [.int .i64 dd.1, .int .i64 3, .int .i64 dd.2.2] := by rw [← ht3]; exact flat_seg (f := fU) (fun _ => rfl) hd
  rw [ownF_t (i := 3) hrq ht3] at hfs
  have hfs' : (ds.take (k + 1)).foldl (ownF e.rq) [0, 0, 0, 0] = [A1, A2, A3, (A4 + dd.2.2)] := hfs
  refine leS (h.sl (i := 1) rfl) ?_
  refine Bn_ltT (by omega) ?_
  refine If_T ?_
  replace h := h.dr
  refine diR h 1 rfl (by omega) fun zg zk zv => ?_
  refine dfS ?_
  refine dr0 h 1 rfl ‹_› ‹_› (by rfl) ?_
  refine diR h 3 rfl (by omega) fun zg zk zv => ?_
  refine dfS ?_
  refine dr0 h 3 rfl ‹_› ‹_› (by rfl) ?_
  refine Dv_neF (by omega) ?_
  refine If_F ?_
  refine iaR h 1 rfl (by omega) fun zg zk zv => ?_
  refine faS ?_
  refine lr1 h 1 rfl ‹_› ‹_› (by rfl) ?_
  refine Bn_ltF (by omega) ?_
  iterate 3 refine Gd_F ?_
  refine iaR h 1 rfl (by omega) fun zg zk zv => ?_
  refine Gd_F ?_
  refine faS ?_
  refine Gd_F ?_
  refine lr1 h 1 rfl ‹_› ‹_› (by rfl) ?_
  refine Gd_F ?_
  refine Bn_gtF (by omega) ?_
  refine Pick_F ?_
  iterate 3 refine Gd_F ?_
  refine iaR h 1 rfl (by omega) fun zg zk zv => ?_
  refine Gd_F ?_
  refine faS ?_
  refine Gd_F ?_
  refine lr1 h 1 rfl ‹_› ‹_› (by rfl) ?_
  refine Gd_F ?_
  refine Bn_ltF (by omega) ?_
  refine Pick_F ?_
  refine If_F ?_
  replace h := h.dr
  refine diR h 1 rfl (by omega) fun zg zk zv => ?_
  refine dfS ?_
  refine dr1 h 1 rfl ‹_› ‹_› (by rfl) ?_
  refine diR h 1 rfl (by omega) fun zg zk zv => ?_
  refine dfS ?_
  refine dr1 h 1 rfl ‹_› ‹_› (by rfl) ?_
  refine diZ (by decide) (by decide) ?_
  refine dl1 h 0 rfl rfl ?_
  refine diR h 1 rfl (by omega) fun zg zk zv => ?_
  refine dfS ?_
  refine dr1 h 1 rfl ‹_› ‹_› (by rfl) ?_
  refine Dv_ad (by omega) (by omega) ?_
  refine diZ (by decide) (by decide) ?_
  refine st1 h 0 rfl rfl rfl rfl fun w h => ?_
  refine Bn_ad (by omega) (by omega) ?_
  dsimp only [List.set] at h
  exact ⟨⟨k + 1, _, _, _, _, by omega, rfl, hfs', by omega, h⟩, by show ds.length - ((k : Int) + 1).toNat < ds.length - (k : Int).toNat; omega⟩
 omega
end
end Go.Proofs.YtjmdnjnjepinoaaGreatDoor
