/-
  Contracts and plain lemmas. By an AI agent.
-/
import Derived.Test.YthjhkpefammjkaaGreatDoorShPm
import Derived.Test.YthjhkpefammjkaaGreatDoorPlain
set_option linter.unusedSimpArgs false
set_option linter.unusedVariables false
set_option linter.unusedSectionVars false
namespace Go.Proofs.YthjhkpefammjkaaGreatDoor
open Go Go.Eng Go.Proofs Go.Num Go.RowKit Go.Shr
set_option maxRecDepth 100000
section
variable {w0 : World} {v : Value} {l : List Int} (hv : SlC w0 1 v l.length (l.flatMap fI)) {n i j : Nat} (hn : n ≤ 6) (hln : l.length = 2 ^ n) (hi : i < n) (hj : j < n)
include hv hn hln hi hj
set_option maxHeartbeats 4000000 in
theorem c_inter {b : Bool} (hb : b = true ↔ Alk n l i j) : Calls Tryz.prog 49 #[v, .int .i64 i, .int .i64 j] w0 (Ret fun r w' => Ext w0 w' ∧ r = .bool b) := by
 have hl64 : l.length ≤ 64 := by
  rw [hln]; exact Nat.pow_le_pow_right (n := 2) (by decide) hn
 apply e_ref25_interchangeable
 unfold s_ref25_interchangeable
 have h := Hp.init [] w0
 refine Lp1.mk (fun x W => ∃ s : Nat, s ≤ l.length ∧ x = .int .i64 s ∧ (∀ t, t < s → t / 2 ^ i % 2 = 0 → t / 2 ^ j % 2 = 0 → g l (t + 2 ^ i) = g l (t + 2 ^ j)) ∧ Hp [] w0 W []) (fun x _ => match x with | .int _ x => l.length - x.toNat | _ => 0) ⟨0, by omega, rfl, fun t h => absurd h (Nat.not_lt_zero t), h⟩ ?_
 clear h
 rintro _ W ⟨s, hs, rfl, hall, h⟩
 by_cases hsl : s < l.length
 ·have d1 : s / 2 ^ i ≤ s := Nat.div_le_self _ _
  have d2 : s / 2 ^ j ≤ s := Nat.div_le_self _ _
  refine leS (hv.hp h) ?_
  refine Bn_ltT (by omega) (If_T ?_)
  replace h := h.dr
  refine dvBx (fun w K hk => Bn_sr (by omega) hk) ?_
  by_cases h1 : s / 2 ^ i % 2 = 0
  ·refine dvBx (fun w K hk => rm2 (z := 0) h1 hk) ?_
   by_cases h2 : s / 2 ^ j % 2 = 0
   ·have o2 := (or_bit hn hi (show s < 2 ^ n by omega) h1).2
    have o4 := (or_bit hn hj (show s < 2 ^ n by omega) h2).2
    have s1 : Seg (l.flatMap fI) ((s + 2 ^ i) * 1) (fI (g l (s + 2 ^ i))) := flat_seg (f := fI) (fun _ => rfl) (g_get (by omega))
    have s2 : Seg (l.flatMap fI) ((s + 2 ^ j) * 1) (fI (g l (s + 2 ^ j))) := flat_seg (f := fI) (fun _ => rfl) (g_get (by omega))
    refine Dv_eqT (by omega) (GdP_T (GdP_T (GdP_T (dvBx (fun w K hk => Bn_sr (by omega) hk) ?_))))
    refine GdP_T (dvBx (fun w K hk => rm2 (z := 0) h2 hk) ?_)
    refine GdP_T (Dv_eqT (by omega) (PickP_T (GdP_T (GdP_T (GdP_T (GdP_T (dvBx (fun w K hk => Bn_sl1 (j := i) (by omega) hk) ?_)))))))
    refine GdP_T (dvBx (v := .int .i64 ((s + 2 ^ i : Nat) : Int)) (fun w K hk => adN (by omega) hk) ?_)
    refine GdP_T (diH h ‹_› (by omega) fun zb zo zk zv zc => ?_)
    refine GdP_T (dh0 h ‹_› ‹_› (by rfl) ?_)
    refine GdP_T (GdP_T (GdP_T (GdP_T (dvBx (fun w K hk => Bn_sl1 (j := j) (by omega) hk) ?_))))
    refine GdP_T (dvBx (v := .int .i64 ((s + 2 ^ j : Nat) : Int)) (fun w K hk => adN (by omega) hk) ?_)
    by_cases hg : g l (s + 2 ^ i) = g l (s + 2 ^ j)
    ·refine GdP_T (diH h ‹_› (by omega) fun zb zo zk zv zc => ?_)
     refine GdP_T (dh0 h ‹_› ‹_› (by rfl) ?_)
     refine GdP_T (Dv_neF (by omega) (PickP_T (If_F (Bn_ad (by omega) (by omega) ?_))))
     refine ⟨⟨s + 1, by omega, rfl, fun t ht a c => ?_, h⟩, by show l.length - ((s : Int) + 1).toNat < l.length - (s : Int).toNat; omega⟩
     by_cases e : t = s
     ·subst e; exact hg
     ·exact hall t (by omega) a c
    ·have e2 : b = false := by
      cases b
      ·rfl
      ·exact absurd (hb.1 rfl s (by omega) h1 h2) hg
     subst e2
     refine GdP_T (diH h ‹_› (by omega) fun zb zo zk zv zc => ?_)
     refine GdP_T (dh0 h ‹_› ‹_› (by rfl) ?_)
     refine GdP_T (Dv_neT (by omega) (PickP_T (If_T ?_)))
     exact Ret.mk ⟨h.ext, rfl⟩
   ·refine Dv_eqT (by omega) (GdP_T (GdP_T (GdP_T (dvBx (fun w K hk => Bn_sr (by omega) hk) ?_))))
    refine GdP_T (dvBx (fun w K hk => rm2 (z := 1) (by omega) hk) ?_)
    refine GdP_T (Dv_eqF (by omega) (PickP_T (GdP_FT (GdP_FT (GdP_FT (GdP_FT (GdP_FT (GdP_FT (GdP_FT (GdP_FT (GdP_FT (GdP_FT (GdP_FT (GdP_FT (GdP_FT (GdP_FT (GdP_FT (PickP_F (If_F (Bn_ad (by omega) (by omega) ?_))))))))))))))))))))
    refine ⟨⟨s + 1, by omega, rfl, fun t ht a c => ?_, h⟩, by show l.length - ((s : Int) + 1).toNat < l.length - (s : Int).toNat; omega⟩
    by_cases e : t = s
    ·subst e; exact absurd c h2
    ·exact hall t (by omega) a c
  ·refine dvBx (fun w K hk => rm2 (z := 1) (by omega) hk) ?_
   refine Dv_eqF (by omega) (GdP_FT (GdP_FT (GdP_FT (GdP_FT (GdP_FT (PickP_F (GdP_FT (GdP_FT (GdP_FT (GdP_FT (GdP_FT (GdP_FT (GdP_FT (GdP_FT (GdP_FT (GdP_FT (GdP_FT (GdP_FT (GdP_FT (GdP_FT (GdP_FT (PickP_F (If_F (Bn_ad (by omega) (by omega) ?_))))))))))))))))))))))))
   refine ⟨⟨s + 1, by omega, rfl, fun t ht a c => ?_, h⟩, by show l.length - ((s : Int) + 1).toNat < l.length - (s : Int).toNat; omega⟩
   by_cases e : t = s
   ·subst e; exact absurd a h1
   ·exact hall t (by omega) a c
 ·refine leS (hv.hp h) ?_
  refine Bn_ltF (by omega) (If_F ?_)
  refine Ret.mk ⟨h.ext, ?_⟩
  rw [hb.2 fun t ht => hall t (by omega)]
end
abbrev rwE (t : Value × List Nat) : Et := ro tI 1 t.1 t.2.length (t.2.flatMap fN)
theorem sls_cons {S : List Nat} {w0 w : World} {L : List Et} {kz : List Nat} {vs : List Value} {ls : List (List Nat)} {v : Value} {l : List Nat} (h : Hp S w0 w (rwE (v, l) :: sls kz vs ls :: L)) :
 Hp S w0 w (sls (v.ownBlock.toList ++ kz) (v :: vs) (l :: ls) :: L) := by
 refine Hp.jn h fun w h1 h2 => ⟨by simp [h2.1], fun c u k hu hk => ?_⟩
 rcases c with _ | c
 ·cases hu; cases hk
  exact ⟨ownsRow_sl h1, fun k hk => List.mem_append_left _ (by simp [hk])⟩
 ·obtain ⟨a, b⟩ := h2.2 c u k hu hk
  exact ⟨a, fun k hk => List.mem_append_right _ (b k hk)⟩
theorem rows_sls {S : List Nat} {w0 w : World} : ∀ (ts : List (Value × List Nat)) {L : List Et}, Hp S w0 w (ts.map rwE ++ L) → ∃ kz, Hp S w0 w (sls kz (ts.map (·.1)) (ts.map (·.2)) :: L)
 | [], L, h => ⟨[], sls_nil h⟩
 | t :: ts, L, h => by
  have h : Hp S w0 w (ts.map rwE ++ rwE t :: L) := h.perm List.perm_middle.symm
  obtain ⟨kz, h⟩ := rows_sls ts h
  exact ⟨_, sls_cons h.up1⟩
theorem row_get {ts : List (Value × List Nat)} {c : Nat} {t : Value × List Nat} (h : ts[c]? = some t) : (ts.map rwE)[c]? = some (rwE t) := by rw [List.getElem?_map, h]; rfl
theorem row_set {ts : List (Value × List Nat)} {c : Nat} {t : Value × List Nat} : (ts.map rwE).set c (rwE t) = (ts.set c t).map rwE := by rw [List.map_set]
section
variable {w0 : World} {v : Value} {l : List Int} (hv : SlC w0 1 v l.length (l.flatMap fI)) {n : Nat} (hn : n ≤ 6) (hln : l.length = 2 ^ n) (hw : ∀ x ∈ l, wOk x)
include hv hn hln hw
set_option maxHeartbeats 8000000 in
theorem c_fClasses : Calls Tryz.prog 16 #[v] w0 (Ret fun r w' => ∃ u vs kz, r = .tuple #[u, .int .i64 0] ∧ Hp [] w0 w' [ro 22 1 u vs.length vs, sls kz vs (clsV n l)]) := by
 have hl64 : l.length ≤ 64 := by
  rw [hln]; exact Nat.pow_le_pow_right (n := 2) (by decide) hn
 have cc1 : ∀ {W : World}, Ext w0 W → Calls Tryz.prog 29 #[v] W (Ret fun r w' => Ext W w' ∧ r = .int .i64 (n : Int)) := fun {W} e =>
  c_fCauses (w0 := W) (hv.ext e) (by omega) (.inl ⟨hw, by rw [hln, cz_pow hn]⟩)
 apply e_ref25_Classes
 unfold s_ref25_Classes
 have h := Hp.init [] w0
 refine cl1 h n_ref25_Causes (cc1 h.ext) fun w h => ?_
 refine Bn_ltF (by omega) (If_F ?_)
 clear cc1
 have h := h.nil 22 1
 refine Lp2.mk (fun u x W => ∃ (i : Nat) (ts : List (Value × List Nat)), i ≤ n ∧ x = .int .i64 i ∧ ts.map (·.2) = clsP n l i ∧ Hp [] w0 W (ro 22 1 u ts.length (ts.map (·.1)) :: ts.map rwE)) (fun _ x _ => match x with | .int _ x => n - x.toNat | _ => 0) ⟨0, [], by omega, rfl, rfl, h⟩ ?_
 clear h
 rintro u _ W ⟨i, ts, hi, rfl, hts, h⟩
 have hlt : ts.length ≤ i := by
  have := congrArg List.length hts
  rw [List.length_map, clsP, List.length_map, hdP] at this
  have h2 := List.length_filter_le (fun j => repV n l j == j) (List.range i)
  rw [List.length_range] at h2
  omega
 have hdl : (hdP n l i).length = ts.length := by
  have := congrArg List.length hts
  rw [List.length_map, clsP, List.length_map] at this
  omega
 by_cases hin : i < n
 ·refine Bn_ltT (by omega) (If_T (Lp2.mk (fun a x W => ∃ c : Nat, c ≤ ts.length ∧ x = .int .i64 c ∧ ((a = .int .i64 (-1) ∧ ∀ c', c' < c → ∀ j, (hdP n l i)[c']? = some j → ¬ Alk n l j i) ∨ ∃ c0 : Nat, c0 < ts.length ∧ a = .int .i64 c0 ∧ (hdP n l i)[c0]? = some (repV n l i)) ∧ Hp [] w0 W (ro 22 1 u ts.length (ts.map (·.1)) :: ts.map rwE)) (fun _ x _ => match x with | .int _ x => ts.length - x.toNat | _ => 0) ⟨0, by omega, rfl, .inl ⟨rfl, fun c' h => absurd h (Nat.not_lt_zero c')⟩, h⟩ ?_))
  clear h
  rintro _ _ W ⟨c, hc, rfl, hat, h⟩
  by_cases hcl : c < ts.length
  ·rcases hat with ⟨rfl, hno⟩ | ⟨c0, hc0, rfl, hr⟩
   ·refine Exists.elim (p := fun j => (hdP n l i)[c]? = some j) ⟨_, List.getElem?_eq_getElem (by omega)⟩ fun j hj => ?_
    have hjm := hdP_mem.1 (List.mem_of_getElem? hj)
    refine Exists.elim (p := fun t => ts[c]? = some t) ⟨_, List.getElem?_eq_getElem hcl⟩ fun t ht => ?_
    have e2 : t.2 = memP n l i j := by
     have h1 : (ts.map (·.2))[c]? = some t.2 := by rw [List.getElem?_map, ht]; rfl
     rw [hts, clsP, List.getElem?_map, hj] at h1
     exact (Option.some.inj h1).symm
    have sv : Seg (ts.map (·.1)) (c * 1) [t.1] := seg_one (by rw [List.getElem?_map, ht]; rfl)
    have st : Seg (t.2.flatMap fN) (0 * 1) (fN j) := flat_seg (f := fN) (fun _ => rfl) (by rw [e2]; exact memP_head hjm.1 hjm.2)
    have tl : 0 < t.2.length := by
     rw [e2]
     exact (List.getElem?_eq_some_iff.1 (memP_head hjm.1 hjm.2)).1
    by_cases hal : Alk n l j i
    ·have cc1 := fun {W : World} (e : Ext w0 W) => c_inter (w0 := W) (hv.ext e) hn hln (show j < n by omega) hin (b := true) (by simpa using hal)
     have er : j = repV n l i := by rw [← repV_eq hn (show j < n by omega) hin hal]; exact hjm.2.symm
     refine leS (qZ 0 h rfl) ?_
     refine Bn_ltT (by omega) (If_T (Bn_ltT (by omega) (Gd_T (Gd_T (Gd_T (Gd_T (iaR h 0 rfl (by omega) fun zg zk zv => ?_)))))))
     refine Gd_T (lr0 h 0 rfl ‹_› sv (by rfl) ?_)
     refine Gd_T (iaS (h.sl (i := c + 1) (row_get ht)) (j := 0) tl fun zb zo zk zv zc => ?_)
     refine Gd_T (lc0 (zc.seg st) rfl ?_)
     refine Gd_T (Gd_T (cl1 h n_ref25_interchangeable (cc1 h.ext) fun w h => ?_))
     refine Pick_T (If_T (Bn_ad (by omega) (by omega) ?_))
     exact ⟨⟨c + 1, by omega, rfl, .inr ⟨c, hcl, rfl, by rw [hj, ← er]⟩, h⟩, by show ts.length - ((c : Int) + 1).toNat < ts.length - (c : Int).toNat; omega⟩
    ·have cc1 := fun {W : World} (e : Ext w0 W) => c_inter (w0 := W) (hv.ext e) hn hln (show j < n by omega) hin (b := false) (by simpa using hal)
     refine leS (qZ 0 h rfl) ?_
     refine Bn_ltT (by omega) (If_T (Bn_ltT (by omega) (Gd_T (Gd_T (Gd_T (Gd_T (iaR h 0 rfl (by omega) fun zg zk zv => ?_)))))))
     refine Gd_T (lr0 h 0 rfl ‹_› sv (by rfl) ?_)
     refine Gd_T (iaS (h.sl (i := c + 1) (row_get ht)) (j := 0) tl fun zb zo zk zv zc => ?_)
     refine Gd_T (lc0 (zc.seg st) rfl ?_)
     refine Gd_T (Gd_T (cl1 h n_ref25_interchangeable (cc1 h.ext) fun w h => ?_))
     refine Pick_T (If_F (Bn_ad (by omega) (by omega) ?_))
     refine ⟨⟨c + 1, by omega, rfl, .inl ⟨rfl, fun c' hc' j' hj' => ?_⟩, h⟩, by show ts.length - ((c : Int) + 1).toNat < ts.length - (c : Int).toNat; omega⟩
     by_cases e : c' = c
     ·subst e
      rw [hj] at hj'
      rw [← Option.some.inj hj']
      exact hal
     ·exact hno c' (by omega) j' hj'
   ·refine leS (qZ 0 h rfl) ?_
    refine Bn_ltT (by omega) (If_T (Bn_ltF (by omega) (Gd_FT (Gd_FT (Gd_FT (Gd_FT (Gd_FT (Gd_FT (Gd_FT (Gd_FT (Gd_FT (Pick_F (If_F (Bn_ad (by omega) (by omega) ?_))))))))))))))
    exact ⟨⟨c + 1, by omega, rfl, .inr ⟨c0, hc0, rfl, hr⟩, h⟩, by show ts.length - ((c : Int) + 1).toNat < ts.length - (c : Int).toNat; omega⟩
  ·rcases hat with ⟨rfl, hno⟩ | ⟨c0, hc0, rfl, hr⟩
   ·have hown : repV n l i = i := by
     refine Classical.byContradiction fun hne => ?_
     have hlt2 : repV n l i < i := by have := repV_le n l i; omega
     have hm : repV n l i ∈ hdP n l i := hdP_mem.2 ⟨hlt2, repV_idem hn hin⟩
     obtain ⟨c', hc'⟩ := List.getElem?_of_mem hm
     have hcl' := (List.getElem?_eq_some_iff.1 hc').1
     exact hno c' (by omega) _ hc' (repV_al n l i)
    refine leS (qZ 0 h rfl) ?_
    refine Bn_ltF (by omega) (If_F (Bn_ltT (by omega) (If_T (bs1A h (by rfl) (by decide) (by rfl) (by decide) fun v1 w h => ?_))))
    refine bs1w h (by rfl) (qZ 0 h rfl) fun v2 w h => ?_
    refine apR (by rfl) (by decide) h 2 rfl (qZ 0 h rfl) (by have := (slc_c1 (qZ 1 h rfl)).2; simp [this]) (by omega) fun v3 w h => ?_
    refine Bn_ad (by omega) (by omega) ?_
    dsimp only [List.set] at h
    refine ⟨⟨i + 1, ts ++ [(v1, [i])], by omega, rfl, ?_, ?_⟩, by show n - ((i : Int) + 1).toNat < n - (i : Int).toNat; omega⟩
    ·rw [List.map_append, hts, clsP_new hown]; rfl
    ·have h := h.tail.up1
     rw [List.length_append, List.map_append, List.map_append]
     refine h.perm (List.Perm.cons _ ?_)
     exact (List.perm_append_comm (l₁ := [rwE (v1, [i])]) (l₂ := ts.map rwE))
   ·refine Exists.elim (p := fun t => ts[c0]? = some t) ⟨_, List.getElem?_eq_getElem hc0⟩ fun t ht => ?_
    have hne : repV n l i ≠ i := by have := (hdP_mem.1 (List.mem_of_getElem? hr)).1; omega
    have e2 : t.2 = memP n l i (repV n l i) := by
     have h1 : (ts.map (·.2))[c0]? = some t.2 := by rw [List.getElem?_map, ht]; rfl
     rw [hts, clsP, List.getElem?_map, hr] at h1
     exact (Option.some.inj h1).symm
    have tl : t.2.length ≤ 6 := by
     rw [e2, memP]
     have := List.length_filter_le (fun j => repV n l j == repV n l i) (List.range i)
     rw [List.length_range] at this
     omega
    have sv : Seg (ts.map (·.1)) (c0 * 1) [t.1] := seg_one (by rw [List.getElem?_map, ht]; rfl)
    refine leS (qZ 0 h rfl) ?_
    refine Bn_ltF (by omega) (If_F (Bn_ltF (by omega) (If_F (iaR h 0 rfl (by omega) fun zg zk zv => ?_))))
    refine lr0 h 0 rfl ‹_› sv (by rfl) ?_
    refine bs1A h (by rfl) (by decide) (by rfl) (by decide) fun v1 w h => ?_
    refine apR (by rfl) (by decide) h (c0 + 2) (row_get ht) (qZ 0 h rfl) (by rfl) (by omega) fun v' w h => ?_
    have er : rwE (v', t.2 ++ [i]) = ro tI 1 v' (t.2.length + 1) (t.2.flatMap fN ++ [.int .i64 (i : Int)]) := by
     unfold rwE
     rw [List.length_append, List.flatMap_append]; rfl
    have h : Hp [] w0 w (ro tI 1 v1 1 [.int .i64 (i : Int)] :: ro 22 1 u ts.length (ts.map (·.1)) :: (ts.set c0 (v', t.2 ++ [i])).map rwE) := h.cst (by rw [← row_set, er]; rfl)
    refine iaR h 1 rfl (by omega) fun zg zk zv => ?_
    have sw : (ts.set c0 (v', t.2 ++ [i]))[c0]? = some (v', t.2 ++ [i]) := by rw [List.getElem?_set_self hc0]
    have c1 := slc_c1 (h.sl (i := c0 + 2) (row_get sw))
    refine stR1 h 1 rfl zv c1.1 c1.2 (by omega) fun w h => ?_
    refine Bn_ad (by omega) (by omega) ?_
    dsimp only [List.set] at h
    refine ⟨⟨i + 1, ts.set c0 (v', t.2 ++ [i]), by omega, rfl, ?_, ?_⟩, by show n - ((i : Int) + 1).toNat < n - (i : Int).toNat; omega⟩
    ·rw [List.map_set, hts, clsP_old hne hr, e2]
    ·have h := h.tail
     rw [List.length_set, List.map_set]
     exact h.cst (by rw [Nat.zero_add, Nat.mul_one])
 ·have e : i = n := by omega
  rw [e, ← clsV_P] at hts
  refine Bn_ltF (by omega) (If_F ?_)
  have h : Hp [] w0 W (ts.map rwE ++ [ro 22 1 u ts.length (ts.map (·.1))]) := h.perm (List.perm_append_comm (l₁ := [_]) (l₂ := ts.map rwE))
  refine Exists.elim (rows_sls ts h) fun kz h => ?_
  refine Ret.mk ⟨u, ts.map (·.1), kz, rfl, ?_⟩
  rw [hts] at h
  rw [List.length_map]
  exact h.up1
end
section
variable {w0 : World} {sv : Value} {ks : List Nat} (hs : SlC w0 1 sv ks.length (ks.flatMap fN)) (hl : ks.length ≤ 7) (hk : ∀ k ∈ ks, k ≤ 10) (hm : (many ks).1 ≤ 1000)
include hs hl hk hm
set_option maxHeartbeats 8000000 in
theorem c_combos : Calls Tryz.prog 52 #[sv] w0 (Ret fun r w' => ∃ u vs kz, r = u ∧ Hp [] w0 w' [ro 22 1 u vs.length vs, sls kz vs (allC ks)]) := by
 apply e_ref25_combos
 unfold s_ref25_combos
 have h := Hp.init [] w0
 refine bs1A h (by rfl) (by decide) (by rfl) (by decide) fun v1 w h => ?_
 have h : Hp [] w0 w [ro 22 1 v1 [Value.slice none 0 0].length [.slice none 0 0], sls [] [.slice none 0 0] (allC (ks.take 0))] := (h.nw (e := sls [] [.slice none 0 0] [[]]) (fun w' _ _ => ⟨rfl, fun c v l hv hl => by
  rcases c with _ | c
  ·cases hv; cases hl
   exact ⟨⟨rfl, .inl ⟨rfl, rfl⟩⟩, fun k hk => by simp [Value.ownBlock] at hk⟩
  ·simp at hv⟩) (by simp) (by simp)).up1
 refine Lp2.mk (fun u x W => ∃ (c : Nat) (vs : List Value) (kz : List Nat), c ≤ ks.length ∧ x = .int .i64 c ∧ Hp [] w0 W [ro 22 1 u vs.length vs, sls kz vs (allC (ks.take c))]) (fun _ x _ => match x with | .int _ x => ks.length - x.toNat | _ => 0) ⟨0, _, _, by omega, rfl, h⟩ ?_
 clear h
 rintro u _ W ⟨c, vs, kz, hc, rfl, h⟩
 by_cases hcl : c < ks.length
 ·refine Exists.elim (p := fun k => ks[c]? = some k) ⟨_, List.getElem?_eq_getElem hcl⟩ fun n hn => ?_
  have sn : Seg (ks.flatMap fN) (c * 1) (fN n) := flat_seg (f := fN) (fun _ => rfl) hn
  have hn10 := hk n (List.mem_of_getElem? hn)
  have hvl : vs.length = (allC (ks.take c)).length := (h.get (i := 1) rfl).1
  rw [allC_len] at hvl
  have ht1 := many_take ks c
  have ht2 := many_take ks (c + 1)
  rw [take_snoc hn, many_sn] at ht2
  have ht2 : (many (ks.take c)).1 * (n + 1) ≤ (many ks).1 := ht2
  refine Exists.elim (p := fun l => ks.take c = l) ⟨_, rfl⟩ fun l hl2 => ?_
  have hll : l.length = c := by rw [← hl2, List.length_take]; omega
  rw [hl2] at h hvl ht1 ht2
  refine leS (hs.hp h) ?_
  refine Bn_ltT (by omega) (If_T ?_)
  have h := (sls_nil h).nil 22 1
  refine Lp2.mk (fun a x W => ∃ (k : Nat) (vs2 : List Value) (kz2 : List Nat), k ≤ n + 1 ∧ x = .int .i64 k ∧ Hp [] w0 W [ro 22 1 a vs2.length vs2, sls kz2 vs2 (allD l k), ro 22 1 u vs.length vs, sls kz vs (allC l)]) (fun _ x _ => match x with | .int _ x => n + 1 - x.toNat | _ => 0) ⟨0, [], [], by omega, rfl, h⟩ ?_
  clear h
  rintro a _ W ⟨k, vs2, kz2, hk1, rfl, h⟩
  by_cases hkn : k ≤ n
  ·refine iaH h ‹_› (by omega) fun zb zo zk zv zc => ?_
   refine lh0 h ‹_› ‹_› (by rfl) ?_
   refine Bn_leT (by omega) (If_T ?_)
   have e0 : allD l k = allD l k ++ ((allC l).take 0).map fun x => x ++ [k] := by simp
   rw [e0] at h
   refine Lp2.mk (fun a x W => ∃ (i : Nat) (vs2 : List Value) (kz2 : List Nat), i ≤ vs.length ∧ x = .int .i64 i ∧ Hp [] w0 W [ro 22 1 a vs2.length vs2, sls kz2 vs2 (allD l k ++ ((allC l).take i).map fun x => x ++ [k]), ro 22 1 u vs.length vs, sls kz vs (allC l)]) (fun _ x _ => match x with | .int _ x => vs.length - x.toNat | _ => 0) ⟨0, vs2, kz2, by omega, rfl, h⟩ ?_
   clear h vs2 kz2
   rintro a _ W ⟨i, vs2, kz2, hi, rfl, h⟩
   have hv2 : vs2.length = (allD l k ++ ((allC l).take i).map fun x => x ++ [k]).length := (h.get (i := 1) rfl).1
   have hkm : k * (many l).1 ≤ n * (many l).1 := Nat.mul_le_mul_right _ hkn
   rw [Nat.mul_add, Nat.mul_comm] at ht2
   rw [List.length_append, allD_len, List.length_map, List.length_take, allC_len] at hv2
   by_cases hil : i < vs.length
   ·refine Exists.elim (p := fun x => (allC l)[i]? = some x) ⟨_, List.getElem?_eq_getElem (by rw [allC_len]; omega)⟩ fun q hq => ?_
    refine Exists.elim (p := fun x => vs[i]? = some x) ⟨_, List.getElem?_eq_getElem hil⟩ fun qv hqv => ?_
    have sx : Seg vs (i * 1) [qv] := seg_one hqv
    have hql := allC_el (List.mem_of_getElem? hq)
    refine leS (qZ 2 h rfl) ?_
    refine Bn_ltT (by omega) (If_T (bs0 h fun v2 w h => ?_))
    refine iaR h 3 rfl (by omega) fun zg zk zv => ?_
    refine lr0 h 3 rfl ‹_› sx (by rfl) ?_
    have sq : SlN w qv q := ((h.get (i := 4) rfl).2 i qv q hqv hq).1
    refine apR (by rfl) (by decide) h 0 rfl sq (fN_all _) (by omega) fun v3 w h => ?_
    refine bs1A h (by rfl) (by decide) (by rfl) (by decide) fun v4 w h => ?_
    refine apR (by rfl) (by decide) h 1 rfl (qZ 0 h rfl) (by first | rfl | assumption) (by omega) fun v5 w h => ?_
    dsimp only [List.set] at h
    refine bs1w h (by rfl) (qZ 1 h rfl) fun v6 w h => ?_
    refine apR (by rfl) (by decide) h 3 rfl (qZ 0 h rfl) (by have := (slc_c1 (qZ 2 h rfl)).2; simp [this]) (by omega) fun v7 w h => ?_
    refine Bn_ad (by omega) (by omega) ?_
    dsimp only [List.set] at h
    refine ⟨⟨i + 1, vs2 ++ [v5], v5.ownBlock.toList ++ kz2, by omega, rfl, ?_⟩, by show vs.length - ((i : Int) + 1).toNat < vs.length - (i : Int).toNat; omega⟩
    have h : Hp [] w0 w [ro tI 1 v5 (0 + q.length + 1) ((q ++ [k]).flatMap fN), sls kz2 vs2 (allD l k ++ ((allC l).take i).map fun x => x ++ [k]), ro 22 1 v7 (vs2 ++ [v5]).length (vs2 ++ [v5]), ro 22 1 u vs.length vs, sls kz vs (allC l)] := (h.pick [2, 4, 3, 5, 6] (by decide) rfl).cst (by simp)
    have h := sls_add (by simp) h
    rw [take_snoc hq, List.map_append, ← List.append_assoc]
    exact h.up1
   ·refine leS (qZ 2 h rfl) ?_
    refine Bn_ltF (by omega) (If_F (Bn_ad (by omega) (by omega) ?_))
    refine ⟨⟨k + 1, vs2, kz2, by omega, rfl, ?_⟩, by show n + 1 - ((k : Int) + 1).toNat < n + 1 - (k : Int).toNat; omega⟩
    rw [List.take_of_length_le (by rw [allC_len]; omega)] at h
    rw [allD_succ]
    exact h
  ·refine iaH h ‹_› (by omega) fun zb zo zk zv zc => ?_
   refine lh0 h ‹_› ‹_› (by rfl) ?_
   refine Bn_leF (by omega) (If_F (Bn_ad (by omega) (by omega) ?_))
   refine ⟨⟨c + 1, vs2, kz2, by omega, rfl, ?_⟩, by show ks.length - ((c : Int) + 1).toNat < ks.length - (c : Int).toNat; omega⟩
   rw [take_snoc hn, hl2, allC_snoc]
   have e : k = n + 1 := by omega
   rw [e] at h
   exact h.pick [0, 1] (by decide) rfl
 ·refine leS (hs.hp h) ?_
  refine Bn_ltF (by omega) (If_F ?_)
  rw [List.take_of_length_le (by omega)] at h
  exact Ret.mk ⟨u, vs, kz, rfl, h⟩
end
end Go.Proofs.YthjhkpefammjkaaGreatDoor
