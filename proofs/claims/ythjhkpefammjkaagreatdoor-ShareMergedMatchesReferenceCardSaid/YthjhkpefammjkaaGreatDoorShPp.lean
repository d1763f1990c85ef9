/-
  Contracts and plain lemmas. By an AI agent.
-/
import Derived.Test.YthjhkpefammjkaaGreatDoorShPn
set_option linter.unusedSimpArgs false
set_option linter.unusedVariables false
set_option linter.unusedSectionVars false
namespace Go.Proofs.YthjhkpefammjkaaGreatDoor
open Go Go.Eng Go.Proofs Go.Num Go.RowKit Go.Shr
set_option maxRecDepth 100000
section
variable {w0 : World} {v : Value} {l : List Int} (hv : SlC w0 1 v l.length (l.flatMap fI)) {n : Nat} (hn : n ≤ 6) (hln : l.length = 2 ^ n) (hw : ∀ x ∈ l, wOk x)
include hv hn hln hw
set_option maxHeartbeats 8000000 in
theorem c_fReduce : Calls Tryz.prog 18 #[v] w0 (Ret fun r w' => ∃ a b, r = .tuple #[a, b, .int .i64 0] ∧ Hp [] w0 w' [ro tI 1 b (redV (clsV n l) l).length ((redV (clsV n l) l).flatMap fI), ro tI 1 a (clsV n l).length (((clsV n l).map List.length).flatMap fN)]) := by
 have hl64 : l.length ≤ 64 := by
  rw [hln]; exact Nat.pow_le_pow_right (n := 2) (by decide) hn
 apply e_ref25_Reduce
 unfold s_ref25_Reduce
 have h := Hp.init [] w0
 refine Cl_i n_ref25_Classes (c_fClasses hv hn hln hw) ?_
 rintro _ w1 ⟨u, vs, kz, rfl, h1⟩
 have x1 := h1.ext
 have hu : SlC w1 1 u vs.length vs := h1.sl (i := 0) rfl
 have hq : SLk w1 vs (clsV n l) := sls_k (h1.get (i := 1) rfl)
 have hlen := hq.len
 have hcl := cls_len n l
 have hce : ∀ q ∈ clsV n l, q.length ≤ 6 := fun q hq => by have := (cls_each hq).2; omega
 have hcn := cls_cnt hn l
 clear h h1
 have h := Hp.init [] w1
 refine Ex2 (Bn_neF (by omega) (If_F ?_))
 replace h := h.nil tI 1
 refine Lp2.mk (fun a i W => ∃ j : Nat, j ≤ vs.length ∧ i = .int .i64 j ∧ Hp [] w1 W [ro tI 1 a j ((((clsV n l).map List.length).take j).flatMap fN)]) (fun _ i _ => match i with | .int _ i' => vs.length - i'.toNat | _ => 0) ⟨0, by omega, rfl, h⟩ ?_
 clear h
 rintro a _ W ⟨j, hj, rfl, h⟩
 by_cases hjl : j < vs.length
 ·refine Exists.elim (p := fun x => (clsV n l)[j]? = some x) ⟨_, List.getElem?_eq_getElem (by omega)⟩ fun x hx => ?_
  refine Exists.elim (p := fun x => vs[j]? = some x) ⟨_, List.getElem?_eq_getElem (by omega)⟩ fun xv hxv => ?_
  have sx : Seg vs (j * 1) [xv] := seg_one hxv
  have kx : SlC w1 1 xv x.length (x.flatMap fN) := hq.el j xv x hxv hx
  have lx := hce x (List.mem_of_getElem? hx)
  have em : ((clsV n l).map List.length)[j]? = some x.length := by rw [List.getElem?_map, hx]; rfl
  refine leS (hu.hp h) ?_
  refine Bn_ltT (by omega) (If_T (iaH h ‹_› (by omega) fun zb zo zk zv zc => ?_))
  refine lh0 h ‹_› ‹_› (by rfl) ?_
  refine leS (kx.hp h) ?_
  refine bs1A h (by rfl) (by decide) (by rfl) (by decide) fun v1 w h => ?_
  refine apR (by rfl) (by decide) h 1 rfl (qZ 0 h rfl) (by first | rfl | assumption) (by omega) fun v2 w h => ?_
  refine Bn_ad (by omega) (by omega) ?_
  dsimp only [List.set] at h
  refine ⟨⟨j + 1, by omega, rfl, ?_⟩, by show vs.length - ((j : Int) + 1).toNat < vs.length - (j : Int).toNat; omega⟩
  rw [take_snoc em, List.flatMap_append]
  exact h.pick [1] (by decide) rfl
 have ej : j = (clsV n l).length := by omega
 subst ej
 rw [List.take_of_length_le (by rw [List.length_map]; exact Nat.le_refl _)] at h
 refine Exists.elim (p := fun ks => (clsV n l).map List.length = ks) ⟨_, rfl⟩ fun ks hks => ?_
 have hkl : ks.length = (clsV n l).length := by rw [← hks, List.length_map]
 have hk6 : ∀ k ∈ ks, k ≤ 6 := fun k hk => by
  rw [← hks] at hk
  obtain ⟨q, hq, rfl⟩ := List.mem_map.1 hk
  exact hce q hq
 rw [hks] at h hcn
 have hrl : (redV (clsV n l) l).length = (many ks).1 := by rw [redV_len, hks]
 refine leS (hu.hp h) ?_
 refine Bn_ltF (by omega) (If_F ?_)
 have sa : SlC W 1 a ks.length (ks.flatMap fN) := by
  have := h.sl (i := 0) rfl
  rw [← hkl] at this
  exact this
 refine Cl_i n_ref25_combos (c_combos sa (by omega) (fun k hk => by have := hk6 k hk; omega) (by omega)) ?_
 rintro uc w2 ⟨_, vsc, kzc, rfl, h'⟩
 have hx2 := h.x h'.ext
 have hA := ((Hp.init [] w0).x x1).cat1 hx2 ro_sm
 have hu2 : SlC w2 1 uc vsc.length vsc := h'.sl (i := 0) rfl
 have hq2 : SLk w2 vsc (allC ks) := sls_k (h'.get (i := 1) rfl)
 have hlen2 := hq2.len
 rw [allC_len] at hlen2
 have hu := hu.ext hx2.ext
 have hq := hq.ext hx2.ext
 have hv : SlC w2 1 v l.length (l.flatMap fI) := hv.ext hA.ext
 clear h h' hx2 sa
 have h := Hp.init [] w2
 replace h := h.nil tI 1
 refine Lp2.mk (fun b i W => ∃ j : Nat, j ≤ (many ks).1 ∧ i = .int .i64 j ∧ Hp [] w2 W [ro tI 1 b j (((redV (clsV n l) l).take j).flatMap fI)]) (fun _ i _ => match i with | .int _ i' => (many ks).1 - i'.toNat | _ => 0) ⟨0, by omega, rfl, h⟩ ?_
 clear h
 rintro b _ W ⟨j, hj, rfl, h⟩
 by_cases hjl : j < (many ks).1
 ·have hcl2 := cnt_len ks j
  have hcj : (allC ks)[j]? = some (cnt ks j) := allC_get hjl
  refine Exists.elim (p := fun x => vsc[j]? = some x) ⟨_, List.getElem?_eq_getElem (by omega)⟩ fun cv hcv => ?_
  have sj : Seg vsc (j * 1) [cv] := seg_one hcv
  have kj : SlC w2 1 cv ks.length ((cnt ks j).flatMap fN) := by
   have := hq2.el j cv _ hcv hcj
   unfold SlN at this
   rw [hcl2] at this
   exact this
  refine leS (hu2.hp h) ?_
  refine Bn_ltT (by omega) (If_T (Lp2.mk (fun s i W' => ∃ c : Nat, c ≤ ks.length ∧ i = .int .i64 c ∧ s = .int .i64 (mk (tkC (clsV n l) (cnt ks j) c) : Nat) ∧ Hp [] w2 W' [ro tI 1 b j (((redV (clsV n l) l).take j).flatMap fI)]) (fun _ i _ => match i with | .int _ i' => ks.length - i'.toNat | _ => 0) ⟨0, by omega, rfl, rfl, h⟩ ?_))
  clear h
  rintro _ _ W' ⟨c, hc, rfl, rfl, h⟩
  by_cases hck : c < ks.length
  ·refine Exists.elim (p := fun x => (clsV n l)[c]? = some x) ⟨_, List.getElem?_eq_getElem (by omega)⟩ fun q hq' => ?_
   refine Exists.elim (p := fun x => vs[c]? = some x) ⟨_, List.getElem?_eq_getElem (by omega)⟩ fun qv hqv => ?_
   have sx : Seg vs (c * 1) [qv] := seg_one hqv
   have kq : SlC w2 1 qv q.length (q.flatMap fN) := hq.el c qv q hqv hq'
   have ec := getD_get (ks := cnt ks j) (c := c) (by omega)
   have sc : Seg ((cnt ks j).flatMap fN) (c * 1) (fN ((cnt ks j).getD c 0)) := flat_seg (f := fN) (fun _ => rfl) ec
   have hle : (cnt ks j).getD c 0 ≤ q.length := by
    have h1 := cnt_le ks j c
    have h2 : ks.getD c 0 = q.length := by
     have : ks[c]? = some q.length := by rw [← hks, List.getElem?_map, hq']; rfl
     rw [List.getD_eq_getElem?_getD, this]; rfl
    omega
   have lq := hce q (List.mem_of_getElem? hq')
   refine Exists.elim (p := fun k => (cnt ks j).getD c 0 = k) ⟨_, rfl⟩ fun k hk => ?_
   rw [hk] at ec sc hle
   refine leS (hu.hp h) ?_
   refine Bn_ltT (by omega) (If_T ?_)
   have e0 : mk (tkC (clsV n l) (cnt ks j) c) = mk (tkC (clsV n l) (cnt ks j) c ++ q.take 0) := by rw [List.take_zero, List.append_nil]
   rw [e0]
   refine Lp2.mk (fun s i W2 => ∃ m : Nat, m ≤ k ∧ i = .int .i64 m ∧ s = .int .i64 (mk (tkC (clsV n l) (cnt ks j) c ++ q.take m) : Nat) ∧ Hp [] w2 W2 [ro tI 1 b j (((redV (clsV n l) l).take j).flatMap fI)]) (fun _ i _ => match i with | .int _ i' => k - i'.toNat | _ => 0) ⟨0, by omega, rfl, rfl, h⟩ ?_
   clear h
   rintro _ _ W2 ⟨m, hm, rfl, rfl, h⟩
   by_cases hmk : m < k
   ·refine Exists.elim (p := fun x => q[m]? = some x) ⟨_, List.getElem?_eq_getElem (by omega)⟩ fun i hi => ?_
    have sm : Seg (q.flatMap fN) (m * 1) (fN i) := flat_seg (f := fN) (fun _ => rfl) hi
    obtain ⟨o1, o2, o3, o4⟩ := red_or hn (ks := cnt ks j) hq' hi
    have p64 : (2 : Nat) ^ n ≤ 64 := Nat.pow_le_pow_right (n := 2) (by decide) hn
    have ol := (or_bit hn o1 o3 o2).2
    refine iaH h ‹_› (by omega) fun zb zo zk zv zc => ?_
    refine lh0 h ‹_› ‹_› (by rfl) ?_
    refine iaH h ‹_› (by omega) fun zb zo zk zv zc => ?_
    refine lh0 h ‹_› ‹_› (by rfl) ?_
    refine Bn_ltT (by omega) (If_T (iaH h ‹_› (by omega) fun zb zo zk zv zc => ?_))
    refine lh0 h ‹_› ‹_› (by rfl) ?_
    refine iaH h ‹_› (by omega) fun zb zo zk zv zc => ?_
    refine lh0 h ‹_› ‹_› (by rfl) ?_
    refine Bn_sl1 (by omega) (Bn_ad (by omega) (by omega) (Bn_ad (by omega) (by omega) ?_))
    refine ⟨⟨m + 1, by omega, rfl, ?_, h⟩, by show k - ((m : Int) + 1).toNat < k - (m : Int).toNat; omega⟩
    rw [o4]; rfl
   ·have e : m = k := by omega
    subst e
    refine iaH h ‹_› (by omega) fun zb zo zk zv zc => ?_
    refine lh0 h ‹_› ‹_› (by rfl) ?_
    refine iaH h ‹_› (by omega) fun zb zo zk zv zc => ?_
    refine lh0 h ‹_› ‹_› (by rfl) ?_
    refine Bn_ltF (by omega) (If_F (Bn_ad (by omega) (by omega) ?_))
    refine ⟨⟨c + 1, by omega, rfl, ?_, h⟩, by show ks.length - ((c : Int) + 1).toNat < ks.length - (c : Int).toNat; omega⟩
    rw [tkC_succ hq' ec]
  ·have e : c = (clsV n l).length := by omega
   subst e
   have ej : (redV (clsV n l) l)[j]? = some (g l (mk (tkC (clsV n l) (cnt ks j) (clsV n l).length))) := by
    rw [← maskR_tk, redV, hks, List.getElem?_map, List.getElem?_range hjl]
    show some (g l (maskR (clsV n l) (cnt ((clsV n l).map List.length) j))) = _
    rw [hks]
   have hlt : mk (tkC (clsV n l) (cnt ks j) (clsV n l).length) < l.length := by rw [hln]; exact red_lt2 hn
   have sg : Seg (l.flatMap fI) (mk (tkC (clsV n l) (cnt ks j) (clsV n l).length) * 1) (fI (g l (mk (tkC (clsV n l) (cnt ks j) (clsV n l).length)))) := flat_seg (f := fI) (fun _ => rfl) (g_get hlt)
   refine leS (hu.hp h) ?_
   refine Bn_ltF (by omega) (If_F (iaH h ‹_› (by omega) fun zb zo zk zv zc => ?_))
   refine lh0 h ‹_› ‹_› (by rfl) ?_
   refine bs1A h (by rfl) (by decide) (by rfl) (by decide) fun v1 w h => ?_
   refine apR (by rfl) (by decide) h 1 rfl (qZ 0 h rfl) (by first | rfl | assumption) (by omega) fun v2 w h => ?_
   refine Bn_ad (by omega) (by omega) ?_
   dsimp only [List.set] at h
   refine ⟨⟨j + 1, by omega, rfl, ?_⟩, by show (many ks).1 - ((j : Int) + 1).toNat < (many ks).1 - (j : Int).toNat; omega⟩
   rw [take_snoc ej, List.flatMap_append]
   exact h.pick [1] (by decide) rfl
 ·have e : j = (many ks).1 := by omega
  subst e
  rw [List.take_of_length_le (by omega)] at h
  refine leS (hu2.hp h) ?_
  refine Bn_ltF (by omega) (If_F ?_)
  refine Ret.mk ⟨a, b, rfl, ?_⟩
  rw [hrl, hks]
  exact hA.cat1 h ro_sm
end
theorem c_fchoose {w0 : World} {n k : Nat} (hn : n ≤ 10) (hk : k ≤ n) : Calls Tryz.prog 61 #[.int .i64 n, .int .i64 k] w0 (Ret fun r w' => Ext w0 w' ∧ r = .int .i64 (cho n k : Nat)) := by
 have p1 := fac_le (show n ≤ 10 by omega)
 have p2 := fac_le (show k ≤ 10 by omega)
 have p3 := fac_le (show n - k ≤ 10 by omega)
 have q1 : fac n / fac k ≤ fac n := Nat.div_le_self _ _
 have cc1 := fun {W : World} (_ : Ext w0 W) => c_factorial (w0 := W) (n := n) (by omega)
 have cc2 := fun {W : World} (_ : Ext w0 W) => c_factorial (w0 := W) (n := k) (by omega)
 have cc3 := fun {W : World} (_ : Ext w0 W) => c_factorial (w0 := W) (n := n - k) (by omega)
 apply e_ref25_choose
 unfold s_ref25_choose
 have h := (Hp.init [] w0).dr
 refine dvBx (v := .int .i64 ((n - k : Nat) : Int)) (fun w K hk' => Bn_su (by omega) (by omega) (by rw [show (n : Int) - (k : Int) = ((n - k : Nat) : Int) by omega]; exact hk')) ?_
 refine cl1 h n_ref25_factorial (cc1 h.ext) fun w h => ?_
 refine cl1 h n_ref25_factorial (cc2 h.ext) fun w h => ?_
 refine dvBx (v := .int .i64 ((fac n / fac k : Nat) : Int)) (fun w K hk => Bn_qu (by omega) (by omega) (by omega) hk) ?_
 refine cl1 h n_ref25_factorial (cc3 h.ext) fun w h => ?_
 refine dvBx (v := .int .i64 ((fac n / fac k / fac (n - k) : Nat) : Int)) (fun w K hk => Bn_qu (x := ((fac n / fac k : Nat) : Int)) (Int.natCast_nonneg _) (by have : ((fac n / fac k : Nat) : Int) ≤ (fac n : Nat) := Int.ofNat_le.2 q1; omega) (by omega) hk) ?_
 exact Ret.mk ⟨h.ext, rfl⟩
section
variable {w0 : World} {v sv : Value} {l : List Int} (hv : SlC w0 1 v l.length (l.flatMap fI)) (hl : l.length ≤ 1000000)
include hv hl
set_option maxHeartbeats 8000000 in
theorem c_fmergedA {ks : List Nat} (hs : SlC w0 1 sv ks.length (ks.flatMap fN)) (h6 : ks.length ≤ 6) (hk : ∀ k ∈ ks, 1 ≤ k ∧ k ≤ 10) {z : Int} (hz : (MgOk ks l ∧ z = (many ks).2) ∨ (¬ MgOk ks l ∧ z = -1)) :
 Calls Tryz.prog 60 #[sv, v] w0 (Ret fun r w' => Ext w0 w' ∧ r = .int .i64 z) := by
 apply e_ref25_merged
 unfold s_ref25_merged
 have h := Hp.init [] w0
 refine leS (hs.hp h) ?_
 refine Bn_gtF (by omega) (If_F (Lp3.mk (fun a b x W => ∃ j : Nat, j ≤ ks.length ∧ x = .int .i64 j ∧ a = .int .i64 ((many (ks.take j)).2 : Nat) ∧ b = .int .i64 ((many (ks.take j)).1 : Nat) ∧ Hp [] w0 W []) (fun _ _ x _ => match x with | .int _ x => ks.length - x.toNat | _ => 0) ⟨0, by omega, rfl, rfl, rfl, h⟩ ?_))
 clear h
 rintro _ _ _ W ⟨j, hj, rfl, rfl, rfl, h⟩
 have hm := many_le (ks := ks.take j) fun k h => (hk k (List.mem_of_mem_take h)).2
 have hp : 11 ^ (ks.take j).length ≤ 11 ^ 7 := Nat.pow_le_pow_right (by decide) (by rw [List.length_take]; omega)
 have hp7 : (11 : Nat) ^ 7 = 19487171 := by decide
 have hm1 : (many (ks.take j)).1 ≤ 19487171 := by omega
 have hm2 : (many (ks.take j)).2 ≤ 100 := by have := hm.2; rw [List.length_take] at this; omega
 clear hm hp
 by_cases hjl : j < ks.length
 ·refine Exists.elim (p := fun x => ks[j]? = some x) ⟨_, List.getElem?_eq_getElem hjl⟩ fun x hx => ?_
  have sx : Seg (ks.flatMap fN) (j * 1) (fN x) := flat_seg (f := fN) (fun _ => rfl) hx
  have hx10 := hk x (List.mem_of_getElem? hx)
  have es := many_sn (ks.take j) x
  rw [← take_snoc hx] at es
  have hmu : (((many (ks.take j)).1 : Nat) : Int) * ((x : Int) + 1) = (((many (ks.take (j + 1))).1 : Nat) : Int) := by
   rw [es]
   show _ = (((many (ks.take j)).1 * (x + 1) : Nat) : Int)
   rw [Int.natCast_mul]; rfl
  have hm3 : (many (ks.take (j + 1))).1 ≤ 19487171 * 11 := by rw [es]; exact Nat.mul_le_mul hm1 (by omega)
  have hm4 : (many (ks.take (j + 1))).2 = (many (ks.take j)).2 + x := by rw [es]
  clear es
  refine leS (hs.hp h) ?_
  refine Bn_ltT (by omega) (If_T (iaH h ‹_› (by omega) fun zb zo zk zv zc => ?_))
  refine lh0 h ‹_› ‹_› (by rfl) ?_
  refine Bn_ltF (by omega) (Gd_F (Gd_F (Gd_F (iaH h ‹_› (by omega) fun zb zo zk zv zc => ?_))))
  refine Gd_F (lh0 h ‹_› ‹_› (by rfl) ?_)
  refine Gd_F (Bn_gtF (by omega) (Pick_F (If_F (iaH h ‹_› (by omega) fun zb zo zk zv zc => ?_))))
  refine lh0 h ‹_› ‹_› (by rfl) ?_
  refine Bn_ad (by omega) (by omega) (iaH h ‹_› (by omega) fun zb zo zk zv zc => ?_)
  refine lh0 h ‹_› ‹_› (by rfl) ?_
  refine Bn_ad (by omega) (by omega) (Bn_mu (by omega) (by omega) (Bn_ad (by omega) (by omega) ?_))
  refine ⟨⟨j + 1, by omega, rfl, by rw [hm4]; rfl, by rw [hmu], h⟩, by show ks.length - ((j : Int) + 1).toNat < ks.length - (j : Int).toNat; omega⟩
 rw [show j = ks.length by omega, List.take_length] at hm1 hm2 ⊢
 have bad : ¬ MgOk ks l → z = -1 := fun h => by
  rcases hz with hz | hz
  ·exact absurd hz.1 h
  ·exact hz.2
 by_cases a1 : 10 < (many ks).2
 ·have ez := bad fun h => by have := h.n10; omega
  refine leS (hs.hp h) ?_
  refine Bn_ltF (by omega) (If_F (Bn_gtT (by omega) (Gd_TF (Gd_TF (Pick_T (Gd_TF (Gd_TF (Gd_TF (Gd_TF (Pick_T (If_T ?_)))))))))))
  exact Ret.mk ⟨h.ext, by rw [ez]⟩
 by_cases a2 : 400 < (many ks).1
 ·have ez := bad fun h => by have := h.c400; omega
  refine leS (hs.hp h) ?_
  refine Bn_ltF (by omega) (If_F (Bn_gtF (by omega) (Gd_F (Gd_F (Bn_gtT (by omega) (Pick_F (Gd_TF (Gd_TF (Gd_TF (Gd_TF (Pick_T (If_T ?_))))))))))))
  exact Ret.mk ⟨h.ext, by rw [ez]⟩
 by_cases a3 : (many ks).1 = l.length
 rotate_left
 ·have ez := bad fun h => by have := h.len; omega
  refine leS (hs.hp h) ?_
  refine Bn_ltF (by omega) (If_F (Bn_gtF (by omega) (Gd_F (Gd_F (Bn_gtF (by omega) (Pick_F (Gd_F (Gd_F (Gd_F (leS (hv.hp h) ?_))))))))))
  refine Gd_F (Bn_neT (by omega) (Pick_F (If_T ?_)))
  exact Ret.mk ⟨h.ext, by rw [ez]⟩
 refine leS (hs.hp h) ?_
 refine Bn_ltF (by omega) (If_F (Bn_gtF (by omega) (Gd_F (Gd_F (Bn_gtF (by omega) (Pick_F (Gd_F (Gd_F (Gd_F (leS (hv.hp h) ?_))))))))))
 refine Gd_F (Bn_neF (by omega) (Pick_F (If_F (Lp1.mk (fun i W => ∃ j : Nat, j ≤ l.length ∧ i = .int .i64 j ∧ (∀ x ∈ l.take j, wOk x) ∧ Hp [] w0 W []) (fun i _ => match i with | .int _ i' => l.length - i'.toNat | _ => 0) ⟨0, by omega, rfl, by simp, h⟩ ?_))))
 clear h
 rintro _ W ⟨j, hj, rfl, hall, h⟩
 by_cases hjl : j < l.length
 ·refine Exists.elim (p := fun x => l[j]? = some x) ⟨_, List.getElem?_eq_getElem hjl⟩ fun x hx => ?_
  have sx : Seg (l.flatMap fI) (j * 1) (fI x) := flat_seg (f := fI) (fun _ => rfl) hx
  by_cases a : x < -1125899906842624
  ·have ez := bad fun h => by have := (h.ok x (List.mem_of_getElem? hx)).1; omega
   refine leS (hv.hp h) ?_
   refine Bn_ltT (by omega) (If_T (iaH h ‹_› (by omega) fun zb zo zk zv zc => ?_))
   refine lh0 h ‹_› ‹_› (by rfl) ?_
   refine Bn_ltT (by omega) (Gd_TF (Gd_TF (Gd_TF (Gd_TF (Gd_TF (Pick_T (If_T ?_)))))))
   exact Ret.mk ⟨h.ext, by rw [ez]⟩
  by_cases b : x ≤ 1125899906842624
  ·refine leS (hv.hp h) ?_
   refine Bn_ltT (by omega) (If_T (iaH h ‹_› (by omega) fun zb zo zk zv zc => ?_))
   refine lh0 h ‹_› ‹_› (by rfl) ?_
   refine Bn_ltF (by omega) (Gd_F (Gd_F (Gd_F (iaH h ‹_› (by omega) fun zb zo zk zv zc => ?_))))
   refine Gd_F (lh0 h ‹_› ‹_› (by rfl) ?_)
   refine Gd_F (Bn_gtF (by omega) (Pick_F (If_F (Bn_ad (by omega) (by omega) ?_))))
   refine ⟨⟨j + 1, by omega, rfl, fun y hy => ?_, h⟩, by show l.length - ((j : Int) + 1).toNat < l.length - (j : Int).toNat; omega⟩
   rw [take_snoc hx] at hy
   rcases List.mem_append.1 hy with hy | hy
   ·exact hall y hy
   ·simp at hy; subst hy; exact ⟨by omega, b⟩
  ·have ez := bad fun h => b (h.ok x (List.mem_of_getElem? hx)).2
   refine leS (hv.hp h) ?_
   refine Bn_ltT (by omega) (If_T (iaH h ‹_› (by omega) fun zb zo zk zv zc => ?_))
   refine lh0 h ‹_› ‹_› (by rfl) ?_
   refine Bn_ltF (by omega) (Gd_F (Gd_F (Gd_F (iaH h ‹_› (by omega) fun zb zo zk zv zc => ?_))))
   refine Gd_F (lh0 h ‹_› ‹_› (by rfl) ?_)
   refine Gd_F (Bn_gtT (by omega) (Pick_F (If_T ?_)))
   exact Ret.mk ⟨h.ext, by rw [ez]⟩
 rw [List.take_of_length_le (by omega)] at hall
 have ez : z = (many ks).2 := (hz.resolve_right fun hc => hc.1 ⟨h6, hk, by omega, by omega, a3.symm, hall⟩).2
 refine leS (hv.hp h) ?_
 refine Bn_ltF (by omega) (If_F ?_)
 exact Ret.mk ⟨h.ext, by rw [ez]⟩
set_option maxHeartbeats 8000000 in
theorem c_fmergedB {xs : List Int} (hs : SlC w0 1 sv xs.length (xs.flatMap fI)) (hx7 : xs.length ≤ 7) (hno : ¬ ∀ x ∈ xs, szOk x) :
 Calls Tryz.prog 60 #[sv, v] w0 (Ret fun r w' => Ext w0 w' ∧ r = .int .i64 (-1)) := by
 by_cases h6 : 6 < xs.length
 ·apply e_ref25_merged
  unfold s_ref25_merged
  have h := Hp.init [] w0
  refine leS (hs.hp h) ?_
  refine Bn_gtT (by omega) (If_T ?_)
  exact Ret.mk ⟨h.ext, rfl⟩
 apply e_ref25_merged
 unfold s_ref25_merged
 have h := Hp.init [] w0
 refine leS (hs.hp h) ?_
 refine Bn_gtF (by omega) (If_F (Lp3.mk (fun a b x W => ∃ j : Nat, j ≤ xs.length ∧ x = .int .i64 j ∧ (∀ x ∈ xs.take j, szOk x) ∧ a = .int .i64 ((many ((xs.take j).map Int.toNat)).2 : Nat) ∧ b = .int .i64 ((many ((xs.take j).map Int.toNat)).1 : Nat) ∧ Hp [] w0 W []) (fun _ _ x _ => match x with | .int _ x => xs.length - x.toNat | _ => 0) ⟨0, by omega, rfl, by simp, rfl, rfl, h⟩ ?_))
 clear h
 rintro _ _ _ W ⟨j, hj, rfl, hall, rfl, rfl, h⟩
 by_cases hjl : j < xs.length
 ·refine Exists.elim (p := fun x => xs[j]? = some x) ⟨_, List.getElem?_eq_getElem hjl⟩ fun x hx => ?_
  have sx : Seg (xs.flatMap fI) (j * 1) (fI x) := flat_seg (f := fI) (fun _ => rfl) hx
  by_cases a : x < 1
  ·refine leS (hs.hp h) ?_
   refine Bn_ltT (by omega) (If_T (iaH h ‹_› (by omega) fun zb zo zk zv zc => ?_))
   refine lh0 h ‹_› ‹_› (by rfl) ?_
   refine Bn_ltT (by omega) (Gd_TF (Gd_TF (Gd_TF (Gd_TF (Gd_TF (Pick_T (If_T ?_)))))))
   exact Ret.mk ⟨h.ext, rfl⟩
  by_cases b : x ≤ 10
  ·have hm := many_le (ks := (xs.take j).map Int.toNat) fun k h => by
    obtain ⟨y, hy, rfl⟩ := List.mem_map.1 h
    have := (hall y hy).2
    omega
   have hp : 11 ^ ((xs.take j).map Int.toNat).length ≤ 11 ^ 7 := Nat.pow_le_pow_right (by decide) (by rw [List.length_map, List.length_take]; omega)
   have hp7 : (11 : Nat) ^ 7 = 19487171 := by decide
   have hm1 : (many ((xs.take j).map Int.toNat)).1 ≤ 19487171 := by omega
   have hm2 : (many ((xs.take j).map Int.toNat)).2 ≤ 100 := by have := hm.2; rw [List.length_map, List.length_take] at this; omega
   have es := many_sn ((xs.take j).map Int.toNat) x.toNat
   have ea : (xs.take j).map Int.toNat ++ [x.toNat] = (xs.take (j + 1)).map Int.toNat := by rw [take_snoc hx, List.map_append]; rfl
   rw [ea] at es
   have hmu : (((many ((xs.take j).map Int.toNat)).1 : Nat) : Int) * (x + 1) = (((many ((xs.take (j + 1)).map Int.toNat)).1 : Nat) : Int) := by
    rw [es]
    show _ = (((many ((xs.take j).map Int.toNat)).1 * (x.toNat + 1) : Nat) : Int)
    rw [Int.natCast_mul]
    congr 1
    omega
   have hm3 : (many ((xs.take (j + 1)).map Int.toNat)).1 ≤ 19487171 * 11 := by rw [es]; exact Nat.mul_le_mul hm1 (by omega)
   have hm4 : (many ((xs.take (j + 1)).map Int.toNat)).2 = (many ((xs.take j).map Int.toNat)).2 + x.toNat := by rw [es]
   clear hm hp es
   refine leS (hs.hp h) ?_
   refine Bn_ltT (by omega) (If_T (iaH h ‹_› (by omega) fun zb zo zk zv zc => ?_))
   refine lh0 h ‹_› ‹_› (by rfl) ?_
   refine Bn_ltF (by omega) (Gd_F (Gd_F (Gd_F (iaH h ‹_› (by omega) fun zb zo zk zv zc => ?_))))
   refine Gd_F (lh0 h ‹_› ‹_› (by rfl) ?_)
   refine Gd_F (Bn_gtF (by omega) (Pick_F (If_F (iaH h ‹_› (by omega) fun zb zo zk zv zc => ?_))))
   refine lh0 h ‹_› ‹_› (by rfl) ?_
   refine Bn_ad (by omega) (by omega) (iaH h ‹_› (by omega) fun zb zo zk zv zc => ?_)
   refine lh0 h ‹_› ‹_› (by rfl) ?_
   refine Bn_ad (by omega) (by omega) (Bn_mu (by omega) (by omega) (Bn_ad (by omega) (by omega) ?_))
   refine ⟨⟨j + 1, by omega, rfl, fun y hy => ?_, by rw [hm4]; congr 1; omega, by rw [hmu], h⟩, by show xs.length - ((j : Int) + 1).toNat < xs.length - (j : Int).toNat; omega⟩
   rw [take_snoc hx] at hy
   rcases List.mem_append.1 hy with hy | hy
   ·exact hall y hy
   ·simp at hy; subst hy; exact ⟨by omega, b⟩
  ·refine leS (hs.hp h) ?_
   refine Bn_ltT (by omega) (If_T (iaH h ‹_› (by omega) fun zb zo zk zv zc => ?_))
   refine lh0 h ‹_› ‹_› (by rfl) ?_
   refine Bn_ltF (by omega) (Gd_F (Gd_F (Gd_F (iaH h ‹_› (by omega) fun zb zo zk zv zc => ?_))))
   refine Gd_F (lh0 h ‹_› ‹_› (by rfl) ?_)
   refine Gd_F (Bn_gtT (by omega) (Pick_F (If_T ?_)))
   exact Ret.mk ⟨h.ext, rfl⟩
 ·rw [List.take_of_length_le (by omega)] at hall
  exact absurd hall hno
theorem c_fmergedE {xs : List Int} (hs : SlC w0 1 sv xs.length (xs.flatMap fI)) (hx7 : xs.length ≤ 7) (hno : ¬ ∃ ks : List Nat, xs = ks.map (fun (x : Nat) => (x : Int)) ∧ MgOk ks l) :
 Calls Tryz.prog 60 #[sv, v] w0 (Ret fun r w' => Ext w0 w' ∧ r = .int .i64 (-1)) := by
 by_cases ha : ∀ x ∈ xs, szOk x
 ·obtain ⟨ks, rfl, hk⟩ := sz_nat ha
  have hsn : SlC w0 1 sv ks.length (ks.flatMap fN) := by
   rw [← fN_cast, List.length_map] at hs
   exact hs
  rw [List.length_map] at hx7
  clear hs
  by_cases h6 : ks.length ≤ 6
  ·exact c_fmergedA hv hl hsn h6 hk (.inr ⟨fun hM => hno ⟨ks, rfl, hM⟩, rfl⟩)
  ·apply e_ref25_merged
   unfold s_ref25_merged
   have h := Hp.init [] w0
   refine leS (hsn.hp h) ?_
   refine Bn_gtT (by omega) (If_T ?_)
   exact Ret.mk ⟨h.ext, rfl⟩
 ·exact c_fmergedB hv hl hs hx7 ha
theorem c_fMergedE {xs : List Int} (hs : SlC w0 1 sv xs.length (xs.flatMap fI)) (hx7 : xs.length ≤ 7) (hno : ¬ ∃ ks : List Nat, xs = ks.map (fun (x : Nat) => (x : Int)) ∧ MgOk ks l) :
 Calls Tryz.prog 28 #[sv, v] w0 (Ret fun r w' => Ext w0 w' ∧ r = .tuple #[.slice none 0 0, .int .i64 250]) := by
 have cc1 := fun {W : World} (e : Ext w0 W) => c_fmergedE (w0 := W) (hv.ext e) hl (hs.ext e) hx7 hno
 apply e_ref25_Merged
 unfold s_ref25_Merged
 have h := Hp.init [] w0
 refine cl1 h n_ref25_merged (cc1 h.ext) fun w h => ?_
 refine Bn_ltT (by omega) (If_T ?_)
 exact Ret.mk ⟨h.ext, rfl⟩
end
end Go.Proofs.YthjhkpefammjkaaGreatDoor
