/-
  Contracts and plain lemmas. By an AI agent.
-/
import Derived.Test.YthjhkpefammjkaaGreatDoorLShPx
import Derived.Test.YthjhkpefammjkaaGreatDoorShPm
import Derived.Test.YthjhkpefammjkaaGreatDoorShPs
import Derived.Test.YthjhkpefammjkaaGreatDoorPlain
set_option linter.unusedSimpArgs false
set_option linter.unusedVariables false
set_option linter.unusedSectionVars false
namespace Go.Proofs.YthjhkpefammjkaaGreatDoor
open Go Go.Eng Go.Proofs Go.Num Go.RowKit Go.Shr
set_option maxRecDepth 100000
theorem nat_get {l : List Nat} {s : Nat} (h : s < l.length) : l[s]? = some (l.getD s 0) := by
 rw [List.getD_eq_getElem?_getD, List.getElem?_eq_getElem h]; rfl
theorem set_fN {l : List Nat} {j y : Nat} : (l.flatMap fN).set (0 + j * 1) (.int .i64 (y : Int)) = (l.set j y).flatMap fN := by
 have e : ∀ l : List Nat, l.flatMap fN = l.map fun x => Value.int .i64 ((x : Nat) : Int) := fun l => by
  induction l with
  | nil => rfl
  | cons a l ih => rw [List.flatMap_cons, ih]; rfl
 rw [e, e, List.map_set, Nat.zero_add, Nat.mul_one]
theorem nextO_none {l : List Nat} {n : Nat} (hl : l.length = n) (h1 : riseAt l (n - 1) = none) : nextO l = none := by
 unfold nextO; rw [hl, h1]
theorem nextO_some {l L : List Nat} {n k j : Nat} (hl : l.length = n) (h1 : riseAt l (n - 1) = some k) (h2 : lastAt l (l.getD k 0) (n - 1) = j) (h3 : revFrom n (swapL l k j) (k + 1) (n - 1) = L) : nextO l = some L := by
 unfold nextO; rw [hl, h1]; show some (revFrom n (swapL l k (lastAt l (l.getD k 0) (n - 1))) (k + 1) (n - 1)) = _; rw [h2, h3]
theorem lastAt_stop {l : List Nat} {x j : Nat} (h : ¬ l.getD j 0 < x) : lastAt l x j = j := by
 cases j with
 | zero => rfl
 | succ j => unfold lastAt; rw [if_neg h]
theorem revFrom_stop {f a b : Nat} {l : List Nat} (h : ¬ a < b) : revFrom f l a b = l := by
 cases f with
 | zero => rfl
 | succ f => unfold revFrom; rw [if_neg h]
theorem swapL_len {l : List Nat} {a b : Nat} : (swapL l a b).length = l.length := by
 unfold swapL; rw [List.length_set, List.length_set]
section
variable {w0 w : World} {v : Value} {l : List Nat} {n : Nat} {E : List Et}
set_option maxHeartbeats 8000000 in
theorem c_next (hn : n ≤ 6) (hl : l.length = n) (h : Hp [] w0 w (ro tI 1 v n (l.flatMap fN) :: E)) :
 Calls Tryz.prog 32 #[v] w (Ret fun r w' => r = .bool (nextO l).isSome ∧ Hp [] w0 w' (ro tI 1 v n (((nextO l).getD l).flatMap fN) :: E)) := by
 apply e_law25_next
 unfold s_law25_next
 refine leS (qZ 0 h rfl) ?_
 refine Bn_su (by omega) (by omega) ?_
 refine Lp1.mk (fun x W => ((∃ k : Nat, k + 1 < n ∧ x = .int .i64 k ∧ riseAt l (n - 1) = riseAt l (k + 1)) ∨ (∃ z : Int, z < 0 ∧ -10 ≤ z ∧ x = .int .i64 z ∧ riseAt l (n - 1) = none)) ∧ Hp [] w0 W (ro tI 1 v n (l.flatMap fN) :: E)) (fun x _ => match x with | .int _ z => (z + 1).toNat | _ => 0) ⟨?_, h⟩ ?_
 ·by_cases n2 : 2 ≤ n
  ·exact .inl ⟨n - 2, by omega, by rw [show (n : Int) - 2 = ((n - 2 : Nat) : Int) by omega], by rw [show n - 2 + 1 = n - 1 by omega]⟩
  ·exact .inr ⟨(n : Int) - 2, by omega, by omega, rfl, by rw [show n - 1 = 0 by omega]; rfl⟩
 clear h
 rintro _ W ⟨⟨k, hk, rfl, hr⟩ | ⟨z, hz, hz2, rfl, hr⟩, h⟩
 rotate_left
 ·replace h := h.dr
  refine Dv_geF (by omega) (GdP_FT (GdP_FT (GdP_FT (GdP_FT (GdP_FT (GdP_FT (GdP_FT (GdP_FT (GdP_FT (GdP_FT (PickP_F (If_F (Bn_ltT (by omega) (If_T ?_))))))))))))))
  rw [nextO_none hl hr]
  exact Ret.mk ⟨rfl, h⟩
 refine Exists.elim (p := fun q => l.getD k 0 = q) ⟨_, rfl⟩ fun a ha => ?_
 refine Exists.elim (p := fun q => l.getD (k + 1) 0 = q) ⟨_, rfl⟩ fun b hb => ?_
 have s0 : Seg (l.flatMap fN) (k * 1) (fN a) := flat_seg (f := fN) (fun _ => rfl) (by rw [← ha]; exact nat_get (by omega))
 have s1 : Seg (l.flatMap fN) ((k + 1) * 1) (fN b) := flat_seg (f := fN) (fun _ => rfl) (by rw [← hb]; exact nat_get (by omega))
 by_cases hba : b < a
 ·replace h := h.dr
  refine Dv_geT (by omega) (GdP_T (GdP_T (GdP_T (diR h 0 rfl (by omega) fun zg zk zv => ?_))))
  refine GdP_T (dr0 h 0 rfl ‹_› s0 (by rfl) ?_)
  refine GdP_T (GdP_T (GdP_T (Dv_ad (by omega) (by omega) (GdP_T (diRz h 0 rfl (by omega) (by omega) fun zg zk zv => ?_)))))
  refine GdP_T (dr0 h 0 rfl ‹_› ‹_› (by rfl) ?_)
  refine GdP_T (Dv_gtT (by omega) (PickP_T (If_T (Bn_su (by omega) (by omega) ?_))))
  refine ⟨?_, ?_⟩
  rotate_left
  ·show ((k : Int) - 1 + 1).toNat < ((k : Int) + 1).toNat; omega
  refine ⟨?_, h⟩
  have e : riseAt l (k + 1) = riseAt l k := by
   rw [riseAt, ha, hb, if_pos hba]
  rw [e] at hr
  cases k with
  | zero => exact .inr ⟨((0 : Nat) : Int) - 1, by decide, by decide, rfl, hr⟩
  | succ k => exact .inl ⟨k, by omega, by rw [show ((k + 1 : Nat) : Int) - 1 = (k : Int) by omega], hr⟩
 have hrk : riseAt l (n - 1) = some k := by rw [hr, riseAt, ha, hb, if_neg hba]
 replace h := h.dr
 refine Dv_geT (by omega) (GdP_T (GdP_T (GdP_T (diR h 0 rfl (by omega) fun zg zk zv => ?_))))
 refine GdP_T (dr0 h 0 rfl ‹_› s0 (by rfl) ?_)
 refine GdP_T (GdP_T (GdP_T (Dv_ad (by omega) (by omega) (GdP_T (diRz h 0 rfl (by omega) (by omega) fun zg zk zv => ?_)))))
 refine GdP_T (dr0 h 0 rfl ‹_› ‹_› (by rfl) ?_)
 refine GdP_T (Dv_gtF (by omega) (PickP_T (If_F (Bn_ltF (by omega) (If_F (leS (qZ 0 h rfl) ?_))))))
 refine Bn_su (by omega) (by omega) ?_
 clear hr s1
 refine Lp1.mk (fun x W => (∃ j : Nat, k ≤ j ∧ j < n ∧ x = .int .i64 j ∧ lastAt l a (n - 1) = lastAt l a j) ∧ Hp [] w0 W (ro tI 1 v n (l.flatMap fN) :: E)) (fun x _ => match x with | .int _ z => z.toNat | _ => 0) ⟨⟨n - 1, by omega, by omega, by rw [show (n : Int) - 1 = ((n - 1 : Nat) : Int) by omega], rfl⟩, h⟩ ?_
 clear h
 rintro _ W ⟨⟨j, hkj, hj, rfl, hla⟩, h⟩
 refine Exists.elim (p := fun q => l.getD j 0 = q) ⟨_, rfl⟩ fun c hc => ?_
 have s2 : Seg (l.flatMap fN) (j * 1) (fN c) := flat_seg (f := fN) (fun _ => rfl) (by rw [← hc]; exact nat_get (by omega))
 by_cases hca : c < a
 ·have hne : j ≠ k := fun e => by rw [e, ha] at hc; omega
  replace h := h.dr
  refine diR h 0 rfl (by omega) fun zg zk zv => ?_
  refine dr0 h 0 rfl ‹_› s2 (by rfl) ?_
  refine diR h 0 rfl (by omega) fun zg zk zv => ?_
  refine dr0 h 0 rfl ‹_› s0 (by rfl) ?_
  refine Dv_ltT (by omega) (If_T (Bn_su (by omega) (by omega) ?_))
  refine ⟨?_, ?_⟩
  rotate_left
  ·show ((j : Int) - 1).toNat < (j : Int).toNat; omega
  refine ⟨⟨j - 1, by omega, by omega, by rw [show ((j - 1 : Nat) : Int) = (j : Int) - 1 by omega], ?_⟩, h⟩
  rw [hla]
  obtain ⟨j', rfl⟩ : ∃ j', j = j' + 1 := ⟨j - 1, by omega⟩
  rw [lastAt, hc, if_pos hca]; rfl
 have hlj : lastAt l (l.getD k 0) (n - 1) = j := by rw [ha, hla]; exact lastAt_stop (by rw [hc]; exact hca)
 clear hla
 replace h := h.dr
 refine diR h 0 rfl (by omega) fun zg zk zv => ?_
 refine dr0 h 0 rfl ‹_› s2 (by rfl) ?_
 refine diR h 0 rfl (by omega) fun zg zk zv => ?_
 refine dr0 h 0 rfl ‹_› s0 (by rfl) ?_
 refine Dv_ltF (by omega) (If_F ?_)
 replace h := h.dr
 refine diR h 0 rfl (by omega) fun zg zk zv => ?_
 refine dr0 h 0 rfl ‹_› s2 (by rfl) ?_
 refine diR h 0 rfl (by omega) fun zg zk zv => ?_
 refine dr0 h 0 rfl ‹_› s0 (by rfl) ?_
 refine diR h 0 rfl (by omega) fun zg zk zv => ?_
 refine stR1 h 0 rfl ‹_› (by rfl) (by rfl) (by omega) fun w h => ?_
 refine diR h 0 rfl (by omega) fun zg zk zv => ?_
 refine stR1 h 0 rfl ‹_› (by rfl) (by rfl) (by omega) fun w h => ?_
 refine Bn_ad (by omega) (by omega) (leS (qZ 0 h rfl) ?_)
 refine Bn_su (by omega) (by omega) ?_
 dsimp only [List.set] at h
 rw [set_fN, set_fN] at h
 have eS : (l.set k c).set j a = swapL l k j := by unfold swapL; rw [ha, hc]
 rw [eS] at h
 clear s0 s2
 refine Lp2.mk (fun x y W => ∃ (L : List Nat) (p q f : Nat), L.length = n ∧ x = .int .i64 p ∧ y = .int .i64 q ∧ p ≤ n ∧ q < n ∧ q + 1 ≤ f + p ∧ revFrom n (swapL l k j) (k + 1) (n - 1) = revFrom f L p q ∧ Hp [] w0 W (ro tI 1 v n (L.flatMap fN) :: E)) (fun _ y _ => match y with | .int _ z => z.toNat | _ => 0) ⟨swapL l k j, k + 1, n - 1, n, by rw [swapL_len]; exact hl, by rw [show ((k + 1 : Nat) : Int) = (k : Int) + 1 from rfl], by rw [show ((n - 1 : Nat) : Int) = (n : Int) - 1 by omega], by omega, by omega, by omega, rfl, h⟩ ?_
 clear h
 rintro _ _ W ⟨L, p, q, f, hL, rfl, rfl, hp, hq, hf, hrv, h⟩
 by_cases hpq : p < q
 ·refine Exists.elim (p := fun x => L.getD p 0 = x) ⟨_, rfl⟩ fun a1 ha1 => ?_
  refine Exists.elim (p := fun x => L.getD q 0 = x) ⟨_, rfl⟩ fun b1 hb1 => ?_
  have s0 : Seg (L.flatMap fN) (p * 1) (fN a1) := flat_seg (f := fN) (fun _ => rfl) (by rw [← ha1]; exact nat_get (by omega))
  have s1 : Seg (L.flatMap fN) (q * 1) (fN b1) := flat_seg (f := fN) (fun _ => rfl) (by rw [← hb1]; exact nat_get (by omega))
  refine Bn_ltT (by omega) (If_T ?_)
  replace h := h.dr
  refine diR h 0 rfl (by omega) fun zg zk zv => ?_
  refine dr0 h 0 rfl ‹_› s1 (by rfl) ?_
  refine diR h 0 rfl (by omega) fun zg zk zv => ?_
  refine dr0 h 0 rfl ‹_› s0 (by rfl) ?_
  refine diR h 0 rfl (by omega) fun zg zk zv => ?_
  refine stR1 h 0 rfl ‹_› (by rfl) (by rfl) (by omega) fun w h => ?_
  refine diR h 0 rfl (by omega) fun zg zk zv => ?_
  refine stR1 h 0 rfl ‹_› (by rfl) (by rfl) (by omega) fun w h => ?_
  refine Bn_ad (by omega) (by omega) (Bn_su (by omega) (by omega) ?_)
  dsimp only [List.set] at h
  rw [set_fN, set_fN] at h
  obtain ⟨f', rfl⟩ : ∃ f', f = f' + 1 := ⟨f - 1, by omega⟩
  refine ⟨⟨swapL L p q, p + 1, q - 1, f', by rw [swapL_len]; exact hL, rfl, by rw [show ((q - 1 : Nat) : Int) = (q : Int) - 1 by omega], by omega, by omega, by omega, ?_, ?_⟩, by show ((q : Int) - 1).toNat < (q : Int).toNat; omega⟩
  ·rw [hrv, revFrom, if_pos hpq]
  ·have e : (L.set p b1).set q a1 = swapL L p q := by unfold swapL; rw [ha1, hb1]
   rw [e] at h
   exact h
 ·rw [revFrom_stop hpq] at hrv
  refine Bn_ltF (by omega) (If_F ?_)
  rw [nextO_some hl hrk hlj hrv]
  exact Ret.mk ⟨rfl, h⟩
end
theorem ords_okA : ((List.range 6).all fun n => (ords 130 (List.range n)).all fun L => L.length == n && L.all fun c => decide (c < n)) = true := by decide +kernel
theorem ords_ok {m : Nat} (hm : m ≤ 5) {L : List Nat} (h : L ∈ ords 130 (List.range m)) : L.length = m ∧ ∀ c ∈ L, c < m := by
 have h1 := List.all_eq_true.1 (List.all_eq_true.1 ords_okA m (List.mem_range.2 (by omega))) L h
 rw [Bool.and_eq_true, beq_iff_eq] at h1
 exact ⟨h1.1, fun c hc => of_decide_eq_true (List.all_eq_true.1 h1.2 c hc)⟩
theorem ords_len {m : Nat} (hm : m ≤ 5) : (ords 130 (List.range m)).length = fac m := by
 have h1 := List.all_eq_true.1 ords_all m (List.mem_range.2 (by omega))
 rw [Bool.and_eq_true, beq_iff_eq] at h1
 exact h1.1
theorem ords_sum {m i : Nat} (hm : m ≤ 5) (hi : i < m) (u : List Int) : ev ((ords 130 (List.range m)).flatMap (ordF i 0)) u = numS m u i := by
 have h1 := List.all_eq_true.1 ords_all m (List.mem_range.2 (by omega))
 rw [Bool.and_eq_true] at h1
 rw [numS_lf]
 exact (lfEq_ev (List.all_eq_true.1 h1.2 i (List.mem_range.2 hi)) u).symm
theorem fac120 {m : Nat} (hm : m ≤ 5) : fac m ≤ 120 := by
 have : ∀ m, m < 6 → fac m ≤ 120 := by decide
 exact this m (by omega)
theorem ordF_cons {i s c q : Nat} {T : List Nat} (hq : s ||| 2 ^ c = q) (u : List Int) : ev (ordF i s (c :: T)) u = (if i = c then g u q - g u s else 0) + ev (ordF i q T) u := by
 have e1 : s ||| 1 <<< c = q := by rw [Nat.one_shiftLeft]; exact hq
 rw [ordF, ev_append, e1]
 congr 1
 by_cases e : c = i
 ·rw [if_pos e, if_pos e.symm, ev_cons, ev_cons, ev_nil]; show (1 : Int) * g u q + (-1 * g u s + 0) = g u q - g u s; omega
 ·rw [if_neg e, if_neg fun h => e h.symm, ev_nil]
section
variable {w0 : World} {n al : Int} {v : Value} {xs : List Int} (hn : I64 n) (ha : I64 al) (hv : SlC w0 1 v xs.length (xs.flatMap fI)) (hl : xs.length ≤ 9223372036854775807) (hx : ∀ x ∈ xs, I64 x) (hT : Tab w0) (hF : FacV w0)
include hn ha hv hl hx hT hF
set_option maxHeartbeats 16000000 in
theorem c_Orders : Calls Tryz.prog 8 #[.int .i64 n, v, .int .i64 al] w0 (Ret fun r w' => Ext w0 w' ∧ r = .bool true) := by
 refine Exists.elim (pk_nat (c := n) (n := 6) (by decide)) fun m hm => ?_
 have hm6 := hm.2
 have cc1 := fun {W : World} (e : Ext w0 W) => c_sane (w0 := W) (hT.ext e) (hF.ext e)
 apply e_law25_ShareOrders
 unfold s_law25_ShareOrders
 have h := Hp.init [] w0
 refine cl1 h n_law25_sane (cc1 h.ext) fun w h => ?_
 refine Un_T (If_F (Cl_i n_ref25_Made (c_Made hn ha (hv.ext h.ext) hl hx hm.1) ?_))
 rintro u w1 ⟨_, rfl, l, hll, hlo, h'⟩
 have h := h.cat1 h' ro_sm
 have p2 : 2 ^ m ≤ 32 := Nat.pow_le_pow_right (n := 2) (by decide) (show m ≤ 5 by omega)
 have wl := mdOk_w hlo
 have n6 : m ≤ 5 := by omega
 refine Cl_i n_share_Shapley (c_Shapley (l := l) (by rw [hll]; exact h.sl (i := 0) rfl) (by omega) hll wl (hT.ext h.ext) (hF.ext h.ext)) ?_
 rintro _ w1 ⟨vl, rfl, h'⟩
 have h := h.cat1 h' ro_sm
 have x1 := h.ext
 have hsh : SlC w1 2 vl m (qC (shrs m l)) := h.sl (i := 0) rfl
 have hu : SlC w1 1 u (2 ^ m) (l.flatMap fI) := h.sl (i := 1) rfl
 have hT := hT.ext x1
 have hF := hF.ext x1
 refine Exists.elim (p := fun p => 2 ^ m = p) ⟨_, rfl⟩ fun p hp => ?_
 have hp0 : 0 < p := by rw [← hp]; exact Nat.two_pow_pos m
 rw [hp] at hu p2 hll
 clear cc1 h h' hv
 have h := Hp.init [] w1
 refine Ex2 (Bn_neF (by omega) (If_F ?_))
 have h := h.nil tI 1
 refine Lp2.mk (fun o i W => ∃ s : Nat, s ≤ m ∧ i = .int .i64 s ∧ Hp [] w1 W [ro tI 1 o s ((List.range s).flatMap fN)]) (fun _ i _ => match i with | .int _ i' => m - i'.toNat | _ => 0) ⟨0, by omega, rfl, h⟩ ?_
 clear h
 rintro o _ W ⟨s, hs, rfl, h⟩
 by_cases hsm : s < m
 ·
  refine leS (hsh.hp h) ?_
  refine Bn_ltT (by omega) (If_T (bs1A h (by rfl) (by decide) (by rfl) (by decide) fun v1 w h => ?_))
  refine apR (by rfl) (by decide) h 1 rfl (qZ 0 h rfl) (by first | rfl | assumption) (by omega) fun v2 w h => ?_
  refine Bn_ad (by omega) (by omega) ?_
  dsimp only [List.set] at h
  refine ⟨⟨s + 1, by omega, rfl, ?_⟩, by show m - ((s : Int) + 1).toNat < m - (s : Int).toNat; omega⟩
  rw [List.range_succ, List.flatMap_append]
  exact h.pick [1] (by decide) rfl
 have e : s = m := by omega
 rw [e] at h
 refine leS (hsh.hp h) ?_
 refine Bn_ltF (by omega) (If_F (leS (hsh.hp h) ?_))
 refine msS fI (0 : Int) rfl (by decide) h (n := m) (by omega) (by show m * 1 ≤ _; omega) fun tv w hg h => ?_
 have h := h.pick [1, 0] (by decide) rfl
 have hfl := ords_len n6
 have hf120 := fac120 n6
 have hf0 := fac_pos m
 have g0 : ∀ i, g (List.replicate m (0 : Int)) i = 0 := fun i => by
  unfold g
  rw [List.getD_eq_getElem?_getD, List.getElem?_replicate]
  by_cases e : i < m
  ·rw [if_pos e]; rfl
  ·rw [if_neg e]; rfl
 refine Lp2.mk (fun c b W => ∃ (D : List (List Nat)) (L : List Nat) (K : List Int) (f t : Nat) (bb : Bool), c = .int .i64 (D.length : Nat) ∧ b = .bool bb ∧ K.length = m ∧ L.length = m ∧ (bb = true → D.length + f = 129 ∧ ords 130 (List.range m) = D ++ ords (f + 1) L) ∧ (bb = false → ords 130 (List.range m) = D) ∧ t ≤ 6 * D.length ∧ (∀ i, i < m → -(200 * (t : Int)) ≤ g K i ∧ g K i ≤ 200 * (t : Int)) ∧ (∀ i, i < m → g K i = ev (D.flatMap (ordF i 0)) l) ∧ Hp [] w1 W [ro tI 1 o m (L.flatMap fN), ro tI 1 tv m (K.flatMap fI)])
  (fun c _ _ => match c with | .int _ i' => 121 - i'.toNat | _ => 0) ⟨[], List.range m, List.replicate m 0, 129, 0, true, rfl, rfl, by simp, by simp, fun _ => ⟨rfl, rfl⟩, (by intro h; cases h), by simp, fun i _ => by rw [g0 i]; omega, fun i _ => by rw [g0 i]; rfl, h⟩ ?_
 clear h g0
 rintro _ _ W ⟨D, L, K, f, t, bb, rfl, rfl, hK, hL, hbt, hbf, ht, hbd, hsum, h⟩
 cases bb
 ·
  have hD := hbf rfl
  have hDl : D.length = fac m := by rw [← hD]; exact hfl
  clear hbt hbf
  refine If_F (Lp1.mk (fun x W => ∃ i : Nat, i ≤ m ∧ x = .int .i64 i ∧ Hp [] w1 W [ro tI 1 o m (L.flatMap fN), ro tI 1 tv m (K.flatMap fI)]) (fun x _ => match x with | .int _ i' => m - i'.toNat | _ => 0) ⟨0, by omega, rfl, h⟩ ?_)
  clear h
  rintro _ W ⟨i, hi, rfl, h⟩
  by_cases him : i < m
  ·have b1 := hbd i him
   have b2 := b1.1
   have b3 := b1.2
   have hsi : ((g K i : Int) : Rat) / ((D.length : Int) : Rat) = shr m l i := by
    unfold shr
    rw [hsum i him, ← hD, ords_sum n6 him, hfl]
   have cc1 : ∀ {W : World}, Ext w1 W → Calls Tryz.prog 22 #[.int .i64 (g K i), .int .i64 (D.length : Int)] W (Ret fun r w' => Ext W w' ∧ r = ov (some (shr m l i))) := fun {W} e => by
    have := c_of (w := W) (n := g K i) (d := (D.length : Int)) (hT.ext e) (by unfold I64; omega) (by unfold I64; omega) (by omega)
    rw [hsi] at this; exact this
   have t1 : Seg (qC (shrs m l)) (i * 2) (fO (some (shr m l i))) := flat_seg (f := fun x : Rat => fO (some x)) (fun _ => rfl) (shrs_get him)
   have t2 : Seg (K.flatMap fI) (i * 1) (fI (g K i)) := flat_seg (f := fI) (fun _ => rfl) (g_get (by omega))
   have qe := qe_t (shr m l i)
   refine leS (hsh.hp h) ?_
   refine Bn_ltT (by omega) (If_T ?_)
   replace h := h.dr
   refine diH h ‹_› (by omega) fun zb zo zk zv zc => ?_
   refine dhA h ‹_› ‹_› (by rfl) ?_
   refine diR h 1 rfl (by omega) fun zg zk zv => ?_
   refine dr0 h 1 rfl ‹_› t2 (by rfl) ?_
   refine cl1 h n_law25_of (cc1 h.ext) fun w h => ?_
   refine khA h ‹_› ‹_› (by rfl) ?_
   refine dqNeF ‹_› ?_
   refine If_F (Bn_ad (by omega) (by omega) ?_)
   exact ⟨⟨i + 1, by omega, rfl, h⟩, by show m - ((i : Int) + 1).toNat < m - (i : Int).toNat; omega⟩
  ·refine leS (hsh.hp h) ?_
   refine Bn_ltF (by omega) (If_F ?_)
   exact Ret.mk ⟨x1.tr h.ext, rfl⟩
 have hb := hbt rfl
 have hbf' := hb.1
 have hOr := hb.2
 clear hbt hbf hb
 have hLm : L ∈ ords 130 (List.range m) := by rw [hOr]; exact List.mem_append_right _ List.mem_cons_self
 have hDl : D.length + 1 ≤ fac m := by
  rw [← hfl, hOr, List.length_append]
  show D.length + 1 ≤ D.length + (List.length _ + 1)
  omega
 have hLc := (ords_ok n6 hLm).2
 refine If_T ?_
 refine Lp2.mk (fun x k W => ∃ (k' s' t' : Nat) (K' : List Int), k' ≤ m ∧ x = .int .i64 s' ∧ k = .int .i64 k' ∧ s' < p ∧ K'.length = m ∧ t' ≤ 6 * D.length + k' ∧ (∀ i, i < m → -(200 * (t' : Int)) ≤ g K' i ∧ g K' i ≤ 200 * (t' : Int)) ∧ (∀ i, i < m → g K' i + ev (ordF i s' (L.drop k')) l = ev (D.flatMap (ordF i 0)) l + ev (ordF i 0 L) l) ∧ Hp [] w1 W [ro tI 1 o m (L.flatMap fN), ro tI 1 tv m (K'.flatMap fI)])
  (fun _ k _ => match k with | .int _ i' => m - i'.toNat | _ => 0) ⟨0, 0, t, K, by omega, rfl, rfl, hp0, hK, by omega, hbd, fun i hi => by rw [hsum i hi]; rfl, h⟩ ?_
 clear h hsum hbd hK K ht
 rintro _ _ W ⟨k, s', t', K, hk, rfl, rfl, hs', hK, ht, hbd, hsum, h⟩
 by_cases hks : k < m
 ·
  refine Exists.elim (p := fun x => L[k]? = some x) ⟨_, List.getElem?_eq_getElem (by omega)⟩ fun c hc => ?_
  have hcs := hLc c (List.mem_of_getElem? hc)
  refine Exists.elim (p := fun x => 2 ^ c = x) ⟨_, rfl⟩ fun pc hpc => ?_
  refine Exists.elim (p := fun x => s' ||| pc = x) ⟨_, rfl⟩ fun q hq => ?_
  have hqp : q < p := by
   rw [← hq, ← hpc, ← hp]
   exact Nat.or_lt_two_pow (by rw [hp]; exact hs') (Nat.pow_lt_pow_right (by decide) hcs)
  have hpcp : pc < p := by
   rw [← hpc, ← hp]
   exact Nat.pow_lt_pow_right (by decide) hcs
  have c63 : pc < 2 ^ 63 := Nat.lt_trans hpcp (Nat.lt_of_le_of_lt p2 (by decide))
  have s63 : s' < 2 ^ 63 := Nat.lt_trans hs' (Nat.lt_of_le_of_lt p2 (by decide))
  have hdr : L.drop k = c :: L.drop (k + 1) := by
   have e := (List.getElem?_eq_some_iff.1 hc)
   rw [List.drop_eq_getElem_cons e.1, e.2]
  have sL : Seg (L.flatMap fN) (k * 1) (fN c) := flat_seg (f := fN) (fun _ => rfl) hc
  have sK : Seg (K.flatMap fI) (c * 1) (fI (g K c)) := flat_seg (f := fI) (fun _ => rfl) (g_get (by omega))
  have sq : Seg (l.flatMap fI) ((s' ||| pc) * 1) (fI (g l q)) := by
   rw [hq]
   exact flat_seg (f := fI) (fun _ => rfl) (g_get (by omega))
  have ss : Seg (l.flatMap fI) (s' * 1) (fI (g l s')) := flat_seg (f := fI) (fun _ => rfl) (g_get (by omega))
  have b1 := hbd c hcs
  have b2 := b1.1
  have b3 := b1.2
  have u1 := md_g hlo (show q < l.length by omega)
  have u2 := u1.1
  have u3 := u1.2
  have u4 := md_g hlo (show s' < l.length by omega)
  have u5 := u4.1
  have u6 := u4.2
  clear hp
  refine leS (qZ 0 h rfl) ?_
  refine Bn_ltT (by omega) (If_T (iaR h 0 rfl (by omega) fun zg zk zv => ?_))
  refine lr0 h 0 rfl ‹_› sL (by rfl) ?_
  refine Bn_slA (by omega) ‹_› ?_
  refine Bn_or (by omega) (by omega) (leS (hu.hp h) ?_)
  refine Bn_geF (by omega) (If_F ?_)
  replace h := h.dr
  refine diR h 0 rfl (by omega) fun zg zk zv => ?_
  refine dr0 h 0 rfl ‹_› sL (by rfl) ?_
  refine diR h 0 rfl (by omega) fun zg zk zv => ?_
  refine dr0 h 0 rfl ‹_› sL (by rfl) ?_
  refine diR h 1 rfl (by omega) fun zg zk zv => ?_
  refine dr0 h 1 rfl ‹_› sK (by rfl) ?_
  refine diH h ‹_› (by omega) fun zb zo zk zv zc => ?_
  refine dh0 h ‹_› ‹_› (by rfl) ?_
  refine Dv_ad (by omega) (by omega) (diH h ‹_› (by omega) fun zb zo zk zv zc => ?_)
  refine dh0 h ‹_› ‹_› (by rfl) ?_
  refine Dv_su (by omega) (by omega) (diR h 1 rfl (by omega) fun zg zk zv => ?_)
  refine stR1 h 1 rfl ‹_› (by rfl) (by rfl) (by omega) fun w h => ?_
  refine Bn_ad (by omega) (by omega) ?_
  dsimp only [List.set] at h
  rw [set_fI] at h
  refine ⟨⟨k + 1, s' ||| pc, t' + 1, K.set c (g K c + g l q - g l s'), by omega, rfl, rfl, by omega, by rw [List.length_set]; exact hK, by omega, fun i hi => ?_, fun i hi => ?_, h⟩, by show m - ((k : Int) + 1).toNat < m - (k : Int).toNat; omega⟩
  ·have h1 := hbd i hi
   have h2 := h1.1
   have h3 := h1.2
   rw [g_set (by omega)]
   by_cases e : i = c
   ·rw [if_pos e]; omega
   ·rw [if_neg e]; omega
  ·have h1 := hsum i hi
   rw [hdr, ordF_cons (q := q) (by rw [hpc]; exact hq)] at h1
   rw [g_set (by omega), hq]
   by_cases e : i = c
   ·rw [if_pos e] at h1 ⊢
    rw [← e]
    omega
   ·rw [if_neg e] at h1 ⊢
    omega
 ·
  have e : k = m := by omega
  subst e
  refine leS (qZ 0 h rfl) ?_
  refine Bn_ltF (by omega) (If_F (Bn_ad (by omega) (by omega) (Cl_i n_law25_next (c_next (by omega) hL h) ?_)))
  rintro _ w2 ⟨rfl, h⟩
  have hsum' : ∀ i, i < k → g K i = ev ((D ++ [L]).flatMap (ordF i 0)) l := fun i hi => by
   have h1 := hsum i hi
   rw [List.drop_of_length_le (by omega)] at h1
   rw [List.flatMap_append, ev_append, List.flatMap_cons, List.flatMap_nil, List.append_nil, ← h1]
   show _ = g K i + ev [] l
   rw [ev_nil]; omega
  have hm' : 121 - ((D.length : Int) + 1).toNat < 121 - (D.length : Int).toNat := by omega
  have hlen : (D ++ [L]).length = D.length + 1 := by simp
  cases hnx : nextO L with
  | none =>
   rw [hnx] at h
   refine ⟨⟨D ++ [L], L, K, f, t', false, by rw [hlen]; rfl, rfl, hK, hL, (by intro h; cases h), fun _ => ?_, by rw [hlen]; omega, hbd, hsum', h⟩, hm'⟩
   rw [hOr, ords, hnx]
  | some L' =>
   rw [hnx] at h
   have hf : f = f - 1 + 1 := by omega
   have e2 : ords 130 (List.range k) = (D ++ [L]) ++ ords (f - 1 + 1) L' := by
    rw [hOr, ords, hnx, ← hf, List.append_assoc]; rfl
   have hL' : L' ∈ ords 130 (List.range k) := by rw [e2]; exact List.mem_append_right _ List.mem_cons_self
   exact ⟨⟨D ++ [L], L', K, f - 1, t', true, by rw [hlen]; rfl, rfl, hK, (ords_ok n6 hL').1, fun _ => ⟨by rw [hlen]; omega, e2⟩, (by intro h; cases h), by rw [hlen]; omega, hbd, hsum', h⟩, hm'⟩
end
end Go.Proofs.YthjhkpefammjkaaGreatDoor
