/-
  Contracts and plain lemmas. By an AI agent.
-/
import Derived.Test.YthdhnhghjecfkaaGreatLStZ
import Derived.Test.YthdhnhghjecfkaaGreatStA
import Derived.Test.YthdhnhghjecfkaaGreatSsJ
set_option linter.unusedSimpArgs false
set_option linter.unusedVariables false
set_option linter.unusedSectionVars false
namespace Go.Proofs.YthdhnhghjecfkaaGreat
open Go Go.Eng Go.Proofs Go.RowKit
open Go.Srd (Ft VF Hd Mv mv0 Rd Ab Cmd got ltF sam srt plh ofS gotL delN cntL insR insN insS rdd cntP)
set_option maxRecDepth 100000
theorem rfL_takeR {S : List Nat} {w0 w : World} {x : Sx} {a : Ab} {i j : Nat} {v : Value} {q : RV} (h : Hp S w0 w (rfL x a)) (hi : x.ls[i]? = some v) (hj : x.rs[j]? = some q) :
 Hp S w0 w (ro tFt 10 q.2.2 (got a q.1).length ((got a q.1).flatMap fF) :: ro tIn 1 q.2.1 q.1.ro.length (q.1.ro.flatMap fI) :: ro tHd 11 v (Srd.store a i).length ((Srd.store a i).flatMap fH) :: ro tHs 1 x.sv a.k (x.ls.flatMap fV) :: ro tIn 1 x.rv 8 (a.ro.flatMap fI) :: ro tRd 5 x.dv x.rs.length (x.rs.flatMap fR) :: (ros tHd 11 ((rwS a x.ls).eraseIdx i) ++ (ros tIn 1 ((rwO x.rs).eraseIdx j) ++ ros tFt 10 ((rwG a x.rs).eraseIdx j)))) := by
 have h := rfL_take h hi
 have eo : (rwO x.rs)[j]? = some ⟨q.2.1, q.1.ro.length, q.1.ro.flatMap fI⟩ := by unfold rwO; rw [List.getElem?_map, hj]; rfl
 have eg : (rwG a x.rs)[j]? = some ⟨q.2.2, (got a q.1).length, (got a q.1).flatMap fF⟩ := by unfold rwG; rw [List.getElem?_map, hj]; rfl
 obtain ⟨H, hH⟩ : ∃ H : List Et, H = [ro tHd 11 v (Srd.store a i).length ((Srd.store a i).flatMap fH), ro tHs 1 x.sv a.k (x.ls.flatMap fV), ro tIn 1 x.rv 8 (a.ro.flatMap fI), ro tRd 5 x.dv x.rs.length (x.rs.flatMap fR)] := ⟨_, rfl⟩
 have h0 : Hp S w0 w (H ++ (ros tHd 11 ((rwS a x.ls).eraseIdx i) ++ (ros tIn 1 (rwO x.rs) ++ ros tFt 10 (rwG a x.rs)))) := by rw [hH]; exact h
 rw [← List.append_assoc] at h0
 have h1 := Hp.perm h0 (List.perm_append_comm (l₁ := H ++ ros tHd 11 ((rwS a x.ls).eraseIdx i)))
 rw [List.append_assoc] at h1
 have h2 := ros_take eo h1
 have h3 := Hp.perm h2 ((List.Perm.cons _ ((List.perm_append_comm (l₁ := ros tIn 1 ((rwO x.rs).eraseIdx j))).trans (by rw [List.append_assoc]))).trans (List.perm_middle (l₁ := ros tFt 10 (rwG a x.rs))).symm)
 have h4 := ros_take eg h3
 refine Hp.perm h4 (List.Perm.cons _ ?_)
 show (ros tFt 10 ((rwG a x.rs).eraseIdx j) ++ (ro tIn 1 q.2.1 q.1.ro.length (q.1.ro.flatMap fI) :: ((H ++ ros tHd 11 ((rwS a x.ls).eraseIdx i)) ++ ros tIn 1 ((rwO x.rs).eraseIdx j)))).Perm _
 refine (List.perm_middle).trans (List.Perm.cons _ ?_)
 refine List.perm_append_comm.trans ?_
 rw [hH, List.append_assoc, List.append_assoc]
 exact List.Perm.refl _
section
variable {w0 : World} {S : List Nat} {x : Sx} {a : Ab} (hc : Rin S w0 x a)
include hc
set_option maxHeartbeats 16000000 in
theorem r_reaT {r : Int} {j : Nat} {q : RV} (hj : x.rs[j]? = some q) (hid : q.1.id = r) (hfj : ∀ y ∈ x.rs.take j, y.1.id ≠ r) :
 Calls Tryz.prog 55 #[vSh x a, vX 8 f0 0 0 0 r] w0 (Ret (RdAns S w0 x a (if q.1.nx + 1 = a.k then some ({ a with rd := a.rd.filter fun y => y.id ≠ r }, (srt (((Srd.all a).filter fun h => decide (h.2 < q.1.up)).map (·.1))))
  else some ({ a with rd := a.rd.map fun y => if y.id = r then { y with nx := y.nx + 1 } else y }, [])))) := by
 have hO := hc.ok
 have hk := hO.k
 have hrl := hO.ro.len
 have hone := hc.one
 have hR := hc.shR
 have hnA := hO.nA
 have hnr := hO.nr
 have hrs := hc.rs
 have hrsl : x.rs.length = a.rd.length := by rw [← hrs, List.length_map]
 have hjl : j < x.rs.length := (List.getElem?_eq_some_iff.1 hj).1
 have hqa : q.1 ∈ a.rd := by rw [← hrs]; exact List.mem_map.2 ⟨q, List.mem_of_getElem? hj, rfl⟩
 have hqo := hO.rd _ hqa
 have harj : a.rd[j]? = some q.1 := by rw [← hrs, List.getElem?_map, hj]; rfl
 have hnx := hqo.nx
 refine Exists.elim (p := fun v => x.ls[q.1.nx.toNat]? = some v) ⟨_, List.getElem?_eq_getElem (by rw [hc.ls]; omega)⟩ fun v hvx => ?_
 have hzz : ((q.1.nx.toNat : Nat) : Int) = q.1.nx := by omega
 have svx : Seg (x.ls.flatMap fV) (q.1.nx.toNat * 1) (fV v) := flat_seg (f := fV) (fun _ => rfl) hvx
 obtain ⟨R, hRR⟩ : ∃ R : Ending → World → Prop, R = Ret (RdAns S w0 x a (if q.1.nx + 1 = a.k then some ({ a with rd := a.rd.filter fun y => y.id ≠ r }, (srt (((Srd.all a).filter fun h => decide (h.2 < q.1.up)).map (·.1))))
  else some ({ a with rd := a.rd.map fun y => if y.id = r then { y with nx := y.nx + 1 } else y }, []))) := ⟨_, rfl⟩
 rw [← hRR]
 have hT := rfL_takeR hc.h hvx hj
 rw [hzz] at hT
 have hsl : (Srd.store a q.1.nx).length ≤ 400 := Nat.le_trans (Srd.store_len a q.1.nx) hnA
 have hgl := Srd.got_len a q.1
 have htr := tr_store (i := q.1.nx) hO
 obtain ⟨rest, hrest⟩ : ∃ rest, rest = ros tHd 11 ((rwS a x.ls).eraseIdx q.1.nx.toNat) ++ (ros tIn 1 ((rwO x.rs).eraseIdx j) ++ ros tFt 10 ((rwG a x.rs).eraseIdx j)) := ⟨_, rfl⟩
 rw [← hrest] at hT
 have sq : Seg (x.rs.flatMap fR) (j * 5) (fR q) := flat_seg (f := fR) (fun _ => rfl) hj
 obtain ⟨nq, hnq⟩ : ∃ nq : Value → RV, ∀ u, nq u = (⟨q.1.id, q.1.up, q.1.ro, q.1.nx + 1⟩, q.2.1, u) := ⟨_, fun _ => rfl⟩
 have hset : ∀ u : Value, (x.rs.flatMap fR).take (0 + j * 5) ++ [.int .i64 q.1.id, .int .i64 q.1.up, q.2.1, .int .i64 (q.1.nx + 1), u] ++ (x.rs.flatMap fR).drop (0 + j * 5 + [Value.int .i64 q.1.id, .int .i64 q.1.up, q.2.1, .int .i64 (q.1.nx + 1), u].length) = (x.rs.set j (nq u)).flatMap fR := fun u => by
  have e5 : 0 + j * 5 + [Value.int .i64 q.1.id, .int .i64 q.1.up, q.2.1, .int .i64 (q.1.nx + 1), u].length = (j + 1) * 5 := by show 0 + j * 5 + 5 = _; omega
  rw [e5, Nat.zero_add, flat_take (f := fR) (c := 5) (fun _ => rfl), flat_drop (f := fR) (c := 5) (fun _ => rfl), List.set_eq_take_append_cons_drop, if_pos hjl, List.flatMap_append, List.flatMap_cons, hnq, List.append_assoc]
 have hoth : ∀ (u : Value), ∀ y ∈ x.rs.set j (nq u), y = nq u ∨ y ∈ x.rs.eraseIdx j := fun u y hy => by
  obtain ⟨i, hi⟩ := List.mem_iff_getElem?.1 hy
  by_cases hij : i = j
  ·subst hij
   rw [List.getElem?_set_self hjl] at hi
   exact .inl (Option.some.inj hi).symm
  ·rw [List.getElem?_set_ne (fun h => hij h.symm)] at hi
   exact .inr (List.mem_eraseIdx_iff_getElem?.2 ⟨i, hij, hi⟩)
 have horo : ∀ rows : List Et, (∀ e ∈ rest, e ∈ rows) → ∀ y ∈ x.rs.eraseIdx j, Has rows 1 y.2.1 y.1.ro.length (y.1.ro.flatMap fI) := fun rows hr y hy =>
  has_O (rs := x.rs.eraseIdx j) (fun e he => hr e (by
   have : rwO (x.rs.eraseIdx j) = (rwO x.rs).eraseIdx j := by unfold rwO; rw [map_erase]
   rw [this] at he
   simp [hrest, he])) y hy
 have hogo : ∀ rows : List Et, (∀ e ∈ rest, e ∈ rows) → ∀ y ∈ x.rs.eraseIdx j, Has rows 10 y.2.2 (got a y.1).length ((got a y.1).flatMap fF) := fun rows hr y hy =>
  has_G (rs := x.rs.eraseIdx j) (a := a) (fun e he => hr e (by
   have : rwG a (x.rs.eraseIdx j) = (rwG a x.rs).eraseIdx j := by unfold rwG; rw [map_erase]
   rw [this] at he
   simp [hrest, he])) y hy
 have holst : ∀ rows : List Et, (∀ e ∈ rest, e ∈ rows) → ro tHd 11 v (Srd.store a q.1.nx).length ((Srd.store a q.1.nx).flatMap fH) ∈ rows → ∀ (i : Nat) (v' : Value), x.ls[i]? = some v' → Has rows 11 v' (Srd.store a i).length ((Srd.store a i).flatMap fH) := fun rows hr hm i v' hv => by
  by_cases hi : i = q.1.nx.toNat
  ·subst hi
   rw [hvx] at hv
   cases hv
   rw [hzz]
   exact Has.ro hm
  ·exact has_E (us := x.ls) (k := q.1.nx.toNat) (fun e he => hr e (by simp [hrest, he])) hi hv
 have hal : ∀ u : Value, u.oneCell' = true → ∀ y ∈ x.rs.set j (nq u), y.2.1.oneCell' = true ∧ y.2.2.oneCell' = true := fun u hu y hy => by
  rcases hoth u y hy with rfl | hy
  ·rw [hnq]
   exact ⟨(hR.one.2.2.2.2 q (List.mem_of_getElem? hj)).1, hu⟩
  ·exact hR.one.2.2.2.2 y (List.mem_of_mem_eraseIdx hy)
 have h := Hp.init [] w0
 apply e_ref37_reading
 unfold s_ref37_reading
 refine bxA h fun g1 w h => ?_
 refine bxA h fun g2 w h => ?_
 refine alS h fun g3 w h => ?_
 refine ldA h 2 rfl rfl ?_
 refine faS (ld1 h 1 rfl rfl (cl1 h n_ref37_find (r_findT (hR.ext h.ext) hO hj hid hfj) fun w h => ?_))
 have h := Hp.call (Lc := []) hT h (by
  intro e he
  simp only [List.mem_cons, List.not_mem_nil, or_false] at he
  rcases he with rfl | rfl | rfl <;> exact bx_sm)
 simp only [List.cons_append, List.nil_append] at h
 refine faS (ld1 h 1 rfl rfl (Bn_eqF (by omega) (If_F (Bn_ltF (by omega) (If_F (faS (ld1 h 2 rfl rfl (iaR h 8 rfl (by omega) fun zg zk zv => ?_))))))))
 refine lrA h 8 rfl ‹_› sq (by rfl) ?_
 refine alS h fun g4 w h => ?_
 have hqone : q.2.1.oneCell' = true ∧ q.2.2.oneCell' = true := hR.one.2.2.2.2 q (List.mem_of_getElem? hj)
 refine stA h 0 rfl rfl (by show (([.int .i64 q.1.id, .int .i64 q.1.up, q.2.1, .int .i64 q.1.nx, q.2.2] : List Value).all fun x => x.oneCell') = true; simp only [List.all_cons, List.all_nil, hqone.1, hqone.2]; rfl) rfl fun w h => ?_
 have h : Hp S w0 w (bx g4 tRd [.int .i64 q.1.id, .int .i64 q.1.up, q.2.1, .int .i64 q.1.nx, q.2.2] :: _) := h
 refine Lp1.mk (fun i W => ∃ (n : Nat) (gv : Value), n ≤ (Srd.store a q.1.nx).length ∧ i = .int .i64 n ∧
  Hp S w0 W (bx g4 tRd [.int .i64 q.1.id, .int .i64 q.1.up, q.2.1, .int .i64 q.1.nx, gv] :: bx g3 tSh zR :: bx g2 tX (fX 8 f0 0 0 0 r) :: bx g1 tSh (cS x a) :: ro tFt 10 gv (srt (got a q.1 ++ rdd q.1 ((Srd.store a q.1.nx).take n))).length ((srt (got a q.1 ++ rdd q.1 ((Srd.store a q.1.nx).take n))).flatMap fF) :: ro tIn 1 q.2.1 q.1.ro.length (q.1.ro.flatMap fI) :: ro tHd 11 v (Srd.store a q.1.nx).length ((Srd.store a q.1.nx).flatMap fH) :: ro tHs 1 x.sv a.k (x.ls.flatMap fV) :: ro tIn 1 x.rv 8 (a.ro.flatMap fI) :: ro tRd 5 x.dv x.rs.length (x.rs.flatMap fR) :: rest))
  (fun i _ => match i with | .int _ i' => (Srd.store a q.1.nx).length - i'.toNat | _ => 0) ⟨0, q.2.2, by omega, rfl, ?_⟩ ?_
 ·rw [Srd.read_zero hO q.1]
  exact h
 clear h
 rintro _ W ⟨n, gv, hn, rfl, h⟩
 by_cases hnl : n < (Srd.store a q.1.nx).length
 ·refine Exists.elim (p := fun y => (Srd.store a q.1.nx)[n]? = some y) ⟨_, List.getElem?_eq_getElem hnl⟩ fun y hy => ?_
  have sy : Seg ((Srd.store a q.1.nx).flatMap fH) (n * 11) (fH y) := flat_seg (f := fH) (fun _ => rfl) hy
  have hyt := htr y (List.mem_of_getElem? hy)
  have hsn := Srd.read_snoc hO hqo hy
  have hll := Srd.rdd_len q.1 ((Srd.store a q.1.nx).take n)
  rw [List.length_take] at hll
  have hl2 : (srt (got a q.1 ++ rdd q.1 ((Srd.store a q.1.nx).take n))).length ≤ 1000 := by rw [srt_len, List.length_append]; omega
  by_cases hup : y.2 < q.1.up
  ·have h8 := hqo.ro.len
   have sr : Seg (q.1.ro.flatMap fI) ((y.1.tr % 8).toNat * 1) (fI (Srd.roAt q.1.ro (y.1.tr % 8))) := by
    refine flat_seg (f := fI) (fun _ => rfl) ?_
    unfold Srd.roAt
    rw [List.getD_eq_getElem?_getD, List.getElem?_eq_getElem (by omega)]
    rfl
   refine faS (ld1 h 3 rfl rfl (faS (ld1 h 0 rfl rfl (iaRz h 7 rfl (by omega) (by omega) fun zg zk zv => ?_))))
   refine lr0 h 7 rfl ‹_› svx (by rfl) ?_
   refine leS (qZ 6 h rfl) ?_
   refine Bn_ltT (by omega) (If_T (faS (ld1 h 3 rfl rfl (faS (ld1 h 0 rfl rfl (iaRz h 7 rfl (by omega) (by omega) fun zg zk zv => ?_))))))
   refine lr0 h 7 rfl ‹_› svx (by rfl) ?_
   refine iaR h 6 rfl (by omega) fun zg zk zv => ?_
   refine lrA h 6 rfl ‹_› sy (by rfl) ?_
   refine alS h fun g5 w h => ?_
   refine stA h 0 rfl rfl rfl rfl fun w h => ?_
   replace h := h.dr
   refine dfS (dl1 h 0 rfl rfl (dfS (dl1 h 1 rfl rfl (Dv_ltT (by omega) (GdP_T (dfS (GdP_T (dl1 h 1 rfl rfl (GdP_T (dfS (GdP_T (dlA h 0 rfl rfl ?_))))))))))))
   refine GdP_T (dfS (GdP_T (dl1 h 1 rfl rfl (Gd_T ?_))))
   dsimp only [List.set] at h
   refine cl1 h n_ref37_of (r_of hyt) fun w h => ?_
   by_cases hat2 : Srd.roAt q.1.ro (y.1.tr % 8) = q.1.nx
   ·rw [if_pos ⟨hup, hat2⟩] at hsn
    refine Kg_T ?_
    refine kl1 h 1 rfl rfl (Kg_T ?_)
    refine kl1 h 1 rfl rfl (GdP_T (diRz h 6 rfl (by omega) (by omega) fun zg zk zv => ?_))
    refine GdP_T (dr0 h 6 rfl ‹_› sr (by rfl) ?_)
    refine GdP_T (Dv_eqT (by omega) (PickP_T (If_T (faS (ld1 h 1 rfl rfl (faS (ldA h 0 rfl rfl ?_)))))))
    refine clR (T := fun v => v) h n_ref37_ordered (r_ordered (qZ 5 h rfl) (by omega)) fun u w h => ?_
    rw [← hsn] at h
    refine faS (st1w h 2 rfl (qZ 0 h rfl) rfl fun w h => ?_)
    refine Bn_ad (by omega) (by omega) ?_
    dsimp only [List.set] at h
    refine ⟨⟨n + 1, u, by omega, rfl, ?_⟩, by show (Srd.store a q.1.nx).length - ((n : Int) + 1).toNat < (Srd.store a q.1.nx).length - (n : Int).toNat; omega⟩
    have h := Hp.sub h (L' := ro tFt 10 u _ _ :: bx g4 tRd _ :: bx g3 tSh _ :: bx g2 tX _ :: bx g1 tSh _ :: ro tIn 1 q.2.1 _ _ :: ro tHd 11 v _ _ :: ro tHs 1 _ _ _ :: ro tIn 1 _ _ _ :: ro tRd 5 _ _ _ :: rest) (.cons_cons _ (.cons _ (.cons_cons _ (.cons_cons _ (.cons_cons _ (.cons_cons _ (.cons _ (List.Sublist.refl _))))))))
    exact Hp.perm h (List.perm_middle (l₁ := [_, _, _, _])).symm
   ·rw [if_neg fun hc => hat2 hc.2] at hsn
    refine Kg_T ?_
    refine kl1 h 1 rfl rfl (Kg_T ?_)
    refine kl1 h 1 rfl rfl (GdP_T (diRz h 6 rfl (by omega) (by omega) fun zg zk zv => ?_))
    refine GdP_T (dr0 h 6 rfl ‹_› sr (by rfl) ?_)
    refine GdP_T (Dv_eqF (by omega) (PickP_T (If_F (Bn_ad (by omega) (by omega) ?_))))
    rw [← hsn] at h
    exact ⟨⟨n + 1, gv, by omega, rfl, h.drop 1⟩, by show (Srd.store a q.1.nx).length - ((n : Int) + 1).toNat < (Srd.store a q.1.nx).length - (n : Int).toNat; omega⟩
  ·rw [if_neg fun hc => hup hc.1] at hsn
   refine faS (ld1 h 3 rfl rfl (faS (ld1 h 0 rfl rfl (iaRz h 7 rfl (by omega) (by omega) fun zg zk zv => ?_))))
   refine lr0 h 7 rfl ‹_› svx (by rfl) ?_
   refine leS (qZ 6 h rfl) ?_
   refine Bn_ltT (by omega) (If_T (faS (ld1 h 3 rfl rfl (faS (ld1 h 0 rfl rfl (iaRz h 7 rfl (by omega) (by omega) fun zg zk zv => ?_))))))
   refine lr0 h 7 rfl ‹_› svx (by rfl) ?_
   refine iaR h 6 rfl (by omega) fun zg zk zv => ?_
   refine lrA h 6 rfl ‹_› sy (by rfl) ?_
   refine alS h fun g5 w h => ?_
   refine stA h 0 rfl rfl rfl rfl fun w h => ?_
   replace h := h.dr
   refine dfS (dl1 h 0 rfl rfl (dfS (dl1 h 1 rfl rfl (Dv_ltF (by omega) (GdP_FT (GdP_FT (GdP_FT (GdP_FT (GdP_FT (GdP_FT (Gd_FT (Kg_FT ?_))))))))))))
   refine Kg_FT ?_
   refine GdP_FT (GdP_FT (GdP_FT (PickP_F (If_F (Bn_ad (by omega) (by omega) ?_)))))
   dsimp only [List.set] at h
   rw [← hsn] at h
   exact ⟨⟨n + 1, gv, by omega, rfl, h.drop 1⟩, by show (Srd.store a q.1.nx).length - ((n : Int) + 1).toNat < (Srd.store a q.1.nx).length - (n : Int).toNat; omega⟩
 have hne : n = (Srd.store a q.1.nx).length := by omega
 subst hne
 rw [List.take_length, Srd.read_next hO hqo] at h
 refine faS (ld1 h 3 rfl rfl (faS (ld1 h 0 rfl rfl (iaRz h 7 rfl (by omega) (by omega) fun zg zk zv => ?_))))
 refine lr0 h 7 rfl ‹_› svx (by rfl) ?_
 refine leS (qZ 6 h rfl) ?_
 refine Bn_ltF (by omega) (If_F (faS (ld1 h 0 rfl rfl (Bn_ad (by omega) (by omega) (faS (st1 h 0 rfl rfl rfl rfl fun w h => ?_))))))
 refine faS (ld1 h 3 rfl rfl (ldA h 0 rfl rfl ?_))
 refine iaR h 9 rfl (by omega) fun zg zk zv => ?_
 dsimp only [List.set] at h
 have hg1 := slc_c1 (qZ 4 h rfl)
 refine stRA h 9 rfl zv rfl (by simp only [List.all_cons, List.all_nil, hqone.1, hg1.2]; rfl) (by show 0 + j * 5 + 5 ≤ _; omega) fun w h => ?_
 dsimp only [List.set] at h
 rw [hset gv] at h
 have hnl : x.ls.length = a.k := hc.ls
 have ha0 := hal gv hg1.2
 have ha1 : (((x.rs.set j (nq gv)).flatMap fR).take (j * 5)).all (fun x => x.oneCell') = true := by
  rw [flat_take (f := fR) (c := 5) (fun _ => rfl)]
  exact all_fR fun y hy => ha0 y (List.mem_of_mem_take hy)
 have ha2 : (((x.rs.set j (nq gv)).flatMap fR).drop ((j + 1) * 5)).all (fun x => x.oneCell') = true := by
  rw [flat_drop (f := fR) (c := 5) (fun _ => rfl)]
  exact all_fR fun y hy => ha0 y (List.mem_of_mem_drop hy)
 by_cases hlast : q.1.nx + 1 = a.k
 ·rw [if_pos hlast] at hRR
  have hfin : ∀ {w : World} {u4 : Value}, Hp S w0 w (ro tRd 5 u4 (0 + j + (x.rs.length - (j + 1))) ([] ++ ((x.rs.set j (nq gv)).flatMap fR).take (j * 5) ++ ((x.rs.set j (nq gv)).flatMap fR).drop ((j + 1) * 5)) :: ro tFt 10 gv (got a ⟨q.1.id, q.1.up, q.1.ro, q.1.nx + 1⟩).length ((got a ⟨q.1.id, q.1.up, q.1.ro, q.1.nx + 1⟩).flatMap fF) :: ro tIn 1 q.2.1 q.1.ro.length (q.1.ro.flatMap fI) :: ro tHd 11 v (Srd.store a q.1.nx).length ((Srd.store a q.1.nx).flatMap fH) :: ro tHs 1 x.sv a.k (x.ls.flatMap fV) :: ro tIn 1 x.rv 8 (a.ro.flatMap fI) :: rest) → R (.returned (.tuple #[vSh { x with dv := u4, rs := x.rs.eraseIdx j } a, gv, .bool true])) w := fun {w u4} h => by
   have e1 : [] ++ ((x.rs.set j (nq gv)).flatMap fR).take (j * 5) ++ ((x.rs.set j (nq gv)).flatMap fR).drop ((j + 1) * 5) = (x.rs.eraseIdx j).flatMap fR := by
    rw [List.nil_append, flat_take (f := fR) (c := 5) (fun _ => rfl), flat_drop (f := fR) (c := 5) (fun _ => rfl), ← List.flatMap_append, ← List.eraseIdx_eq_take_drop_succ, List.eraseIdx_set_eq]
   have e2 : 0 + j + (x.rs.length - (j + 1)) = (x.rs.eraseIdx j).length := by
    rw [List.length_eraseIdx_of_lt hjl]; omega
   rw [e1, e2] at h
   have h := Hp.perm h ((List.perm_append_comm (l₁ := [_, _, _, _]) (l₂ := [_, _])).append_right rest)
   rw [← hrl] at h
   have hgl := Srd.got_last hO hqo hlast
   rw [hRR]
   refine Ret.mk ⟨{ x with dv := u4, rs := x.rs.eraseIdx j }, gv, rfl, fin_rowsR (x := { x with dv := u4, rs := x.rs.eraseIdx j }) (a := { a with rd := a.rd.filter fun y => y.id ≠ r }) rfl h (holst _ (fun e he => by simp [he]) (by simp)) ?_ (horo _ (fun e he => by simp [he])) (hogo _ (fun e he => by simp [he])) (.inr ?_)⟩
   ·show (x.rs.eraseIdx j).map (·.1) = a.rd.filter fun y => y.id ≠ r
    rw [map_erase, hrs]
    exact (Srd.filt_at (f := fun y : Rd => y.id) hO.ids harj hid).symm
   ·rw [← hgl]
    exact Has.ro (t := tFt) (by simp)
  refine faS (ld1 h 0 rfl rfl (faS (ld1 h 3 rfl rfl (leS (qZ 7 h rfl) ?_))))
  refine Bn_ltF (by omega) (If_F ?_)
  replace h := h.dr
  refine dfS (dl1 h 3 rfl rfl (dscH (qZ 9 h rfl) (by omega) fun v1 p1 => ?_))
  refine dfS (dl1 h 3 rfl rfl (Dv_ad (by omega) (by omega) (dscL (lo := j + 1) (qZ 9 h rfl) (by omega) fun v5 p5 => ?_)))
  refine bs0 h fun v2 w h => ?_
  refine kl1 h 4 rfl rfl (kl1 h 4 rfl rfl (apR (by rfl) (by decide) h 0 rfl (p1.2 _ (qZ 10 h rfl)) (by first | rfl | assumption) (by omega) fun v3 w h => ?_))
  refine kl1 h 4 rfl rfl (apR (by rfl) (by decide) h 0 rfl (p5.2 _ (qZ 10 h rfl)) (by first | rfl | assumption) (by omega) fun v4 w h => ?_)
  refine dfS (st1w h 4 rfl (qZ 0 h rfl) rfl fun w h => ?_)
  replace h := h.dr
  refine dlA h 4 rfl rfl ?_
  refine dfS (dl1 h 1 rfl rfl ?_)
  dsimp only [List.set] at h
  have hc4 := slc_c1 (qZ 0 h rfl)
  refine stA h 2 rfl rfl (by simp only [List.all_cons, List.all_nil, hone.1, hone.2.1, hc4.2]; rfl) rfl fun w h => ?_
  dsimp only [List.set] at h
  refine kl1 h 1 rfl rfl (rcA h 2 rfl rfl ?_)
  exact hfin (Hp.sub h (.cons_cons _ (.cons _ (.cons _ (.cons _ (.cons _ (.cons_cons _ (.cons_cons _ (.cons_cons _ (.cons_cons _ (.cons_cons _ (.cons _ (List.Sublist.refl _)))))))))))))
 ·rw [if_neg hlast] at hRR
  have hfin : ∀ {w : World}, Hp S w0 w (ro tFt 10 gv (got a ⟨q.1.id, q.1.up, q.1.ro, q.1.nx + 1⟩).length ((got a ⟨q.1.id, q.1.up, q.1.ro, q.1.nx + 1⟩).flatMap fF) :: ro tIn 1 q.2.1 q.1.ro.length (q.1.ro.flatMap fI) :: ro tHd 11 v (Srd.store a q.1.nx).length ((Srd.store a q.1.nx).flatMap fH) :: ro tHs 1 x.sv a.k (x.ls.flatMap fV) :: ro tIn 1 x.rv 8 (a.ro.flatMap fI) :: ro tRd 5 x.dv x.rs.length ((x.rs.set j (nq gv)).flatMap fR) :: rest) → R (.returned (.tuple #[vSh x a, .slice none 0 0, .bool true])) w := fun {w} h => by
   have h := Hp.perm h ((List.perm_append_comm (l₁ := [_, _, _]) (l₂ := [_, _, _])).append_right rest)
   rw [← hrl] at h
   rw [hRR]
   refine Ret.mk ⟨{ x with rs := x.rs.set j (nq gv) }, .slice none 0 0, rfl, fin_rowsR (x := { x with rs := x.rs.set j (nq gv) }) (a := { a with rd := a.rd.map fun y => if y.id = r then { y with nx := y.nx + 1 } else y }) (by rw [List.length_set]) h (holst _ (fun e he => by simp [he]) (by simp)) ?_ (fun y hy => ?_) (fun y hy => ?_) (.inl ⟨rfl, rfl⟩)⟩
   ·show (x.rs.set j (nq gv)).map (·.1) = a.rd.map fun y => if y.id = r then { y with nx := y.nx + 1 } else y
    rw [List.map_set, hrs, hnq]
    exact (Srd.map_at (f := fun y : Rd => y.id) (g := fun y : Rd => { y with nx := y.nx + 1 }) hO.ids harj hid).symm
   ·rcases hoth gv y hy with rfl | hy
    ·rw [hnq]
     exact Has.ro (t := tIn) (by simp)
    ·exact horo _ (fun e he => by simp [he]) y hy
   ·rcases hoth gv y hy with rfl | hy
    ·rw [hnq]
     exact Has.ro (t := tFt) (n := (got a ⟨q.1.id, q.1.up, q.1.ro, q.1.nx + 1⟩).length) (xs := (got a ⟨q.1.id, q.1.up, q.1.ro, q.1.nx + 1⟩).flatMap fF) (by simp)
    ·exact hogo _ (fun e he => by simp [he]) y hy
  refine faS (ld1 h 0 rfl rfl (faS (ld1 h 3 rfl rfl (leS (qZ 7 h rfl) ?_))))
  refine Bn_ltT (by omega) (If_T (ldA h 3 rfl rfl ?_))
  refine stA h 1 rfl rfl (by simp only [List.all_cons, List.all_nil, hone.1, hone.2.1, hone.2.2]; rfl) rfl fun w h => ?_
  dsimp only [List.set] at h
  refine rcA h 1 rfl rfl ?_
  exact hfin (h.drop 4)
set_option maxHeartbeats 16000000 in
theorem r_reaF {r : Int} (hno : ∀ y ∈ x.rs, y.1.id ≠ r) : Calls Tryz.prog 55 #[vSh x a, vX 8 f0 0 0 0 r] w0 (Ret (RdAns S w0 x a none)) := by
 have hO := hc.ok
 have hR := hc.shR
 have hal := hR.all9
 apply e_ref37_reading
 unfold s_ref37_reading
 have h := Hp.init [] w0
 refine bxA h fun g1 w h => ?_
 refine bxA h fun g2 w h => ?_
 refine alS h fun g3 w h => ?_
 refine ldA h 2 rfl rfl ?_
 refine faS (ld1 h 1 rfl rfl (cl1 h n_ref37_find (r_findN (hR.ext h.ext) hO hno) fun w h => ?_))
 refine faS (ld1 h 1 rfl rfl (Bn_eqF (by omega) (If_F (Bn_ltT (by omega) (If_T (ldA h 2 rfl rfl ?_))))))
 refine stA h 0 rfl rfl hal rfl fun w h => ?_
 dsimp only [List.set] at h
 refine rcA h 0 rfl rfl ?_
 exact Ret.mk ⟨rfl, h.ext⟩
theorem r_rea {r : Int} : Calls Tryz.prog 55 #[vSh x a, vX 8 f0 0 0 0 r] w0 (Ret (RdAns S w0 x a (Srd.step a (.rea r)))) := by
 have hrs := hc.rs
 cases hf : x.rs.find? (fun y => decide (y.1.id = r)) with
 | none =>
  have hno : ∀ y ∈ x.rs, y.1.id ≠ r := fun y hy => by
   have := List.find?_eq_none.1 hf y hy
   simpa using this
  have hn : a.rd.find? (fun y => decide (y.id = r)) = none := by
   refine List.find?_eq_none.2 fun y hy => ?_
   rw [← hrs] at hy
   obtain ⟨z, hz, rfl⟩ := List.mem_map.1 hy
   simpa using hno z hz
  rw [show Srd.step a (.rea r) = none by unfold Srd.step; simp only []; rw [hn]]
  exact r_reaF hc hno
 | some q =>
  obtain ⟨q1, j, hj, q2, q3⟩ := List.find?_eq_some_iff_getElem.1 hf
  have hid : q.1.id = r := by simpa using q1
  have hq : a.rd.find? (fun y => decide (y.id = r)) = some q.1 := by
   rw [← hrs, List.find?_map]
   show Option.map _ (x.rs.find? fun y => decide (y.1.id = r)) = _
   rw [hf]
   rfl
  rw [show Srd.step a (.rea r) = (if q.1.nx + 1 = a.k then some ({ a with rd := a.rd.filter fun y => y.id ≠ r }, (srt (((Srd.all a).filter fun h => decide (h.2 < q.1.up)).map (·.1)))) else some ({ a with rd := a.rd.map fun y => if y.id = r then { y with nx := y.nx + 1 } else y }, [])) by unfold Srd.step; simp only []; rw [hq]]
  exact r_reaT hc (by rw [List.getElem?_eq_getElem hj, q2]) hid fun y hy => by
   obtain ⟨i, hi, rfl⟩ := List.mem_take_iff_getElem.1 hy
   have := q3 i (by omega)
   simpa using this
end
theorem rfL_sm {x : Sx} {a : Ab} : ∀ e ∈ rfL x a, e.Simple := by
 intro e he
 unfold rfL at he
 simp only [List.mem_cons, List.mem_append, ros, List.mem_map] at he
 rcases he with rfl | rfl | rfl | ⟨_, _, rfl⟩ | ⟨_, _, rfl⟩ | ⟨_, _, rfl⟩ <;> exact ro_sm
theorem take_sm {x : Sx} {a : Ab} {v : Value} {i n m : Nat} {xs ys zs us : List Value} : ∀ e ∈ ro tHd 11 v n xs :: ro tHs 1 x.sv a.k ys :: ro tIn 1 x.rv 8 zs :: ro tRd 5 x.dv m us :: (ros tHd 11 ((rwS a x.ls).eraseIdx i) ++ (ros tIn 1 (rwO x.rs) ++ ros tFt 10 (rwG a x.rs))), e.Simple := by
 intro e he
 simp only [List.mem_cons, List.mem_append, ros, List.mem_map] at he
 rcases he with rfl | rfl | rfl | rfl | ⟨_, _, rfl⟩ | ⟨_, _, rfl⟩ | ⟨_, _, rfl⟩ <;> exact ro_sm
section
variable {P : Program} {S : List Nat} {w0 w : World} {L : List Et} {f : FuncId} {args : Array Value} {pan : List PanicEntry → World → Prop} {K : Value → World → Prop}
theorem clL {α : Type} {T : α → Value} {Q : α → Prop} {L' : α → List Et} (h : Hp S w0 w L) (hn : Enters P f) (hc : Calls P f args w (Ret fun r w' => ∃ x, r = T x ∧ Q x ∧ Hp [] w w' (L' x))) (hs : ∀ x, ∀ e ∈ L' x, e.Simple) (hk : ∀ x w1, Q x → Hp S w0 w1 (L' x ++ L) → K (T x) w1) : Cl P f args w pan K :=
 Cl_i hn hc fun r w' ⟨x, e, q, h'⟩ => by subst e; exact hk x w' q (Hp.call (Lc := []) h h' (hs x))
end
theorem Dv_not {P : Program} {w : World} {wi b c : Bool} {KP : Value → Prop} (e : (!b) = c) (hk : KP (.bool c)) : Dv P wi (Op.unary .not (.bool b)) w KP := by subst e; cases wi <;> ((try simp -dsimp [go_sem]); repeat (simp -dsimp (disch := omega) only [gL, gI]; try simp -dsimp [go_sem])) <;> exact hk
theorem r_Copy2 {w0 : World} {x : Sx} {a : Ab} (hR : ShR w0 x a) (hO : Srd.Ok a) : Calls Tryz.prog 51 #[vSh x a] w0 (Ret fun r w' => ∃ x' : Sx, r = vSh x' a ∧ (x'.rs.map (·.1) = a.rd ∧ x'.ls.length = a.k) ∧ Hp [] w0 w' (rfL x' a)) :=
 (r_Copy hR hO).mono fun e w h => by
  obtain ⟨r, he, x', e1, e2, e3, e4⟩ := h
  exact ⟨r, he, x', e1, ⟨e2, e3⟩, e4⟩
section
variable {w0 : World} {x : Sx} {a : Ab} (hR : ShR w0 x a) (hO : Srd.Ok a)
include hR hO
set_option maxHeartbeats 16000000 in
theorem r_DoM {o : Option (Ab × List Ft)} {k s t m : Int} (hk : 2 ≤ k ∧ k ≤ 6) (ho : ∀ p, o = some p → p.2 = []) (hf : ∀ w, Calls Tryz.prog 50 #[vX k f0 s t m 0] w (Ret fun q w' => Ext w w' ∧ q = .bool true))
 (hr : ∀ (S : List Nat) (w : World) (x1 : Sx), Rin S w x1 a → Calls Tryz.prog 56 #[vSh x1 a, vX k f0 s t m 0] w (Ret (MvAns S w x1 a o))) : Calls Tryz.prog 23 #[vSh x a, vX k f0 s t m 0] w0 (Ret (DoAns w0 o)) := by
 have hal := hR.all9
 apply e_ref37_Do
 unfold s_ref37_Do
 have h := Hp.init [] w0
 refine bxA h fun g1 w h => ?_
 refine bxA h fun g2 w h => ?_
 refine alS h fun g3 w h => ?_
 refine ldA h 2 rfl rfl ?_
 refine cl1 h n_ref37_Valid (r_Valid (hR.ext h.ext) hO) fun w h => ?_
 refine Un_T (Gd_F (ldA h 1 rfl rfl ?_))
 refine Gd_F (cl1 h n_ref37_formed (hf _) fun w h => ?_)
 refine Gd_F (Un_T (Pick_F (If_F (ldA h 2 rfl rfl ?_))))
 refine clL h n_ref37_Copy (r_Copy2 (hR.ext h.ext) hO) (fun _ => rfL_sm) fun x1 w hx1 h => ?_
 have h := Hp.perm h (List.perm_append_comm (l₂ := [_, _, _]))
 obtain ⟨L1, hL1⟩ : ∃ L1, L1 = rfL x1 a := ⟨_, rfl⟩
 rw [← hL1] at h
 have hone1 : ((cS x1 a).all fun x => x.oneCell') = true := by
  rw [hL1] at h
  exact (rfL_shR (h.drop 3) hO hx1.1).all9
 refine stA h 2 rfl rfl hone1 rfl fun w h => ?_
 dsimp only [List.set] at h
 refine Jn2.mk fun K hK => ?_
 refine faS (ld1 h 1 rfl rfl (Bn_eqF (by omega) (If_F (Jn1.mk fun K2 hK2 => ?_))))
 refine Bn_eqF (by omega) (If_F (Bn_eqF (by omega) (hK2 _ _ ?_)))
 refine If_F (ldA h 2 rfl rfl ?_)
 refine ldA h 1 rfl rfl ?_
 have h := Hp.perm h (List.perm_append_comm (l₁ := [_, _, _]))
 rw [hL1] at h
 have hcall := hr _ w x1 ⟨Hp.base h rfL_sm, hO, hx1.1, hx1.2⟩
 cases o with
 | none =>
  refine Cl_i n_ref37_moving hcall fun q w' hq => ?_
  obtain ⟨rfl, hx⟩ := hq
  have h := h.x hx
  have h := Hp.perm h (List.perm_append_comm (l₂ := [_, _, _]))
  refine Ex2 (stA h 2 rfl rfl hone1 rfl fun w h => ?_)
  try dsimp only [List.cons_append, List.nil_append, List.set] at h
  refine hK _ _ _ ?_
  refine Un_F (If_T (bdS PC.nil (by rfl) ?_))
  refine stA h 0 rfl rfl rfl rfl fun w h => ?_
  refine rcA h 0 rfl rfl ?_
  dsimp only [List.set] at h
  exact Ret.mk ⟨h.ext, rfl⟩
 | some p =>
  obtain ⟨a', l'⟩ := p
  have hl' : l' = [] := ho _ rfl
  subst hl'
  refine Cl_i n_ref37_moving hcall fun q w' hq => ?_
  obtain ⟨x', rfl, h'⟩ := hq
  have h := Hp.call h h' (by intro e he; rw [List.mem_singleton] at he; subst he; exact shE_sm)
  have h := Hp.perm h (List.perm_append_comm (l₁ := [_]) (l₂ := [_, _, _]))
  have hal' : ((cS x' a').all fun x => x.oneCell') = true := (h.get (i := 3) rfl : _ ∧ _).1.all9
  refine Ex2 (stA h 2 rfl rfl hal' rfl fun w h => ?_)
  try dsimp only [List.cons_append, List.nil_append, List.set] at h
  refine hK _ _ _ ?_
  refine Un_T (If_F (ldA h 2 rfl rfl ?_))
  refine stA h 0 rfl rfl hal' rfl fun w h => ?_
  try dsimp only [List.cons_append, List.nil_append, List.set] at h
  refine rcA h 0 rfl rfl ?_
  exact Ret.mk ⟨x', _, rfl, h.drop 3⟩
set_option maxHeartbeats 16000000 in
theorem r_DoR {o : Option (Ab × List Ft)} {k r : Int} (hk : k = 7 ∨ k = 8) (hf : ∀ w, Calls Tryz.prog 50 #[vX k f0 0 0 0 r] w (Ret fun q w' => Ext w w' ∧ q = .bool true))
 (hr : ∀ (S : List Nat) (w : World) (x1 : Sx), Rin S w x1 a → Calls Tryz.prog 55 #[vSh x1 a, vX k f0 0 0 0 r] w (Ret (RdAns S w x1 a o))) : Calls Tryz.prog 23 #[vSh x a, vX k f0 0 0 0 r] w0 (Ret (DoAns w0 o)) := by
 have hal := hR.all9
 apply e_ref37_Do
 unfold s_ref37_Do
 have h := Hp.init [] w0
 refine bxA h fun g1 w h => ?_
 refine bxA h fun g2 w h => ?_
 refine alS h fun g3 w h => ?_
 refine ldA h 2 rfl rfl ?_
 refine cl1 h n_ref37_Valid (r_Valid (hR.ext h.ext) hO) fun w h => ?_
 refine Un_T (Gd_F (ldA h 1 rfl rfl ?_))
 refine Gd_F (cl1 h n_ref37_formed (hf _) fun w h => ?_)
 refine Gd_F (Un_T (Pick_F (If_F (ldA h 2 rfl rfl ?_))))
 refine clL h n_ref37_Copy (r_Copy2 (hR.ext h.ext) hO) (fun _ => rfL_sm) fun x1 w hx1 h => ?_
 have h := Hp.perm h (List.perm_append_comm (l₂ := [_, _, _]))
 obtain ⟨L1, hL1⟩ : ∃ L1, L1 = rfL x1 a := ⟨_, rfl⟩
 rw [← hL1] at h
 have hone1 : ((cS x1 a).all fun x => x.oneCell') = true := by
  rw [hL1] at h
  exact (rfL_shR (h.drop 3) hO hx1.1).all9
 refine stA h 2 rfl rfl hone1 rfl fun w h => ?_
 dsimp only [List.set] at h
 refine Jn2.mk fun K hK => ?_
 refine faS (ld1 h 1 rfl rfl (Bn_eqF (by omega) (If_F ?_)))
 refine Jn1.lfQ (fun v W => v = .bool true ∧ W = w) (fun K2 hK2 => ?_) (fun v W hvW => ?_)
 ·rcases hk with rfl | rfl
  ·refine Bn_eqT (by omega) (If_T ?_)
   exact hK2 _ _ ⟨rfl, rfl⟩
  ·refine Bn_eqF (by omega) (If_F (Bn_eqT (by omega) ?_))
   exact hK2 _ _ ⟨rfl, rfl⟩
 obtain ⟨hv1, hW1⟩ := hvW
 subst hv1
 rw [← hW1] at h
 clear hW1
 refine If_T (ldA h 2 rfl rfl ?_)
 refine ldA h 1 rfl rfl ?_
 have h := Hp.perm h (List.perm_append_comm (l₁ := [_, _, _]))
 rw [hL1] at h
 have hcall := hr _ W x1 ⟨Hp.base h rfL_sm, hO, hx1.1, hx1.2⟩
 cases o with
 | none =>
  refine Cl_i n_ref37_reading hcall fun q w' hq => ?_
  obtain ⟨rfl, hx⟩ := hq
  have h := h.x hx
  have h := Hp.perm h (List.perm_append_comm (l₂ := [_, _, _]))
  refine Ex3 (stA h 2 rfl rfl hone1 rfl fun w h => ?_)
  try dsimp only [List.cons_append, List.nil_append, List.set] at h
  refine hK _ _ _ ?_
  refine Un_F (If_T (bdS PC.nil (by rfl) ?_))
  refine stA h 0 rfl rfl rfl rfl fun w h => ?_
  refine rcA h 0 rfl rfl ?_
  dsimp only [List.set] at h
  exact Ret.mk ⟨h.ext, rfl⟩
 | some p =>
  obtain ⟨a', l'⟩ := p
  refine Cl_i n_ref37_reading hcall fun q w' hq => ?_
  obtain ⟨x', fv, rfl, h'⟩ := hq
  have h := Hp.call h h' (by intro e he; rw [List.mem_singleton] at he; subst he; exact shE_sm)
  have h := Hp.perm h (List.perm_append_comm (l₁ := [_]) (l₂ := [_, _, _]))
  have hal' : ((cS x' a').all fun x => x.oneCell') = true := (h.get (i := 3) rfl : _ ∧ _).1.all9
  refine Ex3 (stA h 2 rfl rfl hal' rfl fun w h => ?_)
  try dsimp only [List.cons_append, List.nil_append, List.set] at h
  refine hK _ _ _ ?_
  refine Un_T (If_F (ldA h 2 rfl rfl ?_))
  refine stA h 0 rfl rfl hal' rfl fun w h => ?_
  try dsimp only [List.cons_append, List.nil_append, List.set] at h
  refine rcA h 0 rfl rfl ?_
  exact Ret.mk ⟨x', fv, rfl, h.drop 3⟩
set_option maxHeartbeats 16000000 in
theorem r_DoP {f : Ft} (hv : VF f) : Calls Tryz.prog 23 #[vSh x a, vX 1 f 0 0 0 0] w0 (Ret (DoAns w0 (Srd.step a (.put f)))) := by
 have hal := hR.all9
 have hk := hO.k
 have hrl := hO.ro.len
 have hs7 := Srd.slot_bd hv
 have hat := Srd.roAt_bd hO.ro hs7
 obtain ⟨z, hz⟩ : ∃ z : Int, z = Srd.roAt a.ro (f.tr % 8) := ⟨_, rfl⟩
 have hat : 0 ≤ z ∧ z < a.k := by rw [hz]; exact hat
 have sr : Seg (a.ro.flatMap fI) ((f.tr % 8).toNat * 1) (fI z) := by rw [hz]; exact ro_seg hO hs7 hrl
 have hzz : ((z.toNat : Nat) : Int) = z := by omega
 have hsl : (Srd.store a z).length ≤ 400 := Nat.le_trans (Srd.store_len a z) hO.nA
 have hnA := hO.nA
 obtain ⟨b, hb, hbn⟩ : ∃ b : Bool, (b = true ↔ (∃ y ∈ Srd.store a z, sam y.1 f)) ∧ (b = true ↔ (∃ y ∈ a.A, sam y f)) := by
  have hiff : (∃ y ∈ Srd.store a z, sam y.1 f) ↔ ∃ y ∈ a.A, sam y f := by
   constructor
   ·rintro ⟨y, hy, hs⟩
    exact ⟨y.1, (Srd.all_mem (Srd.store_mem hy).1).1, hs⟩
   ·rintro ⟨y, hy, hs⟩
    obtain ⟨n, hn, rfl⟩ := List.getElem_of_mem hy
    have hm : (a.A[n], (n : Int)) ∈ Srd.all a := List.mem_of_getElem? (Srd.all_get (List.getElem?_eq_getElem hn))
    have ho := Srd.own_owner hm
    have hsl : Srd.slot a.A[n] = f.tr % 8 := by
     show a.A[n].tr % 8 = f.tr % 8
     rw [hs.1]
    rw [hsl, ← hz] at ho
    exact ⟨_, ho, hs⟩
  by_cases he : ∃ y ∈ a.A, sam y f
  ·exact ⟨true, ⟨fun _ => hiff.2 he, fun _ => rfl⟩, ⟨fun _ => he, fun _ => rfl⟩⟩
  ·exact ⟨false, ⟨fun hc => absurd hc (by decide), fun hc => absurd (hiff.1 hc) he⟩, ⟨fun hc => absurd hc (by decide), fun hc => absurd hc he⟩⟩
 have hno : ¬ (a.A.length < 400 ∧ ∀ y ∈ a.A, ¬ sam y f) → ∀ w', Ext w0 w' → Ret (DoAns w0 (Srd.step a (.put f))) (.returned (.tuple #[vSh0, .slice none 0 0, .int .i64 370])) w' := fun hn w' hx => by
  rw [show Srd.step a (.put f) = none from if_neg fun hc => hn hc.2]
  exact Ret.mk ⟨hx, rfl⟩
 have hyes : (a.A.length < 400 ∧ ∀ y ∈ a.A, ¬ sam y f) → ∀ w' (x' : Sx), Hp [] w0 w' [shE x' { a with A := a.A ++ [f] } (.slice none 0 0) []] → Ret (DoAns w0 (Srd.step a (.put f))) (.returned (.tuple #[vSh x' { a with A := a.A ++ [f] }, .slice none 0 0, .int .i64 0])) w' := fun hn w' x' hx => by
  rw [show Srd.step a (.put f) = some ({ a with A := a.A ++ [f] }, []) from if_pos ⟨hv, hn⟩]
  exact Ret.mk ⟨x', _, rfl, hx⟩
 obtain ⟨nb, hnb0⟩ : ∃ nb : Bool, (!b) = nb := ⟨_, rfl⟩
 obtain ⟨R, hRR⟩ : ∃ R, R = Ret (DoAns w0 (Srd.step a (.put f))) := ⟨_, rfl⟩
 rw [← hRR] at hno hyes ⊢
 apply e_ref37_Do
 unfold s_ref37_Do
 have h := Hp.init [] w0
 refine bxA h fun g1 w h => ?_
 refine bxA h fun g2 w h => ?_
 refine alS h fun g3 w h => ?_
 refine ldA h 2 rfl rfl ?_
 refine cl1 h n_ref37_Valid (r_Valid (hR.ext h.ext) hO) fun w h => ?_
 refine Un_T (Gd_F (ldA h 1 rfl rfl ?_))
 refine Gd_F (cl1 h n_ref37_formed r_formed1 fun w h => ?_)
 refine Gd_F (Un_T (Pick_F (If_F (ldA h 2 rfl rfl ?_))))
 refine Cl_i n_ref37_Copy (r_Copy2 (hR.ext h.ext) hO) fun q w hq => ?_
 obtain ⟨x1, rfl, hx1, h'⟩ := hq
 refine Exists.elim (p := fun v => x1.ls[z.toNat]? = some v) ⟨_, List.getElem?_eq_getElem (by rw [hx1.2]; omega)⟩ fun v hvx => ?_
 have sv : Seg (x1.ls.flatMap fV) (z.toNat * 1) (fV v) := flat_seg (f := fV) (fun _ => rfl) hvx
 have hone1 : ((cS x1 a).all fun x => x.oneCell') = true := (rfL_shR h' hO hx1.1).all9
 have hone2 := (rfL_shR h' hO hx1.1).one
 have h := Hp.call (Lc := []) h (rfL_take h' hvx) take_sm
 have h := Hp.perm h (List.perm_append_comm (l₂ := [_, _, _]))
 rw [hzz] at h
 refine stA h 2 rfl rfl hone1 rfl fun w h => ?_
 try dsimp only [List.cons_append, List.nil_append, List.set] at h
 refine Jn2.mk fun K hK => ?_
 refine faS (ld1 h 1 rfl rfl (Bn_eqT (by omega) (If_T (faS (ldA h 1 rfl rfl ?_)))))
 refine cl1 h n_ref14_ValidFact (r_VF hv) fun w h => ?_
 by_cases hn : a.A.length < 400
 rotate_left
 ·refine Gd_T (faS (Gd_T (ld1 h 2 rfl rfl (Gd_T (Bn_ltF (by omega) (Pick_T (If_F (hK _ _ _ ?_))))))))
  refine Un_F (If_T (bdS PC.nil (by rfl) ?_))
  refine stA h 0 rfl rfl rfl rfl fun w h => ?_
  refine rcA h 0 rfl rfl ?_
  dsimp only [List.set] at h
  exact hno (fun hc => hn hc.1) _ h.ext
 refine Gd_T (faS (Gd_T (ld1 h 2 rfl rfl (Gd_T (Bn_ltT (by omega) (Pick_T (If_T ?_)))))))
 replace h := h.dr
 refine dfS (dl1 h 2 rfl rfl (dfS (dlA h 1 rfl rfl ?_)))
 refine cl1 h n_ref37_of (r_of hv.1) fun w h => ?_
 refine kl1 h 2 rfl rfl (diRz h 5 rfl (by omega) (by omega) fun zg zk zv => ?_)
 refine dr0 h 5 rfl ‹_› sr (by rfl) ?_
 replace h := h.dr
 refine dfS (dl1 h 2 rfl rfl (diRz h 4 rfl (by omega) (by omega) fun zg zk zv => ?_))
 refine dr0 h 4 rfl ‹_› sv (by rfl) ?_
 refine dfS (dlA h 1 rfl rfl ?_)
 refine cl1 h n_ref37_has (r_has (qZ 3 h rfl) (by omega) hb) fun w h => ?_
 skip
 refine Dv_not hnb0 ?_
 replace h := h.dr
 refine dfS (dl1 h 2 rfl rfl (dfS (dl1 h 2 rfl rfl (diRz h 4 rfl (by omega) (by omega) fun zg zk zv => ?_))))
 refine dr0 h 4 rfl ‹_› sv (by rfl) ?_
 refine dfS (dlA h 1 rfl rfl ?_)
 refine dfS (dl1 h 2 rfl rfl (dbS (PC.cons (by rfl) (PC.cons (by rfl) PC.nil)) (by rfl) ?_))
 refine bs1A h (by rfl) (by decide) (by rfl) (by decide) fun v1 w h => ?_
 refine kl1 h 3 rfl rfl (kl1 h 3 rfl rfl (kr0 h 5 rfl ‹_› sv (by rfl) ?_))
 refine apR (by rfl) (by decide) h 4 rfl (qZ 0 h rfl) (by first | rfl | assumption) (by omega) fun v2 w h => ?_
 refine kl1 h 3 rfl rfl (diRz h 5 rfl (by omega) (by omega) fun zg zk zv => ?_)
 dsimp only [List.set] at h
 have hc2 := slc_c1 (qZ 4 h rfl)
 refine stR1 h 5 rfl zv hc2.1 hc2.2 (by omega) fun w h => ?_
 dsimp only [List.set] at h
 rw [show List.set (x1.ls.flatMap fV) (0 + z.toNat * 1) v2 = (x1.ls.set z.toNat v2).flatMap fV from set_fV] at h
 refine faS (ld1 h 3 rfl rfl (Bn_ad (by omega) (by omega) (faS (st1 h 3 rfl rfl rfl rfl fun w h => ?_))))
 dsimp only [List.set] at h
 refine hK _ _ _ ?_
 cases nb with
 | false =>
  have hbt : b = true := by cases b with | true => rfl | false => exact absurd hnb0 (by decide)
  refine Un_F (If_T (bdS PC.nil (by rfl) ?_))
  refine stA h 1 rfl rfl rfl rfl fun w h => ?_
  refine rcA h 1 rfl rfl ?_
  dsimp only [List.set] at h
  exact hno (fun hc => Exists.elim (hbn.1 hbt) fun y hy => hc.2 y hy.1 hy.2) _ h.ext
 | true =>
  have hbf : b = false := by cases b with | false => rfl | true => exact absurd hnb0 (by decide)
  have hnb : ∀ y ∈ a.A, ¬ sam y f := fun y hy hs => absurd (hbn.2 ⟨y, hy, hs⟩) (by rw [hbf]; decide)
  have el : ((a.A ++ [f]).length : Int) = (a.A.length : Int) + 1 := by rw [List.length_append]; rfl
  rw [← el] at h
  refine Un_T (If_F (ldA h 3 rfl rfl ?_))
  refine stA h 1 rfl rfl (by simp only [List.all_cons, List.all_nil, hone2.1, hone2.2.1, hone2.2.2.1]; rfl) rfl fun w h => ?_
  dsimp only [List.set] at h
  refine rcA h 1 rfl rfl ?_
  have h := Hp.perm (h.drop 4) (List.perm_middle (l₁ := [_, _, _])).symm
  rw [← hrl] at h
  have hst := Srd.store_put hO f
  have hzf : ∀ i : Int, Srd.roAt a.ro (Srd.slot f) = i ↔ z = i := fun i => by rw [hz]; exact Iff.rfl
  refine hyes ⟨hn, hnb⟩ _ { x1 with ls := x1.ls.set z.toNat v2 } (fin_rowsR (x := { x1 with ls := x1.ls.set z.toNat v2 }) (a := { a with A := a.A ++ [f] }) rfl h (fun i v hv => ?_) hx1.1 (has_O fun e he => by simp [he]) (fun r hr => ?_) (.inl ⟨rfl, rfl⟩))
  ·have hv : (x1.ls.set z.toNat v2)[i]? = some v := hv
   rw [hst i]
   by_cases hi : i = z.toNat
   ·subst hi
    rw [List.getElem?_set_self (by rw [hx1.2]; omega)] at hv
    cases hv
    rw [hzz, if_pos ((hzf z).2 rfl)]
    have e1 : (Srd.store a z ++ [(f, (a.A.length : Int))]).flatMap fH = (Srd.store a z).flatMap fH ++ fH (f, (a.A.length : Int)) := by rw [List.flatMap_append]; simp
    rw [e1, List.length_append]
    exact Has.ro (t := tHd) (by simp)
   ·rw [List.getElem?_set_ne (by omega)] at hv
    rw [if_neg (fun hc => by have := (hzf i).1 hc; omega), List.append_nil]
    exact has_E (us := x1.ls) (k := z.toNat) (fun e he => by simp [he]) hi hv
  ·have hra : r.1 ∈ a.rd := by rw [← hx1.1]; exact List.mem_map.2 ⟨r, hr, rfl⟩
   rw [got_put (hO.rd _ hra).up]
   exact has_G (a := a) (rs := x1.rs) (fun e he => by simp [he]) r hr
theorem r_Do {c : Cmd} (hc : CmdOk c) : Calls Tryz.prog 23 #[vSh x a, vCmd c] w0 (Ret (DoAns w0 (Srd.step a c))) := by
 have hnil : ∀ p, Srd.step a c = some p → 2 ≤ kC c ∧ kC c ≤ 6 → p.2 = [] := fun p hp hk => by
  cases c with
  | put f => exact absurd hk.1 (by show ¬ (2 : Int) ≤ 1; omega)
  | beg s t => simp only [Srd.step] at hp; split at hp <;> cases hp; rfl
  | cop m => simp only [Srd.step] at hp; split at hp <;> cases hp; rfl
  | sw => simp only [Srd.step] at hp; split at hp <;> cases hp; rfl
  | dro m => simp only [Srd.step] at hp; split at hp <;> cases hp; rfl
  | cra => simp only [Srd.step] at hp; split at hp <;> first | cases hp | (split at hp <;> cases hp <;> rfl)
  | opn r => exact absurd hk.2 (by show ¬ (7 : Int) ≤ 6; omega)
  | rea r => exact absurd hk.2 (by show ¬ (8 : Int) ≤ 6; omega)
 have hf : ∀ w, Calls Tryz.prog 50 #[vCmd c] w (Ret fun q w' => Ext w w' ∧ q = .bool true) := fun w => r_formed
 cases c with
 | put f => exact r_DoP hR hO hc
 | opn r => exact r_DoR hR hO (.inl rfl) hf fun S w x1 h => r_opn h
 | rea r => exact r_DoR hR hO (.inr rfl) hf fun S w x1 h => r_rea h
 | beg s t => exact r_DoM hR hO (by omega) (fun p hp => hnil p hp (by show (2 : Int) ≤ 2 ∧ (2 : Int) ≤ 6; omega)) hf fun S w x1 h => r_moving h hc (by show (2 : Int) ≤ 2 ∧ (2 : Int) ≤ 6; omega)
 | cop m => exact r_DoM hR hO (by omega) (fun p hp => hnil p hp (by show (2 : Int) ≤ 3 ∧ (3 : Int) ≤ 6; omega)) hf fun S w x1 h => r_moving h hc (by show (2 : Int) ≤ 3 ∧ (3 : Int) ≤ 6; omega)
 | sw => exact r_DoM hR hO (by omega) (fun p hp => hnil p hp (by show (2 : Int) ≤ 4 ∧ (4 : Int) ≤ 6; omega)) hf fun S w x1 h => r_moving h hc (by show (2 : Int) ≤ 4 ∧ (4 : Int) ≤ 6; omega)
 | dro m => exact r_DoM hR hO (by omega) (fun p hp => hnil p hp (by show (2 : Int) ≤ 5 ∧ (5 : Int) ≤ 6; omega)) hf fun S w x1 h => r_moving h hc (by show (2 : Int) ≤ 5 ∧ (5 : Int) ≤ 6; omega)
 | cra => exact r_DoM hR hO (by omega) (fun p hp => hnil p hp (by show (2 : Int) ≤ 6 ∧ (6 : Int) ≤ 6; omega)) hf fun S w x1 h => r_moving h hc (by show (2 : Int) ≤ 6 ∧ (6 : Int) ≤ 6; omega)
end
section
variable {S : List Nat} {w0 w : World} {L : List Et} {x : Sx} {a : Ab} {c : Cmd} {fv : Value} {l : List Ft} {pan : List PanicEntry → World → Prop} {K : Value → World → Prop}
theorem rcl_DoT {p : Ab × List Ft} (h : Hp S w0 w (shE x a fv l :: L)) (hO : Srd.Ok a) (hc : CmdOk c) (hs : Srd.step a c = some p)
 (hk : ∀ x' fv' w1, Hp S w0 w1 (shE x' p.1 fv' p.2 :: shE x a fv l :: L) → K (.tuple #[vSh x' p.1, fv', .int .i64 0]) w1) : Cl Tryz.prog 23 #[vSh x a, vCmd c] w pan K := by
 have hd := r_Do (h.get (i := 0) rfl : _ ∧ _).1 hO hc
 rw [hs] at hd
 refine Cl_i n_ref37_Do hd ?_
 rintro _ w1 ⟨x', fv', rfl, h'⟩
 exact hk x' fv' w1 (h.cat1 h' shE_sm)
theorem rcl_DoN (h : Hp S w0 w (shE x a fv l :: L)) (hO : Srd.Ok a) (hc : CmdOk c) (hs : Srd.step a c = none)
 (hk : ∀ w1, Hp S w0 w1 (shE x a fv l :: L) → K (.tuple #[vSh0, .slice none 0 0, .int .i64 370]) w1) : Cl Tryz.prog 23 #[vSh x a, vCmd c] w pan K := by
 have hd := r_Do (h.get (i := 0) rfl : _ ∧ _).1 hO hc
 rw [hs] at hd
 refine Cl_i n_ref37_Do hd ?_
 rintro _ w1 ⟨e, rfl⟩
 exact hk w1 (h.x e)
end
section
variable {w0 : World} {v : Value} {n : Int} {xs : List I4} (hx : SlC w0 4 v xs.length (xs.flatMap fQ)) (hq : I64s xs) (hn : I64 n)
include hx hq hn
set_option maxHeartbeats 16000000 in
theorem r_Played : Calls Tryz.prog 12 #[.int .i64 n, v] w0 (Ret fun r w' => ∃ (x : Sx) (a : Ab) (fv : Value) (l : List Ft), r = vSh x a ∧ Srd.Ok a ∧ Srd.Ids a ∧ Hp [] w0 w' [shE x a fv l]) := by
 have p3 := pk_bd (c := n) (n := 3) (by omega)
 have cc2 := fun {W : World} (_ : Ext w0 W) => c_rpick (w0 := W) (c := n) (n := 3) hn (by omega)
 obtain ⟨k, hk⟩ : ∃ k : Nat, (k : Int) = 2 + pk n 3 := ⟨(2 + pk n 3).toNat, by omega⟩
 apply e_ref37_Played
 unfold s_ref37_Played
 have h := Hp.init [] w0
 refine alS h fun g1 w h => ?_
 refine cl1 h n_ref37_pick (cc2 h.ext) fun w h => ?_
 refine Bn_ad (by omega) (by omega) ?_
 have hN := r_New (w0 := w) (k := k) (by omega)
 rw [hk] at hN
 refine Cl_i n_ref37_New hN ?_
 rintro _ w1 ⟨x0, rfl, h'⟩
 replace h := h.cat1 h' shE_sm
 have hal := (h.get (i := 0) rfl : _ ∧ _).1.all9
 refine Ex2 (alS h fun g2 w h => ?_)
 refine stA h 0 rfl rfl hal rfl fun w h => ?_
 dsimp only [List.set] at h
 have h : Hp [] w0 w [bx g2 tSh (cS x0 (Srd.new k)), shE x0 (Srd.new k) (.slice none 0 0) [], bx g1 tSh zSh] := h
 have hI : ∃ (j : Nat) (x : Sx) (a : Ab) (fv : Value) (l : List Ft), Value.int IntKind.i64 0 = .int .i64 (j : Int) ∧ j ≤ xs.length ∧ j ≤ 40 ∧ Srd.Ok a ∧ Srd.Ids a ∧ Hp [] w0 w [bx g2 tSh (cS x a), shE x a fv l, bx g1 tSh zSh] :=
  ⟨0, x0, Srd.new k, .slice none 0 0, [], rfl, by omega, by omega, Srd.ok_new (by omega), Srd.ids_new k, h⟩
 clear h h' hal
 refine Lp1.mk (fun i W => ∃ (j : Nat) (x : Sx) (a : Ab) (fv : Value) (l : List Ft), i = .int .i64 (j : Int) ∧ j ≤ xs.length ∧ j ≤ 40 ∧ Srd.Ok a ∧ Srd.Ids a ∧ Hp [] w0 W [bx g2 tSh (cS x a), shE x a fv l, bx g1 tSh zSh])
  (fun i _ => match i with | .int _ i' => xs.length + 1 - i'.toNat | _ => 0) hI ?_
 clear hI
 rintro _ W ⟨j, x, a, fv, l, rfl, hj, hj40, hO, hI, h⟩
 by_cases hjl : j < xs.length ∧ j < 40
 ·have hj1 := hjl.1
  have hj2 := hjl.2
  refine Exists.elim (p := fun q => xs[j]? = some q) ⟨_, List.getElem?_eq_getElem hj1⟩ fun q hqj => ?_
  have sq : Seg (xs.flatMap fQ) (j * 4) (fQ q) := flat_seg (f := fQ) (fun _ => rfl) hqj
  have hqi := hq q (List.mem_of_getElem? hqj)
  refine Exists.elim (⟨_, rfl⟩ : ∃ c, c = cmdOf a q.1 q.2.1 q.2.2.1 q.2.2.2) fun c hc => ?_
  have hcok : CmdOk c := by rw [hc]; exact cmdOf_ok
  have hcrd : RdOk c := by rw [hc]; exact cmdOf_rd hI
  have hcc : ∀ {w : World}, ShR w x a → Calls Tryz.prog 11 #[vSh x a, .agg #[.int .i64 q.1, .int .i64 q.2.1, .int .i64 q.2.2.1, .int .i64 q.2.2.2]] w (Ret fun r w' => Ext w w' ∧ r = vCmd c) := fun {w} hs => by
   rw [hc]; exact c_Command hs hO hqi.1 hqi.2.1 hqi.2.2.1 hqi.2.2.2
  have hd : (∃ p, Srd.step a c = some p) ∨ Srd.step a c = none := by
   cases Srd.step a c with
   | none => exact .inr rfl
   | some p => exact .inl ⟨p, rfl⟩
  refine leS (hx.hp h) ?_
  refine Bn_ltT (by omega) (Gd_T (Gd_T (Bn_ltT (by omega) (Pick_T (Gd_T (Gd_T (Bn_eqT (by omega) (Pick_T (If_T ?_)))))))))
  refine Or.elim hd (fun hs => Exists.elim hs fun p hs => ?_) (fun hs => ?_)
  ·have hO' : Srd.Ok p.1 := Srd.step_ok (l := p.2) hO hs
   have hI' : Srd.Ids p.1 := Srd.ids_step (l := p.2) hI (fun r hr => by
    cases c with
    | opn q => cases hr; exact hcrd (.inl rfl)
    | _ => cases hr) hs
   refine Jn2.lfD (ι := Sx × Value) (.int .i64 0) (fun g i w => Hp [] w0 w (bx g tSh (cS i.1 p.1) :: shE i.1 p.1 i.2 p.2 :: bx g2 tSh (cS x a) :: shE x a fv l :: [bx g1 tSh zSh])) (fun K hK => ?_) (fun g i w h => ?_)
   ·replace h := h.dr
    refine dlA h 0 rfl rfl ?_
    refine dlA h 0 rfl rfl ?_
    refine diH h ‹_› (by omega) fun zb zo zk zv zc => ?_
    refine dhA h ‹_› ‹_› (by rfl) ?_
    refine ⟨?_, ?_⟩
    ·refine cl1 h n_ref37_Command (hcc (h.get (i := 1) rfl : _ ∧ _).1) fun w h => ?_
     refine klA h 0 rfl rfl ?_
     refine ⟨?_, ?_⟩
     ·have h := Hp.perm h (List.Perm.swap _ _ _)
      refine rcl_DoT h hO hcok hs fun x' fv' w h => ?_
      have h := Hp.perm h (List.Perm.cons _ (List.Perm.swap _ _ _))
      have hal := (h.get (i := 0) rfl : _ ∧ _).1.all9
      refine ExP3x (alS h fun g3 w h => ?_)
      refine klA h 2 rfl rfl ?_
      refine klA h 2 rfl rfl ?_
      refine khA h ‹_› ‹_› (by rfl) ?_
      refine stA h 0 rfl rfl hal rfl fun w h => ?_
      dsimp only [List.set] at h
      exact hK _ (x', fv') _ h
     ·refine alS h fun g3 w h => ?_
      refine klA h 1 rfl rfl ?_
      refine klA h 1 rfl rfl ?_
      refine khA h ‹_› ‹_› (by rfl) ?_
      have h := Hp.perm h (List.perm_middle (l₁ := [_, _]))
      refine rcl_DoT h hO hcok hs fun x' fv' w h => ?_
      have h := Hp.perm h (List.Perm.cons _ (List.perm_middle (l₁ := [_, _])).symm)
      have hal := (h.get (i := 0) rfl : _ ∧ _).1.all9
      refine ExP3x (stA h 1 rfl rfl hal rfl fun w h => ?_)
      dsimp only [List.set] at h
      exact hK _ (x', fv') _ (Hp.perm h (List.Perm.swap _ _ _))
    ·refine alS h fun g3 w h => ?_
     refine klA h 1 rfl rfl ?_
     refine klA h 1 rfl rfl ?_
     refine khA h ‹_› ‹_› (by rfl) ?_
     refine cl1 h n_ref37_Command (hcc (h.get (i := 2) rfl : _ ∧ _).1) fun w h => ?_
     refine klA h 1 rfl rfl ?_
     have h := Hp.perm h (List.perm_middle (l₁ := [_, _]))
     refine rcl_DoT h hO hcok hs fun x' fv' w h => ?_
     have h := Hp.perm h (List.Perm.cons _ (List.perm_middle (l₁ := [_, _])).symm)
     have hal := (h.get (i := 0) rfl : _ ∧ _).1.all9
     refine ExP3x (stA h 1 rfl rfl hal rfl fun w h => ?_)
     dsimp only [List.set] at h
     exact hK _ (x', fv') _ (Hp.perm h (List.Perm.swap _ _ _))
   have hal := (h.get (i := 1) rfl : _ ∧ _).1.all9
   refine Bn_eqT (by omega) (If_T (ldA h 0 rfl rfl ?_))
   refine stA h 2 rfl rfl hal rfl fun w h => ?_
   dsimp only [List.set] at h
   refine Bn_ad (by omega) (by omega) ?_
   exact ⟨⟨j + 1, i.1, p.1, i.2, p.2, rfl, by omega, by omega, hO', hI', h.pick [2, 1, 4] (by decide) rfl⟩, by show xs.length + 1 - ((j : Int) + 1).toNat < xs.length + 1 - (j : Int).toNat; omega⟩
  ·refine Jn2.lfD (ι := Unit) (.int .i64 370) (fun g _ w => Hp [] w0 w (bx g tSh zSh :: bx g2 tSh (cS x a) :: shE x a fv l :: [bx g1 tSh zSh])) (fun K hK => ?_) (fun g i w h => ?_)
   ·replace h := h.dr
    refine dlA h 0 rfl rfl ?_
    refine dlA h 0 rfl rfl ?_
    refine diH h ‹_› (by omega) fun zb zo zk zv zc => ?_
    refine dhA h ‹_› ‹_› (by rfl) ?_
    refine ⟨?_, ?_⟩
    ·refine cl1 h n_ref37_Command (hcc (h.get (i := 1) rfl : _ ∧ _).1) fun w h => ?_
     refine klA h 0 rfl rfl ?_
     refine ⟨?_, ?_⟩
     ·have h := Hp.perm h (List.Perm.swap _ _ _)
      refine rcl_DoN h hO hcok hs fun w h => ?_
      have h := Hp.perm h (List.Perm.swap _ _ _)
      refine ExP3x (alS h fun g3 w h => ?_)
      refine klA h 1 rfl rfl ?_
      refine klA h 1 rfl rfl ?_
      refine khA h ‹_› ‹_› (by rfl) ?_
      refine stA h 0 rfl rfl rfl rfl fun w h => ?_
      dsimp only [List.set] at h
      exact hK _ () _ h
     ·refine alS h fun g3 w h => ?_
      refine klA h 1 rfl rfl ?_
      refine klA h 1 rfl rfl ?_
      refine khA h ‹_› ‹_› (by rfl) ?_
      have h := Hp.perm h (List.perm_middle (l₁ := [_, _]))
      refine rcl_DoN h hO hcok hs fun w h => ?_
      have h := Hp.perm h (List.perm_middle (l₁ := [_, _])).symm
      refine ExP3x (stA h 0 rfl rfl rfl rfl fun w h => ?_)
      exact hK _ () _ h
    ·refine alS h fun g3 w h => ?_
     refine klA h 1 rfl rfl ?_
     refine klA h 1 rfl rfl ?_
     refine khA h ‹_› ‹_› (by rfl) ?_
     refine cl1 h n_ref37_Command (hcc (h.get (i := 2) rfl : _ ∧ _).1) fun w h => ?_
     refine klA h 1 rfl rfl ?_
     have h := Hp.perm h (List.perm_middle (l₁ := [_, _]))
     refine rcl_DoN h hO hcok hs fun w h => ?_
     have h := Hp.perm h (List.perm_middle (l₁ := [_, _])).symm
     refine ExP3x (stA h 0 rfl rfl rfl rfl fun w h => ?_)
     exact hK _ () _ h
   refine Bn_eqF (by omega) (If_F (Bn_ad (by omega) (by omega) ?_))
   exact ⟨⟨j + 1, x, a, fv, l, rfl, by omega, by omega, hO, hI, h.drop 1⟩, by show xs.length + 1 - ((j : Int) + 1).toNat < xs.length + 1 - (j : Int).toNat; omega⟩
 revert h; revert W; apply meet
 ·intro W lfT h
  by_cases hj1 : j < xs.length
  ·have hj2 : ¬ j < 40 := fun hc => hjl ⟨hj1, hc⟩
   refine leS (hx.hp h) ?_
   refine Bn_ltT (by omega) (Gd_T (Gd_T (Bn_ltF (by omega) (Pick_T (Gd_FT (Gd_FT (Pick_F (If_F (ldA h 0 rfl rfl ?_)))))))))
   exact lfT _ h
  ·refine leS (hx.hp h) ?_
   refine Bn_ltF (by omega) (Gd_FT (Gd_FT (Pick_F (Gd_FT (Gd_FT (Pick_F (If_F (ldA h 0 rfl rfl ?_))))))))
   exact lfT _ h
 intro W h
 have hal := (h.get (i := 1) rfl : _ ∧ _).1.all9
 skip
 refine stA h 2 rfl rfl hal rfl fun w h => ?_
 dsimp only [List.set] at h
 refine rcA h 2 rfl rfl ?_
 exact Ret.mk ⟨x, a, fv, l, rfl, hO, hI, h.pick [1] (by decide) rfl⟩
end
end Go.Proofs.YthdhnhghjecfkaaGreat
namespace Go.Proofs.YthdhnhghjecfkaaGreat
open Go Go.Eng Go.Proofs Go.RowKit
open Go.Srd (Ft VF Hd Mv mv0 Rd Ab Cmd got ltF sam srt plh ofS gotL delN cntL insR insN insS rdd cntP facts)
set_option maxRecDepth 100000
section
variable {S : List Nat} {w0 w : World} {L : List Et} {x : Sx} {a : Ab} {c : Cmd} {fv : Value} {l : List Ft} {pan : List PanicEntry → World → Prop} {K : Value → World → Prop}
theorem cl_Played {v : Value} {n : Int} {xs : List I4} (h : Hp S w0 w L) (hx : SlC w 4 v xs.length (xs.flatMap fQ)) (hq : I64s xs) (hn : I64 n)
 (hk : ∀ (x : Sx) (a : Ab) (fv : Value) (l : List Ft) w1, Srd.Ok a → Srd.Ids a → Hp S w0 w1 (shE x a fv l :: L) → K (vSh x a) w1) : Cl Tryz.prog 12 #[.int .i64 n, v] w pan K := by
 refine Cl_i n_ref37_Played (r_Played hx hq hn) ?_
 rintro _ w1 ⟨x, a, fv, l, rfl, hO, hI, h'⟩
 exact hk x a fv l w1 hO hI (h.cat1 h' shE_sm)
end
section
variable {w0 : World} {n : Int} {v : Value} {xs : List I4} {z1 z2 : I4} (hn : I64 n) (hx : SlC w0 4 v xs.length (xs.flatMap fQ)) (hq : I64s xs) (hz1 : I64 z1.1 ∧ I64 z1.2.1 ∧ I64 z1.2.2.1 ∧ I64 z1.2.2.2) (hz2 : I64 z2.1 ∧ I64 z2.2.1 ∧ I64 z2.2.2.1 ∧ I64 z2.2.2.2)
include hn hx hq hz1 hz2
end
end Go.Proofs.YthdhnhghjecfkaaGreat
namespace Go.Proofs.YthdhnhghjecfkaaGreat
open Go Go.Eng Go.Proofs Go.RowKit
open Go.Srd (Ft VF Hd Mv mv0 Rd Ab Cmd got ltF sam srt plh ofS gotL delN cntL insR insN insS rdd cntP facts fP)
set_option maxRecDepth 100000
theorem Jn0.lfI {A : (World → Prop) → Prop} {B : World → Prop} {ι : Type} (Q : ι → World → Prop) (hA : ∀ K : World → Prop, (∀ i w, Q i w → K w) → A K) (hB : ∀ i w, Q i w → B w) : Jn0 A B :=
 Jn0.mk fun K hK => hA K fun i w q => hK w (hB i w q)
structure Xa where
 x : Sx
 a : Ab
 fv : Value
 l : List Ft
section
variable {w0 : World} {n : Int} {v : Value} {xs : List I4} {z1 z2 : Int} {u1 u2 : Value} {cs ts : List Int} (hn : I64 n) (hx : SlC w0 4 v xs.length (xs.flatMap fQ)) (hq : I64s xs) (hz1 : I64 z1) (hz2 : I64 z2)
 (hu1 : SlC w0 1 u1 cs.length (cs.flatMap fI)) (hcs : ∀ c ∈ cs, I64 c) (hu2 : SlC w0 1 u2 ts.length (ts.flatMap fI)) (hts : ∀ c ∈ ts, I64 c)
include hn hx hq hz1 hz2 hu1 hcs hu2 hts
set_option maxHeartbeats 16000000 in
theorem law_Crashes : Calls Tryz.prog 4 #[.int .i64 n, v, .int .i64 z1, .int .i64 z2, u1, u2] w0 (Ret fun r w' => Ext w0 w' ∧ r = .bool true) := by
 have cc1 := fun {W : World} (_ : Ext w0 W) => c_sane (w0 := W)
 apply e_law37_ShardCrashes
 unfold s_law37_ShardCrashes
 have h := Hp.init [] w0
 refine cl1 h n_law37_sane (cc1 h.ext) fun w h => ?_
 refine Un_T (If_F (cl_Played h (hx.ext h.ext) hq hn fun x a fv l w hO hI h => ?_))
 have hal := (h.get (i := 0) rfl : _ ∧ _).1.all9
 refine alS h fun g1 w h => ?_
 refine stA h 0 rfl rfl hal rfl fun w h => ?_
 dsimp only [List.set] at h
 clear hI
 skip
 refine Jn0.lfI (ι := Xa) (fun i w => Srd.Ok i.a ∧ i.a.mv = mv0 ∧ Hp [] w0 w [bx g1 tSh (cS i.x i.a), shE i.x i.a i.fv i.l]) (fun K hK => ?_) (fun i w hi => Exists.elim (⟨i, hi⟩ : ∃ i : Xa, Srd.Ok i.a ∧ i.a.mv = mv0 ∧ Hp [] w0 w [bx g1 tSh (cS i.x i.a), shE i.x i.a i.fv i.l]) ?_)
 ·by_cases hp : a.mv.ph = 0
  ·refine faS (faS (ld1 h 0 rfl rfl (Bn_neF (by omega) (If_F ?_))))
   exact hK ⟨x, a, fv, l⟩ _ ⟨hO, hO.mv.z hp, h⟩
  by_cases hp2 : a.mv.ph = 2
  ·have hs : Srd.step a .cra = some (a, []) := by rw [Srd.cra_done hO hp, if_neg (show ¬ a.mv.ph = 1 by omega)]
   refine faS (faS (ld1 h 0 rfl rfl (Bn_neT (by omega) (If_T (ldA h 0 rfl rfl ?_)))))
   refine bdS (PC.cons (by rfl) PC.nil) (by rfl) ?_
   have h := Hp.perm h (List.Perm.swap _ _ _)
   refine cl_DoT (c := .cra) h hO trivial hs fun x' fv' w h => ?_
   have hal' := (h.get (i := 0) rfl : _ ∧ _).1.all9
   refine Ex3 (alS h fun g2 w h => ?_)
   refine stA h 0 rfl rfl hal' rfl fun w h => ?_
   dsimp only [List.set] at h
   refine Bn_neF (by omega) (If_F (faS (faS (ld1 h 3 rfl rfl (Bn_eqT (by omega) (If_T (ldA h 3 rfl rfl ?_)))))))
   refine ldA h 0 rfl rfl ?_
   refine cl1 h n_shard_Same (c_Same (h.get (i := 2) rfl : _ ∧ _).1 (h.get (i := 1) rfl : _ ∧ _).1 hO) fun w h => ?_
   skip
   exact Ret.mk ⟨h.ext, rfl⟩
  ·have hp1 : a.mv.ph = 1 := by have := hO.mv.ph; omega
   have hs : Srd.step a .cra = some ({ a with mv := mv0 }, []) := by rw [Srd.cra_done hO hp, if_pos hp1]
   have hO' : Srd.Ok { a with mv := mv0 } := Srd.step_ok hO hs
   refine faS (faS (ld1 h 0 rfl rfl (Bn_neT (by omega) (If_T (ldA h 0 rfl rfl ?_)))))
   refine bdS (PC.cons (by rfl) PC.nil) (by rfl) ?_
   have h := Hp.perm h (List.Perm.swap _ _ _)
   refine cl_DoT (c := .cra) h hO trivial hs fun x' fv' w h => ?_
   have hal' := (h.get (i := 0) rfl : _ ∧ _).1.all9
   refine Ex3 (alS h fun g2 w h => ?_)
   refine stA h 0 rfl rfl hal' rfl fun w h => ?_
   dsimp only [List.set] at h
   refine Bn_neF (by omega) (If_F (faS (faS (ld1 h 3 rfl rfl (Bn_eqF (by omega) (If_F (ldA h 0 rfl rfl ?_)))))))
   refine stA h 3 rfl rfl hal' rfl fun w h => ?_
   dsimp only [List.set] at h
   skip
   exact hK ⟨x', { a with mv := mv0 }, fv', []⟩ _ ⟨hO', rfl, h.pick [3, 1] (by decide) rfl⟩
 clear h hal hO
 clear hi
 clear i
 rintro ⟨x, a, fv, l⟩ ⟨hO, hmv, h⟩
 have hO : Srd.Ok a := hO
 have hmv : a.mv = mv0 := hmv
 have h : Hp [] w0 w [bx g1 tSh (cS x a), shE x a fv l] := h
 have hkk := hO.k
 have hrl := hO.ro.len
 have hsh := (h.get (i := 1) rfl : _ ∧ _).1
 have hsv := hsh.st
 have hrv := hsh.ro
 rw [hrl] at hrv
 have p8 := pk_bd (c := z1) (n := 8) (by omega)
 have pk1 := pk_bd (c := z2) (n := (a.k : Int) - 1) (by omega)
 refine Exists.elim (Int.eq_ofNat_of_zero_le p8.1) fun s hs8 => ?_
 have cc3 := fun {W' : World} (_ : Ext w W') => c_lpick (w0 := W') (c := z1) (n := 8) hz1 (by omega)
 have cc4 := fun {W' : World} (_ : Ext w W') => c_lpick (w0 := W') (c := z2) (n := (a.k : Int) - 1) hz2 (by omega)
 have hs7 : s ≤ 7 := by omega
 have hri : ∃ r, a.ro[s]? = some r ∧ r = Srd.roAt a.ro s := by
  refine ⟨_, List.getElem?_eq_getElem (by omega), ?_⟩
  unfold Srd.roAt
  rw [List.getD_eq_getElem?_getD, Int.toNat_natCast, List.getElem?_eq_getElem (by omega)]
  rfl
 refine Exists.elim hri fun r hri => ?_
 have sr : Seg (a.ro.flatMap fI) (s * 1) (fI r) := flat_seg (f := fI) (fun _ => rfl) hri.1
 have hrb := Srd.roAt_bd hO.ro (s := (s : Int)) (by omega)
 rw [← hri.2] at hrb
 have hoth := Srd.other hkk hrb pk1
 rw [hs8] at cc3
 have hsb : ∃ p, Srd.step a (.beg s ((r + 1 + pk z2 ((a.k : Int) - 1)) % (a.k : Int))) = some p := ⟨_, if_pos ⟨by rw [hmv]; rfl, by omega, hoth.1, by rw [← hri.2]; exact hoth.2⟩⟩
 refine Exists.elim hsb fun p hs => ?_
 have hb1 := (h.get (i := 0) rfl : Blk _ _ _ _)
 have hW := h
 have h := Hp.init [] w
 refine cl1 h n_law37_pick (cc3 h.ext) fun w h => ?_
 refine faS (lg1 h ‹_› (by rfl) ?_)
 refine leS (hrv.hp h) ?_
 refine Bn_neF (by omega) (Gd_F (faS (Gd_F (lg1 h ‹_› (by rfl) ?_))))
 refine Gd_F (leS (hsv.hp h) ?_)
 refine Gd_F (Bn_ltF (by omega) (Pick_F (If_F ?_)))
 refine Jn2.lfD (ι := Sx × Value) (.int .i64 0) (fun g i w => Hp [] w0 w [bx g tSh (cS i.1 p.1), shE i.1 p.1 i.2 p.2, bx g1 tSh (cS x a), shE x a fv l]) (fun K hK => ?_) (fun g i w h => ?_)
 ·replace h := h.dr
  refine dgA h ‹_› (by rfl) ?_
  refine dfS (dg1 h ‹_› (by rfl) ?_)
  refine diH h ‹_› (by omega) fun zb zo zk zv zc => ?_
  refine dh0 h ‹_› ‹_› (by rfl) ?_
  refine Dv_ad (by omega) (by omega) (dfS (dg1 h ‹_› (by rfl) ?_))
  refine dlS (hsv.hp h) ?_
  refine Dv_su (by omega) (by omega) (dfS (dg1 h ‹_› (by rfl) ?_))
  refine dlS (hsv.hp h) ?_
  refine ⟨?_, ?_⟩
  refine cl1 h n_law37_pick (cc4 h.ext) fun w h => ?_
  refine kgA h ‹_› (by rfl) ?_
  refine kg1 h ‹_› (by rfl) ?_
  refine kh0 h ‹_› ‹_› (by rfl) ?_
  refine kg1 h ‹_› (by rfl) ?_
  refine Dv_ad (by omega) (by omega) (Dv_rm (by omega) (by omega) (dbS (PC.cons (by rfl) (PC.cons (by rfl) (PC.cons (by rfl) PC.nil))) (by rfl) ?_))
  refine ⟨?_, ?_⟩
  ·have h := Hp.call (Lc := []) hW h (by simp)
   have h := Hp.perm h (List.Perm.swap _ _ _)
   refine cl_DoT (c := .beg s ((r + 1 + pk z2 ((a.k : Int) - 1)) % (a.k : Int))) h hO trivial hs fun x' fv' w h => ?_
   have hal := (h.get (i := 0) rfl : _ ∧ _).1.all9
   refine ExP3x (alS h fun g2 w h => ?_)
   refine klA h 3 rfl rfl ?_
   refine kl1 h 3 rfl rfl ?_
   have hro2 := (h.get (i := 2) rfl : _ ∧ _).1.ro
   rw [zv, hrl] at hro2
   refine kh0 (Hp.init [] _) (slc_at hro2) sr (by rfl) ?_
   refine kl1 h 3 rfl rfl (kl1 h 3 rfl rfl (stA h 0 rfl rfl hal rfl fun w h => ?_))
   dsimp only [List.set] at h
   exact hK _ (x', fv') _ (h.pick [0, 1, 3, 2] (by decide) rfl)
  ·refine alS h fun g2 w h => ?_
   refine kgA h ‹_› (by rfl) ?_
   refine kg1 h ‹_› (by rfl) ?_
   refine kh0 h ‹_› ‹_› (by rfl) ?_
   refine kg1 h ‹_› (by rfl) ?_
   refine kg1 h ‹_› (by rfl) ?_
   have h := Hp.call (Lc := []) hW h (by intro e he; rw [List.mem_singleton] at he; subst he; exact bx_sm)
   have h := h.pick [2, 0, 1] (by decide) rfl
   refine cl_DoT (c := .beg s ((r + 1 + pk z2 ((a.k : Int) - 1)) % (a.k : Int))) h hO trivial hs fun x' fv' w h => ?_
   have hal := (h.get (i := 0) rfl : _ ∧ _).1.all9
   refine ExP3x (stA h 2 rfl rfl hal rfl fun w h => ?_)
   dsimp only [List.set] at h
   exact hK _ (x', fv') _ (h.pick [2, 0, 3, 1] (by decide) rfl)
  ·refine alS h fun g2 w h => ?_
   refine kgA h ‹_› (by rfl) ?_
   refine kg1 h ‹_› (by rfl) ?_
   refine kh0 h ‹_› ‹_› (by rfl) ?_
   refine kg1 h ‹_› (by rfl) ?_
   refine kg1 h ‹_› (by rfl) ?_
   refine cl1 h n_law37_pick (cc4 h.ext) fun w h => ?_
   refine kgA h ‹_› (by rfl) ?_
   refine kg1 h ‹_› (by rfl) ?_
   refine kh0 h ‹_› ‹_› (by rfl) ?_
   refine kg1 h ‹_› (by rfl) ?_
   refine Dv_ad (by omega) (by omega) (Dv_rm (by omega) (by omega) (dbS (PC.cons (by rfl) (PC.cons (by rfl) (PC.cons (by rfl) PC.nil))) (by rfl) ?_))
   have h := Hp.call (Lc := []) hW h (by intro e he; rw [List.mem_singleton] at he; subst he; exact bx_sm)
   have h := h.pick [2, 0, 1] (by decide) rfl
   refine cl_DoT (c := .beg s ((r + 1 + pk z2 ((a.k : Int) - 1)) % (a.k : Int))) h hO trivial hs fun x' fv' w h => ?_
   have hal := (h.get (i := 0) rfl : _ ∧ _).1.all9
   refine ExP3x (stA h 2 rfl rfl hal rfl fun w h => ?_)
   dsimp only [List.set] at h
   exact hK _ (x', fv') _ (h.pick [2, 0, 3, 1] (by decide) rfl)
 have hal := (h.get (i := 3) rfl : _ ∧ _).1.all9
 refine Bn_neF (by omega) (If_F (ldA h 2 rfl rfl ?_))
 refine alS h fun g2 w h => ?_
 refine stA h 0 rfl rfl hal rfl fun w h => ?_
 dsimp only [List.set] at h
 have hpO : Srd.Ok p.1 := Srd.step_ok (l := p.2) hO hs
 have hI : ∃ (j : Nat) (m q : Xa), Value.int IntKind.i64 0 = .int .i64 (j : Int) ∧ j ≤ cs.length ∧ j ≤ 6 ∧ Srd.Ok m.a ∧ Srd.Ok q.a ∧ Srd.Moved m.a q.a ∧ Hp [] w0 w [bx g2 tSh (cS q.x q.a), bx g tSh (cS m.x m.a), shE m.x m.a m.fv m.l, shE q.x q.a q.fv q.l] :=
  ⟨0, ⟨i.1, p.1, i.2, p.2⟩, ⟨x, a, fv, l⟩, rfl, by omega, by omega, hpO, hO, Srd.moved_beg (l := p.2) hmv hs, h.pick [0, 1, 2, 4] (by decide) rfl⟩
 clear h
 refine Lp1.mk (fun i W => ∃ (j : Nat) (m q : Xa), i = .int .i64 (j : Int) ∧ j ≤ cs.length ∧ j ≤ 6 ∧ Srd.Ok m.a ∧ Srd.Ok q.a ∧ Srd.Moved m.a q.a ∧ Hp [] w0 W [bx g2 tSh (cS q.x q.a), bx g tSh (cS m.x m.a), shE m.x m.a m.fv m.l, shE q.x q.a q.fv q.l])
  (fun i _ => match i with | .int _ i' => cs.length + 1 - i'.toNat | _ => 0) hI ?_
 clear hI hW hb1 hsv hrv hsh hal cc3 cc4 hs
 rintro _ W ⟨j, ⟨xm, am, fvm, lm⟩, ⟨xq, aq, fvq, lq⟩, rfl, hj, hj6, hOm, hOq, hM, h⟩
 have hOm : Srd.Ok am := hOm
 have hOq : Srd.Ok aq := hOq
 have hM : Srd.Moved am aq := hM
 replace h : Hp [] w0 W [bx g2 tSh (cS xq aq), bx g tSh (cS xm am), shE xm am fvm lm, shE xq aq fvq lq] := h
 by_cases hjl : j < cs.length ∧ j < 6
 ·have hj1 := hjl.1
  have hj2 := hjl.2
  refine Exists.elim (p := fun c => cs[j]? = some c) ⟨_, List.getElem?_eq_getElem hj1⟩ fun c hc => ?_
  have sc : Seg (cs.flatMap fI) (j * 1) (fI c) := flat_seg (f := fI) (fun _ => rfl) hc
  have hci := hcs c (List.mem_of_getElem? hc)
  have p3 := pk_bd (c := c) (n := 3) (by omega)
  have cc5 := fun {W' : World} (_ : Ext w0 W') => c_lpick (w0 := W') (c := c) (n := 3) hci (by omega)
  have hcop : CmdOk (.cop (1 + pk c 3)) := by show 1 ≤ _ ∧ _ ≤ 1000000; omega
  refine Exists.elim (Srd.moved_cop hM (m := 1 + pk c 3) (by omega)) fun b' hb' => ?_
  have hs := hb'.1
  have hOb : Srd.Ok b' := Srd.step_ok hOm hs
  refine leS (hu1.hp h) ?_
  refine Bn_ltT (by omega) (Gd_T (Gd_T (Bn_ltT (by omega) (Pick_T (If_T ?_)))))
  refine Jn2.lfD (ι := Sx × Value) (.int .i64 0) (fun g' i w => Hp [] w0 w [bx g' tSh (cS i.1 b'), shE i.1 b' i.2 [], bx g2 tSh (cS xq aq), bx g tSh (cS xm am), shE xm am fvm lm, shE xq aq fvq lq]) (fun K hK => ?_) (fun g' i w h => ?_)
  ·replace h := h.dr
   refine dlA h 1 rfl rfl ?_
   refine diH h ‹_› (by omega) fun zb zo zk zv zc => ?_
   refine dh0 h ‹_› ‹_› (by rfl) ?_
   refine ⟨?_, ?_⟩
   refine cl1 h n_law37_pick (cc5 h.ext) fun w h => ?_
   refine klA h 1 rfl rfl ?_
   refine Dv_ad (by omega) (by omega) (dbS (PC.cons (by rfl) (PC.cons (by rfl) PC.nil)) (by rfl) ?_)
   refine ⟨?_, ?_⟩
   ·have h := h.pick [2, 0, 1, 3] (by decide) rfl
    refine cl_DoT (c := .cop (1 + pk c 3)) h hOm hcop hs fun x' fv' w h => ?_
    have hal := (h.get (i := 0) rfl : _ ∧ _).1.all9
    refine ExP3x (alS h fun g3 w h => ?_)
    refine klA h 4 rfl rfl ?_
    refine kh0 h ‹_› ‹_› (by rfl) ?_
    refine stA h 0 rfl rfl hal rfl fun w h => ?_
    dsimp only [List.set] at h
    exact hK _ (x', fv') _ (h.pick [0, 1, 3, 4, 2, 5] (by decide) rfl)
   ·refine alS h fun g3 w h => ?_
    refine klA h 2 rfl rfl ?_
    refine kh0 h ‹_› ‹_› (by rfl) ?_
    have h := h.pick [3, 0, 1, 2, 4] (by decide) rfl
    refine cl_DoT (c := .cop (1 + pk c 3)) h hOm hcop hs fun x' fv' w h => ?_
    have hal := (h.get (i := 0) rfl : _ ∧ _).1.all9
    refine ExP3x (stA h 2 rfl rfl hal rfl fun w h => ?_)
    dsimp only [List.set] at h
    exact hK _ (x', fv') _ (h.pick [2, 0, 3, 4, 1, 5] (by decide) rfl)
   ·refine alS h fun g3 w h => ?_
    refine klA h 2 rfl rfl ?_
    refine kh0 h ‹_› ‹_› (by rfl) ?_
    refine cl1 h n_law37_pick (cc5 h.ext) fun w h => ?_
    refine klA h 2 rfl rfl ?_
    refine Dv_ad (by omega) (by omega) (dbS (PC.cons (by rfl) (PC.cons (by rfl) PC.nil)) (by rfl) ?_)
    have h := h.pick [3, 0, 1, 2, 4] (by decide) rfl
    refine cl_DoT (c := .cop (1 + pk c 3)) h hOm hcop hs fun x' fv' w h => ?_
    have hal := (h.get (i := 0) rfl : _ ∧ _).1.all9
    refine ExP3x (stA h 2 rfl rfl hal rfl fun w h => ?_)
    dsimp only [List.set] at h
    exact hK _ (x', fv') _ (h.pick [2, 0, 3, 4, 1, 5] (by decide) rfl)
  have hal := (h.get (i := 1) rfl : _ ∧ _).1.all9
  refine Bn_neF (by omega) (If_F (ldA h 0 rfl rfl ?_))
  refine stA h 3 rfl rfl hal rfl fun w h => ?_
  dsimp only [List.set] at h
  by_cases hjt : j < ts.length
  rotate_left
  ·refine leS (hu2.hp h) ?_
   refine Bn_ltF (by omega) (If_F (Bn_ad (by omega) (by omega) ?_))
   exact ⟨⟨j + 1, ⟨i.1, b', i.2, []⟩, ⟨xq, aq, fvq, lq⟩, rfl, by omega, by omega, hOb, hOq, hb'.2, h.pick [2, 3, 1, 5] (by decide) rfl⟩, by show cs.length + 1 - ((j : Int) + 1).toNat < cs.length + 1 - (j : Int).toNat; omega⟩
  refine Exists.elim (p := fun c => ts[j]? = some c) ⟨_, List.getElem?_eq_getElem hjt⟩ fun d hd => ?_
  have sd : Seg (ts.flatMap fI) (j * 1) (fI d) := flat_seg (f := fI) (fun _ => rfl) hd
  have hdi := hts d (List.mem_of_getElem? hd)
  have p30 := pk_bd (c := d) (n := 30) (by omega)
  have cc6 := fun {W' : World} (_ : Ext w0 W') => c_lpick (w0 := W') (c := d) (n := 30) hdi (by omega)
  have cc7 := fun {W' : World} (_ : Ext w0 W') => c_lput (w0 := W') (p := pk d 30) (by omega)
  have hput : CmdOk (.put (fP (pk d 30))) := ⟨⟨by show 0 ≤ pk d 30; omega, by show pk d 30 ≤ 999; omega⟩, ⟨by show (0 : Int) ≤ 0; omega, by show (0 : Int) ≤ 9; omega⟩, ⟨by show (0 : Int) ≤ 0; omega, by show (0 : Int) ≤ 7; omega⟩, ⟨by show (0 : Int) ≤ 0; omega, by show (0 : Int) ≤ 9; omega⟩, ⟨by show (0 : Int) ≤ 0; omega, by show (0 : Int) ≤ 11; omega⟩, ⟨by show (-1 : Int) ≤ -1; omega, by show (-1 : Int) ≤ 19; omega⟩, rfl, ⟨by show (0 : Int) ≤ 0; omega, by show (0 : Int) ≤ 0; omega⟩, by show (0 : Int) ≤ 4398046511104; omega, ⟨by show (0 : Int) ≤ 0; omega, by show (0 : Int) ≤ 24000; omega⟩⟩
  refine leS (hu2.hp h) ?_
  refine Bn_ltT (by omega) (If_T (iaH h ‹_› (by omega) fun zb zo zk zv zc => ?_))
  refine lh0 h ‹_› ‹_› (by rfl) ?_
  refine cl1 h n_law37_pick (cc6 h.ext) fun w h => ?_
  refine cl1 h n_law37_put (cc7 h.ext) fun w h => ?_
  refine alS h fun g3 w h => ?_
  refine stA h 0 rfl rfl rfl rfl fun w h => ?_
  refine ldA h 4 rfl rfl ?_
  refine ldA h 0 rfl rfl ?_
  dsimp only [List.set] at h
  have h := h.pick [2, 0, 3, 4, 6] (by decide) rfl
  refine Or.elim (Srd.moved_put hb'.2 (f := fP (pk d 30))) (fun hss => ?_) (fun hss => Exists.elim hss fun b2 hss => Exists.elim hss fun c2 hss => ?_)
  ·refine cl_DoN (c := .put (fP (pk d 30))) h hOb hput hss.1 fun w h => ?_
   refine Ex3 (alS h fun g4 w h => ?_)
   refine stA h 0 rfl rfl rfl rfl fun w h => ?_
   refine ldA h 3 rfl rfl ?_
   refine ldA h 2 rfl rfl ?_
   dsimp only [List.set] at h
   have h := h.pick [5, 0, 1, 2, 3, 4] (by decide) rfl
   refine cl_DoN (c := .put (fP (pk d 30))) h hOq hput hss.2 fun w h => ?_
   refine Ex3 (alS h fun g5 w h => ?_)
   refine stA h 0 rfl rfl rfl rfl fun w h => ?_
   refine Bn_neF (by omega) (If_F (Bn_eqF (by omega) (If_F (Bn_ad (by omega) (by omega) ?_))))
   dsimp only [List.set] at h
   exact ⟨⟨j + 1, ⟨i.1, b', i.2, []⟩, ⟨xq, aq, fvq, lq⟩, rfl, by omega, by omega, hOb, hOq, hb'.2, h.pick [5, 6, 3, 1] (by decide) rfl⟩, by show cs.length + 1 - ((j : Int) + 1).toNat < cs.length + 1 - (j : Int).toNat; omega⟩
  have hO2 : Srd.Ok b2 := Srd.step_ok hOb hss.1
  have hO3 : Srd.Ok c2 := Srd.step_ok hOq hss.2.1
  refine cl_DoT (c := .put (fP (pk d 30))) h hOb hput hss.1 fun x2 fv2 w h => ?_
  have hal2 := (h.get (i := 0) rfl : _ ∧ _).1.all9
  refine Ex3 (alS h fun g4 w h => ?_)
  refine stA h 0 rfl rfl hal2 rfl fun w h => ?_
  dsimp only [List.set] at h
  refine ldA h 4 rfl rfl ?_
  refine ldA h 3 rfl rfl ?_
  have h := h.pick [6, 0, 1, 3, 4, 5] (by decide) rfl
  refine cl_DoT (c := .put (fP (pk d 30))) h hOq hput hss.2.1 fun x3 fv3 w h => ?_
  have hal3 := (h.get (i := 0) rfl : _ ∧ _).1.all9
  refine Ex3 (alS h fun g5 w h => ?_)
  refine stA h 0 rfl rfl hal3 rfl fun w h => ?_
  dsimp only [List.set] at h
  refine Bn_neF (by omega) (If_F (Bn_eqT (by omega) (If_T (ldA h 3 rfl rfl ?_))))
  refine stA h 7 rfl rfl hal2 rfl fun w h => ?_
  dsimp only [List.set] at h
  refine ldA h 0 rfl rfl ?_
  refine stA h 6 rfl rfl hal3 rfl fun w h => ?_
  dsimp only [List.set] at h
  refine Bn_ad (by omega) (by omega) ?_
  exact ⟨⟨j + 1, ⟨x2, b2, fv2, []⟩, ⟨x3, c2, fv3, []⟩, rfl, by omega, by omega, hO2, hO3, hss.2.2, h.pick [6, 7, 4, 1] (by decide) rfl⟩, by show cs.length + 1 - ((j : Int) + 1).toNat < cs.length + 1 - (j : Int).toNat; omega⟩
 revert h; revert W; apply meet
 ·intro W lfT h
  by_cases hj1 : j < cs.length
  ·have hj2 : ¬ j < 6 := fun hc => hjl ⟨hj1, hc⟩
   refine leS (hu1.hp h) ?_
   refine Bn_ltT (by omega) (Gd_T (Gd_T (Bn_ltF (by omega) (Pick_T (If_F (ldA h 1 rfl rfl ?_))))))
   refine bdS (PC.cons (by rfl) PC.nil) (by rfl) ?_
   exact lfT _ h
  ·refine leS (hu1.hp h) ?_
   refine Bn_ltF (by omega) (Gd_FT (Gd_FT (Pick_F (If_F (ldA h 1 rfl rfl ?_)))))
   refine bdS (PC.cons (by rfl) PC.nil) (by rfl) ?_
   exact lfT _ h
 intro W h
 have hsc := Srd.moved_cra hM
 skip
 have h := h.pick [2, 0, 1, 3] (by decide) rfl
 refine cl_DoT (c := .cra) h hOm trivial hsc fun x2 fv2 w h => ?_
 have hal2 := (h.get (i := 0) rfl : _ ∧ _).1.all9
 refine Ex3 (alS h fun g3 w h => ?_)
 refine stA h 0 rfl rfl hal2 rfl fun w h => ?_
 dsimp only [List.set] at h
 refine Bn_eqT (by omega) (Gd_T (ldA h 0 rfl rfl ?_))
 refine Gd_T (ldA h 3 rfl rfl ?_)
 refine Gd_T (cl1 h n_shard_Same (c_Same (h.get (i := 1) rfl : _ ∧ _).1 (h.get (i := 5) rfl : _ ∧ _).1 hOq) fun w h => ?_)
 refine Pick_T ?_
 exact Ret.mk ⟨h.ext, rfl⟩
end
end Go.Proofs.YthdhnhghjecfkaaGreat
