/-
  Contracts and plain lemmas. By an AI agent.
-/
import Derived.Test.YthdhnhghjecfkaaGreatSrG
import Derived.Test.YthdhnhghjecfkaaGreatPlain
import Derived.Test.YthdhnhghjecfkaaGreatEngW
set_option linter.unusedSimpArgs false
set_option linter.unusedVariables false
set_option linter.unusedSectionVars false
namespace Go.Proofs.YthdhnhghjecfkaaGreat
open Go Go.Eng Go.Proofs Go.RowKit
open Go.Srd (Ft VF Hd Mv mv0 Rd Ab Cmd got ltF sam srt plh ofS gotL)
set_option maxRecDepth 100000
def rwS (a : Ab) (us : List Value) : List Rw := us.mapIdx fun i u => ⟨u, (Srd.store a i).length, (Srd.store a i).flatMap fH⟩
def rwO (rs : List RV) : List Rw := rs.map fun r => ⟨r.2.1, r.1.ro.length, r.1.ro.flatMap fI⟩
def rwG (a : Ab) (rs : List RV) : List Rw := rs.map fun r => ⟨r.2.2, (got a r.1).length, (got a r.1).flatMap fF⟩
theorem rwS_snoc {a : Ab} {us : List Value} {u : Value} : rwS a (us ++ [u]) = rwS a us ++ [⟨u, (Srd.store a us.length).length, (Srd.store a us.length).flatMap fH⟩] := by
 unfold rwS
 rw [List.mapIdx_append]
 simp
def chL (g : Nat) (x : Sx) (a : Ab) (fv : Value) : List Et :=
 bx g tCh (cS x a ++ [fv]) :: ro tHs 1 x.sv a.k (x.ls.flatMap fV) :: ro tIn 1 x.rv 8 (a.ro.flatMap fI) :: ro tRd 5 x.dv x.rs.length (x.rs.flatMap fR) :: (ros tHd 11 (rwS a x.ls) ++ (ros tIn 1 (rwO x.rs) ++ ros tFt 10 (rwG a x.rs)))
theorem fR_set2 {A B : List RV} {r : RV} {u : Value} : ((A ++ r :: B).flatMap fR).set (0 + A.length * 5 + 2) u = (A ++ (r.1, u, r.2.2) :: B).flatMap fR := by
 have hl := flat_len (f := fR) (c := 5) (fun _ => rfl) A
 rw [List.flatMap_append, List.flatMap_append, List.set_append_right _ _ (by omega), show 0 + A.length * 5 + 2 - (A.flatMap fR).length = 2 by omega]
 rfl
theorem fR_set4 {A B : List RV} {r : RV} {u : Value} : ((A ++ r :: B).flatMap fR).set (0 + A.length * 5 + 4) u = (A ++ (r.1, r.2.1, u) :: B).flatMap fR := by
 have hl := flat_len (f := fR) (c := 5) (fun _ => rfl) A
 rw [List.flatMap_append, List.flatMap_append, List.set_append_right _ _ (by omega), show 0 + A.length * 5 + 4 - (A.flatMap fR).length = 4 by omega]
 rfl
theorem all_fR {rs : List RV} (h : ∀ r ∈ rs, r.2.1.oneCell' = true ∧ r.2.2.oneCell' = true) : ((rs.flatMap fR).all fun x => x.oneCell') = true := by
 induction rs with
 | nil => rfl
 | cons r rs ih =>
  have h1 := h r (by simp)
  rw [List.flatMap_cons, List.all_append, ih fun r hr => h r (by simp [hr])]
  simp only [List.all_cons, List.all_nil, h1.1, h1.2]
  rfl
theorem permP {α : Type} {A S O G : List α} {o g : α} : (g :: o :: (A ++ (S ++ (O ++ G)))).Perm (A ++ (S ++ ((O ++ [o]) ++ (G ++ [g])))) := by
 have h1 : (o :: (A ++ (S ++ (O ++ G)))).Perm (A ++ (S ++ (O ++ o :: G))) := by
  have := (List.perm_middle (a := o) (l₁ := A ++ (S ++ O)) (l₂ := G)).symm
  simpa [List.append_assoc] using this
 have e : A ++ (S ++ ((O ++ [o]) ++ (G ++ [g]))) = (A ++ (S ++ (O ++ o :: G))) ++ [g] := by simp [List.append_assoc]
 rw [e]
 exact (h1.cons g).trans (List.perm_append_comm (l₁ := [g]))
set_option maxHeartbeats 16000000 in
theorem c_of {w0 : World} {x : Sx} {a : Ab} (hR : ShR w0 x a) (hO : Srd.Ok a) : Calls Tryz.prog 33 #[vSh x a] w0 (Ret fun r w' => ∃ g x', r = pr g 0 ∧ x'.rs.map (·.1) = a.rd ∧ x'.ls.length = a.k ∧ Hp [] w0 w' (chL g x' a (.slice none 0 0))) := by
 have hk := hO.k
 have hnA := hO.nA
 have hnr := hO.nr
 have hsv := hR.st
 have hrv := hR.ro
 have hrd := hR.rd
 have hrs := hR.rs
 have hone := hR.one
 have hrl : x.rs.length = a.rd.length := by rw [← hrs, List.length_map]
 have hr8 := hO.ro.len
 have hkl := hR.k
 apply e_shard_of
 unfold s_shard_of
 have h := Hp.init [] w0
 refine bxA h fun g1 w h => ?_
 refine ldA h 0 rfl rfl ?_
 refine bdS (PC.cons (by rfl) PC.nil) (by rfl) ?_
 refine bdS (PC.cons (by rfl) PC.nil) (by rfl) ?_
 refine bxA h fun g2 w h => ?_
 refine Nc_ok ?_
 refine faS (faS (faS (st1 h 0 rfl rfl rfl rfl fun w h => ?_)))
 refine faS (ld1 h 1 rfl rfl (leS (hsv.hp h) ?_))
 dsimp only [List.set] at h
 have h0 := h.nil tHs 1
 refine Lp1.mk (fun i W => ∃ (j : Nat) (sv : Value) (us : List Value), j ≤ a.k ∧ i = .int .i64 j ∧ us.length = j ∧
  Hp [] w0 W (ro tHs 1 sv j (us.flatMap fV) :: bx g2 tCh [sv, x.rv, .int .i64 a.A.length, .int .i64 a.mv.ph, .int .i64 a.mv.sl, .int .i64 a.mv.fr, .int .i64 a.mv.to, .int .i64 a.mv.cp, x.dv, .slice none 0 0] :: bx g1 tSh (cS x a) :: (ros tHd 11 (rwS a us) ++ [])))
  (fun i _ => match i with | .int _ i' => a.k - i'.toNat | _ => 0) ⟨0, .slice none 0 0, [], by omega, rfl, rfl, h0⟩ ?_
 clear h h0
 rintro _ W ⟨j, sv, us, hj, rfl, huj, h⟩
 by_cases hjl : j < a.k
 ·refine Exists.elim (hR.at hjl) fun v hv => ?_
  have hvi := hv.2
  have ssv : Seg (x.ls.flatMap fV) (j * 1) (fV v) := flat_seg (f := fV) (fun _ => rfl) hv.1
  have hsl : (Srd.store a j).length ≤ 400 := Nat.le_trans (Srd.store_len a j) hnA
  have cr1 := fun {W : World} (e : Ext w0 W) => c_CloneHd (w0 := W) (hvi.ext e) (by omega)
  refine Bn_ltT (by omega) (If_T (iaH h ‹_› (by omega) fun zb zo zk zv zc => ?_))
  refine lh0 h ‹_› ‹_› (by rfl) ?_
  refine NcP_ok ?_
  replace h := h.dr
  refine dfS (dfS (dfS (dl1 h 1 rfl rfl (clR h n_slices_Clone_api_Held_api_Held (cr1 h.ext) fun v1 w h => ?_))))
  refine kl1 h 2 rfl rfl ?_
  have hc1 := slc_c1 (qZ 0 h rfl)
  refine bs1V h (by rfl) hc1.1 fun v2 w h => ?_
  have ha1 : (([v1] : List Value).all fun x => x.oneCell') = true := by simp only [List.all_cons, List.all_nil, hc1.2]; rfl
  refine kl1 h 3 rfl rfl (apR (by rfl) (by decide) h 2 rfl (qZ 0 h rfl) (by first | rfl | assumption) (by omega) fun v3 w h => ?_)
  refine NcP_ok ?_
  refine dfS (dfS (dfS (st1w h 3 rfl (qZ 2 h rfl) rfl fun w h => ?_)))
  refine Bn_ad (by omega) (by omega) ?_
  dsimp only [List.set] at h
  have e : ros tHd 11 (rwS a (us ++ [v1])) = ros tHd 11 (rwS a us) ++ [ro tHd 11 v1 (Srd.store a j).length ((Srd.store a j).flatMap fH)] := by
   rw [rwS_snoc, huj]
   unfold ros
   rw [List.map_append]
   rfl
  have e2 : (us ++ [v1]).flatMap fV = us.flatMap fV ++ [v1] := by rw [List.flatMap_append]; rfl
  refine ⟨⟨j + 1, v3, us ++ [v1], by omega, rfl, by rw [List.length_append, huj]; rfl, ?_⟩, by show a.k - ((j : Int) + 1).toNat < a.k - (j : Int).toNat; omega⟩
  rw [e, e2, List.append_nil]
  have h4 := h.drop 1
  rw [List.append_nil] at h4
  exact h4.perm (List.perm_append_comm (l₁ := [_]) (l₂ := _ :: _ :: _ :: _))
 have : j = a.k := by omega
 subst this
 have cr1 := fun {W : World} (e : Ext w0 W) => c_CloneIn (w0 := W) (hrv.ext e) (by omega)
 have cr2 := fun {W : World} (e : Ext w0 W) => c_CloneRd (w0 := W) (hrd.ext e) (all_fR hone.2.2.2.2) (by omega)
 refine Bn_ltF (by omega) (If_F (faS (ld1 h 2 rfl rfl (clR h n_slices_Clone_int_int (cr1 h.ext) fun v1 w h => ?_))))
 refine Nc_ok ?_
 refine faS (faS (faS (st1w h 2 rfl (qZ 0 h rfl) rfl fun w h => ?_)))
 refine faS (ld1 h 3 rfl rfl (clR h n_slices_Clone_api_Reader_api_Reader (cr2 h.ext) fun v2 w h => ?_))
 refine Nc_ok ?_
 refine faS (faS (faS (st1w h 3 rfl (qZ 0 h rfl) rfl fun w h => ?_)))
 refine Nc_ok ?_
 refine faS (faS (faS (ld1 h 3 rfl rfl (leS (qZ 0 h rfl) ?_))))
 dsimp only [List.set] at h
 have h0 : Hp [] w0 w (ro tRd 5 v2 x.rs.length (([] ++ x.rs.drop 0 : List RV).flatMap fR) :: ro tIn 1 v1 a.ro.length (a.ro.flatMap fI) :: ro tHs 1 sv a.k (us.flatMap fV) :: bx g2 tCh [sv, v1, .int .i64 a.A.length, .int .i64 a.mv.ph, .int .i64 a.mv.sl, .int .i64 a.mv.fr, .int .i64 a.mv.to, .int .i64 a.mv.cp, v2, .slice none 0 0] :: bx g1 tSh (cS x a) :: (ros tHd 11 (rwS a us) ++ (ros tIn 1 (rwO []) ++ ros tFt 10 (rwG a [])))) := h
 refine Lp1.mk (fun i W => ∃ (j : Nat) (rs' : List RV), j ≤ x.rs.length ∧ i = .int .i64 j ∧ rs'.length = j ∧ rs'.map (·.1) = (x.rs.take j).map (·.1) ∧
  Hp [] w0 W (ro tRd 5 v2 x.rs.length ((rs' ++ x.rs.drop j).flatMap fR) :: ro tIn 1 v1 a.ro.length (a.ro.flatMap fI) :: ro tHs 1 sv a.k (us.flatMap fV) :: bx g2 tCh [sv, v1, .int .i64 a.A.length, .int .i64 a.mv.ph, .int .i64 a.mv.sl, .int .i64 a.mv.fr, .int .i64 a.mv.to, .int .i64 a.mv.cp, v2, .slice none 0 0] :: bx g1 tSh (cS x a) :: (ros tHd 11 (rwS a us) ++ (ros tIn 1 (rwO rs') ++ ros tFt 10 (rwG a rs')))))
  (fun i _ => match i with | .int _ i' => x.rs.length - i'.toNat | _ => 0) ⟨0, [], by omega, rfl, rfl, rfl, h0⟩ ?_
 clear h h0
 rintro _ W ⟨j, rs', hj, rfl, hrj, hrm, h⟩
 by_cases hjl : j < x.rs.length
 rotate_left
 ·have : j = x.rs.length := by omega
  subst this
  rw [List.drop_length, List.append_nil] at h
  rw [List.take_length] at hrm
  rw [← hrj, hr8] at h
  refine Bn_ltF (by omega) (If_F ?_)
  refine Ret.mk ⟨g2, ⟨sv, v1, v2, us, rs'⟩, rfl, hrm.trans hrs, huj, ?_⟩
  have h5 := (Hp.perm h (List.reverse_perm [ro tRd 5 v2 rs'.length (rs'.flatMap fR), ro tIn 1 v1 8 (a.ro.flatMap fI), ro tHs 1 sv a.k (us.flatMap fV), bx g2 tCh [sv, v1, .int .i64 a.A.length, .int .i64 a.mv.ph, .int .i64 a.mv.sl, .int .i64 a.mv.fr, .int .i64 a.mv.to, .int .i64 a.mv.cp, v2, .slice none 0 0], bx g1 tSh (cS x a)] |>.symm.append_right (ros tHd 11 (rwS a us) ++ (ros tIn 1 (rwO rs') ++ ros tFt 10 (rwG a rs')))))
  exact h5.drop 1
 refine Exists.elim (p := fun r => x.rs[j]? = some r) ⟨_, List.getElem?_eq_getElem hjl⟩ fun r hr => ?_
 have hdr : x.rs.drop j = r :: x.rs.drop (j + 1) := by rw [List.drop_eq_getElem_cons hjl, (List.getElem?_eq_some_iff.1 hr).2]
 have hrr := hR.rr r (List.mem_of_getElem? hr)
 have hra : r.1 ∈ a.rd := by rw [← hrs]; exact List.mem_map.2 ⟨r, List.mem_of_getElem? hr, rfl⟩
 have hgl : (got a r.1).length ≤ 1000 := by
  have h1 := (hO.rd r.1 hra).up
  rw [Srd.got_eq h1.1, srt_len]
  have h2 := Srd.gotL_len r.1 ((Srd.all a).take r.1.up.toNat)
  rw [List.length_take, Srd.all_len] at h2
  omega
 have hrl8 := (hO.rd r.1 hra).ro.len
 have cr3 := fun {W : World} (e : Ext w0 W) => c_CloneIn (w0 := W) (hrr.1.ext e) (by omega)
 have cr4 := fun {W : World} (e : Ext w0 W) => c_CloneFt (w0 := W) (hrr.2.ext e) (by omega)
 have sg : ∀ r2 : RV, Seg ((rs' ++ r2 :: x.rs.drop (j + 1)).flatMap fR) (j * 5) (fR r2) := fun r2 => flat_seg (f := fR) (fun _ => rfl) (by rw [List.getElem?_append_right (by omega), hrj, Nat.sub_self]; rfl)
 rw [hdr] at h
 have s1 := sg r
 refine Bn_ltT (by omega) (If_T (NcP_ok ?_))
 replace h := h.dr
 refine dfS (dfS (dfS (dl1 h 3 rfl rfl (NcP_ok ?_))))
 refine dfS (dfS (dfS (dl1 h 3 rfl rfl (diR h 0 rfl (by omega) fun zg zk zv => ?_))))
 refine dfS (dr1 h 0 rfl ‹_› s1 (by rfl) ?_)
 refine clR h n_slices_Clone_int_int (cr3 h.ext) fun v3 w h => ?_
 refine kl1 h 4 rfl rfl (diR h 1 rfl (by omega) fun zg zk zv => ?_)
 refine dfS ?_
 have hc3 := slc_c1 (qZ 0 h rfl)
 refine stR1 h 1 rfl zv hc3.1 hc3.2 (by omega) fun w h => ?_
 have e2 : ((rs' ++ r :: x.rs.drop (j + 1)).flatMap fR).set (0 + j * 5 + 2) v3 = (rs' ++ (r.1, v3, r.2.2) :: x.rs.drop (j + 1)).flatMap fR := by
  have := fR_set2 (A := rs') (B := x.rs.drop (j + 1)) (r := r) (u := v3)
  rwa [hrj] at this
 dsimp only [List.set] at h
 rw [show List.set ((rs' ++ r :: x.rs.drop (j + 1)).flatMap fR) (0 + j * 5 + 2) v3 = _ from e2] at h
 have s2 := sg (r.1, v3, r.2.2)
 refine NcP_ok ?_
 replace h := h.dr
 refine dfS (dfS (dfS (dl1 h 4 rfl rfl (NcP_ok ?_))))
 refine dfS (dfS (dfS (dl1 h 4 rfl rfl (diR h 1 rfl (by omega) fun zg zk zv => ?_))))
 refine dfS (dr1 h 1 rfl ‹_› ‹_› (by rfl) ?_)
 refine clR h n_slices_Clone_api_Fact_api_Fact (cr4 h.ext) fun v4 w h => ?_
 refine kl1 h 5 rfl rfl (diR h 2 rfl (by omega) fun zg zk zv => ?_)
 refine dfS ?_
 have hc4 := slc_c1 (qZ 0 h rfl)
 refine stR1 h 2 rfl zv hc4.1 hc4.2 (by omega) fun w h => ?_
 have e4 : ((rs' ++ (r.1, v3, r.2.2) :: x.rs.drop (j + 1)).flatMap fR).set (0 + j * 5 + 4) v4 = (rs' ++ (r.1, v3, v4) :: x.rs.drop (j + 1)).flatMap fR := by
  have := fR_set4 (A := rs') (B := x.rs.drop (j + 1)) (r := (r.1, v3, r.2.2)) (u := v4)
  rwa [hrj] at this
 dsimp only [List.set] at h
 rw [show List.set ((rs' ++ (r.1, v3, r.2.2) :: x.rs.drop (j + 1)).flatMap fR) (0 + j * 5 + 4) v4 = _ from e4] at h
 refine Bn_ad (by omega) (by omega) ?_
 refine ⟨⟨j + 1, rs' ++ [(r.1, v3, v4)], by omega, rfl, by rw [List.length_append, hrj]; rfl, ?_, ?_⟩, by show x.rs.length - ((j : Int) + 1).toNat < x.rs.length - (j : Int).toNat; omega⟩
 ·rw [List.map_append, hrm, List.take_add_one, hr, List.map_append]; rfl
 ·rw [List.append_assoc]
  have eo : ros tIn 1 (rwO (rs' ++ [(r.1, v3, v4)])) = ros tIn 1 (rwO rs') ++ [ro tIn 1 v3 r.1.ro.length (r.1.ro.flatMap fI)] := by
   unfold rwO ros; rw [List.map_append, List.map_append]; rfl
  have eg : ros tFt 10 (rwG a (rs' ++ [(r.1, v3, v4)])) = ros tFt 10 (rwG a rs') ++ [ro tFt 10 v4 (got a r.1).length ((got a r.1).flatMap fF)] := by
   unfold rwG ros; rw [List.map_append, List.map_append]; rfl
  rw [eo, eg]
  exact Hp.perm h (permP (A := _ :: _ :: _ :: _ :: [_]))
def Has (rows : List Et) (c : Nat) (v : Value) (n : Nat) (xs : List Value) : Prop := ∃ e ∈ rows, (∀ w, e.Q w → SlC w c v n xs) ∧ ∀ k ∈ kB v, k ∈ e.ks
theorem Has.ro {rows : List Et} {t : TypeId} {c n : Nat} {v : Value} {xs : List Value} (h : ro t c v n xs ∈ rows) : Has rows c v n xs := ⟨_, h, fun _ hq => ownsRow_sl hq, fun _ hk => hk⟩
theorem Has.ros {rows : List Et} {t : TypeId} {c : Nat} {l : List Rw} {r : Rw} (hs : ∀ e ∈ Eng.ros t c l, e ∈ rows) (hr : r ∈ l) : Has rows c r.v r.n r.xs := Has.ro (t := t) (hs _ (List.mem_map.2 ⟨r, hr, rfl⟩))
theorem fin_rows {S : List Nat} {w0 w : World} {g n : Nat} {x : Sx} {a : Ab} {fv : Value} {l : List Ft} {cs : List Value} {rows : List Et} (hn : n = x.rs.length) (h : Hp S w0 w (bx g tCh cs :: Eng.ro tHs 1 x.sv a.k (x.ls.flatMap fV) :: Eng.ro tIn 1 x.rv a.ro.length (a.ro.flatMap fI) :: Eng.ro tRd 5 x.dv n (x.rs.flatMap fR) :: rows))
 (hls : ∀ (i : Nat) (v : Value), x.ls[i]? = some v → Has rows 11 v (Srd.store a i).length ((Srd.store a i).flatMap fH)) (hrs : x.rs.map (·.1) = a.rd)
 (hro : ∀ r ∈ x.rs, Has rows 1 r.2.1 r.1.ro.length (r.1.ro.flatMap fI)) (hgo : ∀ r ∈ x.rs, Has rows 10 r.2.2 (got a r.1).length ((got a r.1).flatMap fF))
 (hfv : (fv = .slice none 0 0 ∧ l = []) ∨ Has rows 10 fv l.length (l.flatMap fF)) : Hp S w0 w [bx g tCh cs, shE x a fv l] := by
 subst hn
 refine (Hp.perm (Hp.all (Lc := Eng.ro tHs 1 x.sv a.k (x.ls.flatMap fV) :: Eng.ro tIn 1 x.rv a.ro.length (a.ro.flatMap fI) :: Eng.ro tRd 5 x.dv x.rs.length (x.rs.flatMap fR) :: rows) (Lr := [bx g tCh cs]) (e := shE x a fv l) (Hp.perm h (List.perm_append_comm (l₁ := [bx g tCh cs]))) shE_sm (fun w hw => ?_) fun k hk => ?_) (List.Perm.swap _ _ _))
 ·have rw' : ∀ {c n v xs}, Has rows c v n xs → SlC w c v n xs := fun ⟨e, he, hq, _⟩ => hq w (hw e (by simp [he]))
  refine ⟨⟨ownsRow_sl (hw (Eng.ro tHs 1 x.sv a.k (x.ls.flatMap fV)) (by simp)), fun i v hv => rw' (hls i v hv), ownsRow_sl (hw (Eng.ro tIn 1 x.rv a.ro.length (a.ro.flatMap fI)) (by simp)), ownsRow_sl (hw (Eng.ro tRd 5 x.dv x.rs.length (x.rs.flatMap fR)) (by simp)), hrs, fun r hr => ⟨rw' (hro r hr), rw' (hgo r hr)⟩⟩, ?_⟩
  rcases hfv with ⟨rfl, rfl⟩ | hfv
  ·exact ⟨rfl, .inl ⟨rfl, rfl⟩⟩
  ·exact rw' hfv
 ·have kk : ∀ {c n v xs}, Has rows c v n xs → k ∈ kB v → ∃ y ∈ Eng.ro tHs 1 x.sv a.k (x.ls.flatMap fV) :: Eng.ro tIn 1 x.rv a.ro.length (a.ro.flatMap fI) :: Eng.ro tRd 5 x.dv x.rs.length (x.rs.flatMap fR) :: rows, k ∈ y.ks := fun ⟨e, he, _, hq⟩ hk => ⟨e, by simp [he], hq k hk⟩
  simp only [kS, List.mem_append] at hk
  rcases hk with (hk | hk | hk | hk | hk) | hk
  ·exact ⟨_, List.mem_cons_self, hk⟩
  ·exact ⟨_, List.mem_cons_of_mem _ List.mem_cons_self, hk⟩
  ·exact ⟨_, List.mem_cons_of_mem _ (List.mem_cons_of_mem _ List.mem_cons_self), hk⟩
  ·obtain ⟨v, hv, hkv⟩ := List.mem_flatMap.1 hk
   obtain ⟨i, hi, rfl⟩ := List.getElem_of_mem hv
   exact kk (hls i _ (List.getElem?_eq_getElem hi)) hkv
  ·obtain ⟨r, hr, hkr⟩ := List.mem_flatMap.1 hk
   rcases List.mem_append.1 hkr with h1 | h1
   ·exact kk (hro r hr) h1
   ·exact kk (hgo r hr) h1
  ·rcases hfv with ⟨rfl, _⟩ | hfv
   ·simp [kB, Value.ownBlock] at hk
   ·exact kk hfv hk
theorem has_S {rows : List Et} {a : Ab} {us : List Value} (hs : ∀ e ∈ ros tHd 11 (rwS a us), e ∈ rows) : ∀ (i : Nat) (v : Value), us[i]? = some v → Has rows 11 v (Srd.store a i).length ((Srd.store a i).flatMap fH) := fun i v hv =>
 Has.ros (r := ⟨v, (Srd.store a i).length, (Srd.store a i).flatMap fH⟩) hs (by
  unfold rwS
  rw [List.mem_iff_getElem?]
  exact ⟨i, by rw [List.getElem?_mapIdx, hv]; rfl⟩)
theorem has_O {rows : List Et} {rs : List RV} (hs : ∀ e ∈ ros tIn 1 (rwO rs), e ∈ rows) : ∀ r ∈ rs, Has rows 1 r.2.1 r.1.ro.length (r.1.ro.flatMap fI) := fun r hr =>
 Has.ros (r := ⟨r.2.1, r.1.ro.length, r.1.ro.flatMap fI⟩) hs (List.mem_map.2 ⟨r, hr, rfl⟩)
theorem has_G {rows : List Et} {a : Ab} {rs : List RV} (hs : ∀ e ∈ ros tFt 10 (rwG a rs), e ∈ rows) : ∀ r ∈ rs, Has rows 10 r.2.2 (got a r.1).length ((got a r.1).flatMap fF) := fun r hr =>
 Has.ros (r := ⟨r.2.2, (got a r.1).length, (got a r.1).flatMap fF⟩) hs (List.mem_map.2 ⟨r, hr, rfl⟩)
abbrev f0 : Ft := ⟨0, 0, 0, 0, 0, 0, 0, 0, 0, 0⟩
abbrev tX : TypeId := 44
abbrev vX (k : Int) (f : Ft) (s t m r : Int) : Value := .agg #[.int .i64 k, .int .i64 f.tr, .int .i64 f.sp, .int .i64 f.sv, .int .i64 f.ve, .int .i64 f.op, .int .i64 f.pe, .int .i64 f.da, .int .i64 f.lo, .int .i64 f.hi, .int .i64 f.by', .int .i64 s, .int .i64 t, .int .i64 m, .int .i64 r]
abbrev fX (k : Int) (f : Ft) (s t m r : Int) : List Value := [.int .i64 k, .int .i64 f.tr, .int .i64 f.sp, .int .i64 f.sv, .int .i64 f.ve, .int .i64 f.op, .int .i64 f.pe, .int .i64 f.da, .int .i64 f.lo, .int .i64 f.hi, .int .i64 f.by', .int .i64 s, .int .i64 t, .int .i64 m, .int .i64 r]
def Done (g : Nat) (S : List Nat) (w0 w' : World) (a' : Ab) (l : List Ft) : Prop := ∃ (x' : Sx) (fv : Value), Hp S w0 w' [bx g tCh (cS x' a' ++ [fv]), shE x' a' fv l]
structure Cin (g : Nat) (S : List Nat) (w : World) (x : Sx) (a : Ab) : Prop where
 h : Hp S w w (chL g x a (.slice none 0 0))
 ok : Srd.Ok a
 rs : x.rs.map (·.1) = a.rd
 ls : x.ls.length = a.k
theorem c_beginT {w0 : World} {g : Nat} {S : List Nat} {x : Sx} {a : Ab} {s t : Int} (hc : Cin g S w0 x a) (h0 : a.mv.ph = 0) (hs : 0 ≤ s ∧ s ≤ 7) (ht : 0 ≤ t ∧ t < a.k) (hne : Srd.roAt a.ro s ≠ t) :
 Calls Tryz.prog 25 #[pr g 0, vX 2 f0 s t 0 0] w0 (Ret fun r w' => Done g S w0 w' { a with mv := ⟨1, s, Srd.roAt a.ro s, t, -1⟩ } []) := by
 have hO := hc.ok
 have hk := hO.k
 have p2 : 0 ≤ t ∧ t ≤ (a.k : Int) - 1 := by omega
 have hrl := hO.ro.len
 have sr : Seg (a.ro.flatMap fI) (s.toNat * 1) (fI (Srd.roAt a.ro s)) := ro_seg hO hs hrl
 apply e_shard_change_begin
 unfold s_shard_change_begin
 have h := hc.h
 unfold chL at h
 refine bxA h fun g1 w h => ?_
 refine NcP_ok ?_
 replace h := h.dr
 refine dfS (dfS (dfS (dfS (dl1 h 1 rfl rfl (Dv_eqT (by omega) (GdP_T (dfS (GdP_T (dl1 h 0 rfl rfl (Gd_T (cl1 h n_shard_in (c_inT hs) fun w h => ?_)))))))))))
 refine PickP_T (GdP_T (dfS (GdP_T (dl1 h 0 rfl rfl (GdP_T (GdP_T (NcP_ok ?_)))))))
 refine GdP_T (dfS (GdP_T (dfS (GdP_T (dfS (GdP_T (dl1 h 1 rfl rfl (GdP_T (dlS (qZ 2 h rfl) ?_)))))))))
 refine GdP_T (Dv_su (by omega) (by omega) (Gd_T (cl1 h n_shard_in (c_inT p2) fun w h => ?_)))
 refine PickP_T (GdP_T (GdP_T (NcP_ok ?_)))
 refine GdP_T (dfS (GdP_T (dfS (GdP_T (dfS (GdP_T (dl1 h 1 rfl rfl (GdP_T (dfS (GdP_T (dl1 h 0 rfl rfl (GdP_T (diRz h 3 rfl (by omega) (by omega) fun zg zk zv => ?_)))))))))))))
 refine GdP_T (dr0 h 3 rfl ‹_› sr (by rfl) ?_)
 refine GdP_T (dfS (GdP_T (dl1 h 0 rfl rfl (GdP_T (Dv_neT (by omega) (PickP_T (cl1 h n_shard_must c_mustT fun w h => ?_)))))))
 replace h := h.dr
 refine dfS (dl1 h 0 rfl rfl (NcP_ok ?_))
 refine dfS (dfS (dfS (dl1 h 1 rfl rfl (dfS (dl1 h 0 rfl rfl (diRz h 3 rfl (by omega) (by omega) fun zg zk zv => ?_))))))
 refine dr0 h 3 rfl ‹_› sr (by rfl) ?_
 refine dfS (dl1 h 0 rfl rfl (dbS (PC.cons (by rfl) (PC.cons (by rfl) (PC.cons (by rfl) (PC.cons (by rfl) (PC.cons (by rfl) PC.nil))))) (by rfl) ?_))
 refine NcP_ok ?_
 refine dfS (dfS (dfS (stA h 1 rfl rfl rfl rfl fun w h => ?_)))
 dsimp only [List.set] at h
 have h := h.drop 1
 have e8 := hrl
 rw [← e8] at h
 exact Ret.mk ⟨x, .slice none 0 0, fin_rows (a := { a with mv := ⟨1, s, Srd.roAt a.ro s, t, -1⟩ }) rfl h (fun i v hv => by
  rw [Srd.store_beg hO h0]
  exact has_S (us := x.ls) (fun e he => by simp [he]) i v hv) hc.rs (has_O fun e he => by simp [he]) (has_G (a := a) fun e he => by simp [he]) (.inl ⟨rfl, rfl⟩)⟩
theorem rwS_at {a : Ab} {us : List Value} {i : Nat} {v : Value} (h : us[i]? = some v) : (rwS a us)[i]? = some ⟨v, (Srd.store a i).length, (Srd.store a i).flatMap fH⟩ := by
 unfold rwS; rw [List.getElem?_mapIdx, h]; rfl
theorem chL_take {S : List Nat} {w0 w : World} {g : Nat} {x : Sx} {a : Ab} {fv : Value} {i : Nat} {v : Value} (h : Hp S w0 w (chL g x a fv)) (hi : x.ls[i]? = some v) :
 Hp S w0 w (ro tHd 11 v (Srd.store a i).length ((Srd.store a i).flatMap fH) :: bx g tCh (cS x a ++ [fv]) :: ro tHs 1 x.sv a.k (x.ls.flatMap fV) :: ro tIn 1 x.rv 8 (a.ro.flatMap fI) :: ro tRd 5 x.dv x.rs.length (x.rs.flatMap fR) :: (ros tHd 11 ((rwS a x.ls).eraseIdx i) ++ (ros tIn 1 (rwO x.rs) ++ ros tFt 10 (rwG a x.rs)))) := by
 unfold chL at h
 have h1 := Hp.perm h (List.perm_append_comm (l₁ := [_, _, _, _]) (l₂ := ros tHd 11 (rwS a x.ls) ++ (ros tIn 1 (rwO x.rs) ++ ros tFt 10 (rwG a x.rs))))
 rw [List.append_assoc] at h1
 have h2 := ros_take (rwS_at hi) h1
 rw [← List.append_assoc] at h2
 refine Hp.perm h2 ?_
 exact List.Perm.cons _ (List.perm_append_comm (l₂ := [_, _, _, _]))
theorem has_E {rows : List Et} {a : Ab} {us : List Value} {k : Nat} (hs : ∀ e ∈ ros tHd 11 ((rwS a us).eraseIdx k), e ∈ rows) {i : Nat} {v : Value} (hne : i ≠ k) (hv : us[i]? = some v) : Has rows 11 v (Srd.store a i).length ((Srd.store a i).flatMap fH) :=
 Has.ros (r := ⟨v, (Srd.store a i).length, (Srd.store a i).flatMap fH⟩) hs (List.mem_eraseIdx_iff_getElem?.2 ⟨i, hne, rwS_at hv⟩)
theorem got_put {a : Ab} {f : Ft} {r : Rd} (h : 0 ≤ r.up ∧ r.up ≤ a.A.length) : got { a with A := a.A ++ [f] } r = got a r := by
 rw [Srd.got_eq (a := { a with A := a.A ++ [f] }) h.1, Srd.got_eq h.1, Srd.all_put, List.take_append_of_le_length (by rw [Srd.all_len]; omega)]
theorem set_fV {l : List Value} {i : Nat} {u : Value} : (l.flatMap fV).set (0 + i * 1) u = (l.set i u).flatMap fV := by
 have e : ∀ l : List Value, l.flatMap fV = l := fun l => by rw [List.flatMap_def]; induction l <;> simp_all
 rw [e, e, Nat.zero_add, Nat.mul_one]
theorem cmp_sam {f g : Ft} : cmpF f g = 0 ↔ sam f g := by
 unfold cmpF Srd.sam
 by_cases h1 : f.tr < g.tr
 ·simp [h1]; omega
 ·by_cases h2 : g.tr < f.tr
  ·simp [h1, h2]; omega
  ·by_cases h3 : f.sp < g.sp
   ·simp [h1, h2, h3]; omega
   ·by_cases h4 : g.sp < f.sp
    ·simp [h1, h2, h3, h4]; omega
    ·simp [h1, h2, h3, h4]; omega
theorem c_put1 {w0 : World} {g : Nat} {f : Ft} {y : Hd} {k s t m r : Int} (hb : Blk w0 g tX (fX k f s t m r)) : Calls Tryz.prog 60 #[vH y, pr g 0] w0 (Ret fun r w' => Ext w0 w' ∧ r = .bool (decide (cmpF y.1 f = 0))) := by
 have cc1 := fun {W : World} (_ : Ext w0 W) => c_order (w := W) (f := y.1) (g := f)
 apply e_shard_change_put_1
 unfold s_shard_change_put_1
 have h := Hp.init [] w0
 by_cases he : cmpF y.1 f = 0
 ·rw [decide_eq_true he]
  refine bxA h fun g1 w h => ?_
  refine faS (ldA h 0 rfl rfl ?_)
  refine faS (lgA h ‹_› (by rfl) ?_)
  refine cl1 h n_shard_order (cc1 h.ext) fun w h => ?_
  refine Bn_eqT (by omega) ?_
  exact Ret.mk ⟨h.ext, rfl⟩
 ·rw [decide_eq_false he]
  refine bxA h fun g1 w h => ?_
  refine faS (ldA h 0 rfl rfl ?_)
  refine faS (lgA h ‹_› (by rfl) ?_)
  refine cl1 h n_shard_order (cc1 h.ext) fun w h => ?_
  refine Bn_eqF (by omega) ?_
  exact Ret.mk ⟨h.ext, rfl⟩
section
variable {w0 : World} {g : Nat} {S : List Nat} {x : Sx} {a : Ab} {f : Ft} (hc : Cin g S w0 x a) (hv : VF f)
include hc hv
set_option maxHeartbeats 8000000 in
theorem c_putT (hn : a.A.length < 400) (hd : ∀ y ∈ a.A, ¬ sam y f) :
 Calls Tryz.prog 24 #[pr g 0, vX 1 f 0 0 0 0] w0 (Ret fun r w' => Done g S w0 w' { a with A := a.A ++ [f] } []) := by
 have hO := hc.ok
 have hk := hO.k
 have hrl := hO.ro.len
 have hs7 := Srd.slot_bd hv
 have hat := Srd.roAt_bd hO.ro hs7
 obtain ⟨z, hz⟩ : ∃ z : Int, z = Srd.roAt a.ro (f.tr % 8) := ⟨_, rfl⟩
 have hat : 0 ≤ z ∧ z < a.k := by rw [hz]; exact hat
 refine Exists.elim (p := fun v => x.ls[z.toNat]? = some v) ⟨_, List.getElem?_eq_getElem (by rw [hc.ls]; omega)⟩ fun v hvx => ?_
 have cv := fun W : World => c_VF (w0 := W) (FI.of hv)
 rw [decide_eq_true hv] at cv
 have sr : Seg (a.ro.flatMap fI) ((f.tr % 8).toNat * 1) (fI z) := by rw [hz]; exact ro_seg hO hs7 hrl
 have sv : Seg (x.ls.flatMap fV) (z.toNat * 1) (fV v) := flat_seg (f := fV) (fun _ => rfl) hvx
 have hzz : ((z.toNat : Nat) : Int) = z := by omega
 have h := chL_take hc.h hvx
 rw [hzz] at h
 have hsl : (Srd.store a z).length ≤ 400 := Nat.le_trans (Srd.store_len a z) hO.nA
 apply e_shard_change_put
 unfold s_shard_change_put
 refine bxA h fun g1 w h => ?_
 refine faS (ldA h 0 rfl rfl ?_)
 refine cl1 h n_trace_ValidFact (cv _) fun w h => ?_
 refine Gd_T (Gd_T (Nc_ok ?_))
 refine Gd_T (faS (Gd_T (faS (Gd_T (faS (Gd_T (ld1 h 2 rfl rfl (Gd_T (Bn_ltT (by omega) (Pick_T (cl1 h n_shard_must c_mustT fun w h => ?_)))))))))))
 refine NcP_ok ?_
 replace h := h.dr
 refine dfS (dfS (dfS (dl1 h 2 rfl rfl (NcP_ok ?_))))
 refine dfS (dfS (dfS (dl1 h 2 rfl rfl (dfS (dfS (dl1 h 0 rfl rfl (cl1 h n_shard_Slot (c_Slot hv.1) fun w h => ?_)))))))
 refine kl1 h 2 rfl rfl (kl1 h 2 rfl rfl (diRz h 4 rfl (by omega) (by omega) fun zg zk zv => ?_))
 refine dr0 h 4 rfl ‹_› sr (by rfl) ?_
 refine diRz h 3 rfl (by omega) (by omega) fun zg zk zv => ?_
 refine Nc_ok ?_
 refine lr0 h 3 rfl ‹_› ‹_› (by rfl) ?_
 have hcon := c_CoHd (w0 := w) (p := fun y => decide (cmpF y.1 f = 0)) (caps := #[pr g1 0]) (qZ 1 h rfl) (by omega) n_shard_change_put_1 fun {W y} hy e => c_put1 (Blk.ext (h.get (i := 0) rfl) e)
 have hany : (Srd.store a z).any (fun y => decide (cmpF y.1 f = 0)) = false := by
  refine List.any_eq_false.2 fun y hy => ?_
  have := hd y.1 (Srd.all_mem (Srd.store_mem hy).1).1
  simpa [cmp_sam] using this
 rw [hany] at hcon
 refine cl1 h n_slices_ContainsFunc_api_Held_api_Held hcon fun w h => ?_
 refine Un_F (cl1 h n_shard_must c_mustT fun w h => ?_)
 refine NcP_ok ?_
 replace h := h.dr
 refine dr0 h 3 rfl ‹_› ‹_› (by rfl) ?_
 refine dfS (dlA h 0 rfl rfl ?_)
 refine NcP_ok ?_
 refine dfS (dfS (dfS (dl1 h 2 rfl rfl (dbS (PC.cons (by rfl) (PC.cons (by rfl) PC.nil)) (by rfl) ?_))))
 refine bs1A h (by rfl) (by decide) (by rfl) (by decide) fun v1 w h => ?_
 refine kr0 h 4 rfl ‹_› ‹_› (by rfl) ?_
 refine apR (by rfl) (by decide) h 2 rfl (qZ 0 h rfl) (by first | rfl | assumption) (by omega) fun v2 w h => ?_
 refine NcP_ok ?_
 dsimp only [List.set] at h
 have hc2 := slc_c1 (qZ 2 h rfl)
 refine stR1 h 4 rfl zv hc2.1 hc2.2 (by omega) fun w h => ?_
 dsimp only [List.set] at h
 rw [show List.set (x.ls.flatMap fV) (0 + z.toNat * 1) v2 = (x.ls.set z.toNat v2).flatMap fV from set_fV] at h
 refine Nc_ok ?_
 refine faS (faS (faS (ld1 h 3 rfl rfl (Bn_ad (by omega) (by omega) (Nc_ok ?_)))))
 refine faS (faS (faS (st1 h 3 rfl rfl rfl rfl fun w h => ?_)))
 dsimp only [List.set] at h
 have h := Hp.perm (h.drop 2) (List.perm_middle (l₁ := [_, _, _, _])).symm
 have el : ((a.A ++ [f]).length : Int) = (a.A.length : Int) + 1 := by rw [List.length_append]; rfl
 rw [← hrl, ← el] at h
 have hst := Srd.store_put hO f
 have hzf : ∀ i : Int, Srd.roAt a.ro (Srd.slot f) = i ↔ z = i := fun i => by rw [hz]; exact Iff.rfl
 refine Ret.mk ⟨{ x with ls := x.ls.set z.toNat v2 }, .slice none 0 0, fin_rows (x := { x with ls := x.ls.set z.toNat v2 }) (a := { a with A := a.A ++ [f] }) rfl h (fun i v hv => ?_) hc.rs (has_O fun e he => by simp [he]) (fun r hr => ?_) (.inl ⟨rfl, rfl⟩)⟩
 ·have hv : (x.ls.set z.toNat v2)[i]? = some v := hv
  rw [hst i]
  by_cases hi : i = z.toNat
  ·subst hi
   rw [List.getElem?_set_self (by rw [hc.ls]; omega)] at hv
   cases hv
   rw [hzz, if_pos ((hzf z).2 rfl)]
   have e1 : (Srd.store a z ++ [(f, (a.A.length : Int))]).flatMap fH = (Srd.store a z).flatMap fH ++ fH (f, (a.A.length : Int)) := by rw [List.flatMap_append]; simp
   rw [e1, List.length_append]
   exact Has.ro (t := tHd) (by simp)
  ·rw [List.getElem?_set_ne (by omega)] at hv
   rw [if_neg (fun hc => by have := (hzf i).1 hc; omega), List.append_nil]
   exact has_E (us := x.ls) (k := z.toNat) (fun e he => by simp [he]) hi hv
 ·have hra : r.1 ∈ a.rd := by rw [← hc.rs]; exact List.mem_map.2 ⟨r, hr, rfl⟩
  rw [got_put (hO.rd _ hra).up]
  exact has_G (a := a) (rs := x.rs) (fun e he => by simp [he]) r hr
theorem c_putF (hno : ¬ (a.A.length < 400 ∧ ∀ y ∈ a.A, ¬ sam y f)) : Calls Tryz.prog 24 #[pr g 0, vX 1 f 0 0 0 0] w0 (Fai cR S w0) := by
 have hO := hc.ok
 have hk := hO.k
 have hrl := hO.ro.len
 have hs7 := Srd.slot_bd hv
 have hat := Srd.roAt_bd hO.ro hs7
 obtain ⟨z, hz⟩ : ∃ z : Int, z = Srd.roAt a.ro (f.tr % 8) := ⟨_, rfl⟩
 have hat : 0 ≤ z ∧ z < a.k := by rw [hz]; exact hat
 refine Exists.elim (p := fun v => x.ls[z.toNat]? = some v) ⟨_, List.getElem?_eq_getElem (by rw [hc.ls]; omega)⟩ fun v hvx => ?_
 have cv := fun W : World => c_VF (w0 := W) (FI.of hv)
 rw [decide_eq_true hv] at cv
 have sr : Seg (a.ro.flatMap fI) ((f.tr % 8).toNat * 1) (fI z) := by rw [hz]; exact ro_seg hO hs7 hrl
 have sv : Seg (x.ls.flatMap fV) (z.toNat * 1) (fV v) := flat_seg (f := fV) (fun _ => rfl) hvx
 have hzz : ((z.toNat : Nat) : Int) = z := by omega
 have h := chL_take hc.h hvx
 rw [hzz] at h
 have hsl : (Srd.store a z).length ≤ 400 := Nat.le_trans (Srd.store_len a z) hO.nA
 obtain ⟨R, hR⟩ : ∃ R, R = Fai cR S w0 := ⟨_, rfl⟩
 rw [← hR]
 apply e_shard_change_put
 unfold s_shard_change_put
 refine bxA h fun g1 w h => ?_
 refine faS (ldA h 0 rfl rfl ?_)
 refine cl1 h n_trace_ValidFact (cv _) fun w h => ?_
 by_cases hn : a.A.length < 400
 ·have hex : (Srd.store a z).any (fun y => decide (cmpF y.1 f = 0)) = true := by
   have : ¬ ∀ y ∈ a.A, ¬ sam y f := fun hq => hno ⟨hn, hq⟩
   have : ∃ y ∈ a.A, sam y f := by
    apply Classical.byContradiction
    intro hq
    exact this fun y hy hs => hq ⟨y, hy, hs⟩
   obtain ⟨y, hy, hs⟩ := this
   obtain ⟨n, hn, rfl⟩ := List.getElem_of_mem hy
   have hm : (a.A[n], (n : Int)) ∈ Srd.all a := List.mem_of_getElem? (Srd.all_get (List.getElem?_eq_getElem hn))
   have ho := Srd.own_owner hm
   have hsl : Srd.slot a.A[n] = f.tr % 8 := by
    show a.A[n].tr % 8 = f.tr % 8
    rw [hs.1]
   rw [hsl, ← hz] at ho
   exact List.any_eq_true.2 ⟨_, ho, decide_eq_true (cmp_sam.2 hs)⟩
  refine Gd_T (Gd_T (Nc_ok ?_))
  refine Gd_T (faS (Gd_T (faS (Gd_T (faS (Gd_T (ld1 h 2 rfl rfl (Gd_T (Bn_ltT (by omega) (Pick_T (cl1 h n_shard_must c_mustT fun w h => ?_)))))))))))
  refine NcP_ok ?_
  replace h := h.dr
  refine dfS (dfS (dfS (dl1 h 2 rfl rfl (NcP_ok ?_))))
  refine dfS (dfS (dfS (dl1 h 2 rfl rfl (dfS (dfS (dl1 h 0 rfl rfl (cl1 h n_shard_Slot (c_Slot hv.1) fun w h => ?_)))))))
  refine kl1 h 2 rfl rfl (kl1 h 2 rfl rfl (diRz h 4 rfl (by omega) (by omega) fun zg zk zv => ?_))
  refine dr0 h 4 rfl ‹_› sr (by rfl) ?_
  refine diRz h 3 rfl (by omega) (by omega) fun zg zk zv => ?_
  refine Nc_ok ?_
  refine lr0 h 3 rfl ‹_› ‹_› (by rfl) ?_
  have hcon := c_CoHd (w0 := w) (p := fun y => decide (cmpF y.1 f = 0)) (caps := #[pr g1 0]) (qZ 1 h rfl) (by omega) n_shard_change_put_1 fun {W y} hy e => c_put1 (Blk.ext (h.get (i := 0) rfl) e)
  rw [hex] at hcon
  refine cl1 h n_slices_ContainsFunc_api_Held_api_Held hcon fun w h => ?_
  refine Un_T ?_
  exact clp h n_shard_must c_mustF hR
 ·refine Gd_T (Gd_T (Nc_ok ?_))
  refine Gd_T (faS (Gd_T (faS (Gd_T (faS (Gd_T (ld1 h 2 rfl rfl (Gd_T (Bn_ltF (by omega) (Pick_T ?_))))))))))
  exact clp h n_shard_must c_mustF hR
end
section
variable {w0 : World} {g k : Nat} {sv rv dv fv : Value} {nx : Int} {m : Mv} {ls : List Value} {v : Value} {l : List Hd}
abbrev cC (sv rv dv fv : Value) (nx : Int) (m : Mv) : List Value := [sv, rv, .int .i64 nx, .int .i64 m.ph, .int .i64 m.sl, .int .i64 m.fr, .int .i64 m.to, .int .i64 m.cp, dv, fv]
variable (hsv : SlC w0 1 sv k (ls.flatMap fV)) (hfr : 0 ≤ m.fr ∧ m.fr < k) (hv : ls[m.fr.toNat]? = some v) (hl : SlC w0 11 v l.length (l.flatMap fH)) (hn : l.length ≤ 1000) (ht : ∀ x ∈ l, 0 ≤ x.1.tr ∧ x.1.tr ≤ 999)
include hsv hfr hv hl hn ht
theorem c_rest (hb : Blk w0 g tCh (cC sv rv dv fv nx m)) : Calls Tryz.prog 65 #[pr g 0] w0 (Ret fun r w' => ∃ u, r = u ∧ Hp [] w0 w' [ro tHd 11 u (ofS m.sl l).length ((ofS m.sl l).flatMap fH)]) := by
 have ss : Seg (ls.flatMap fV) (m.fr.toNat * 1) (fV v) := flat_seg (f := fV) (fun _ => rfl) hv
 have cr5 := fun {W : World} (e : Ext w0 W) => c_ofSlot (w0 := W) (s := m.sl) (hl.ext e) hn ht
 apply e_shard_change_rest
 unfold s_shard_change_rest
 have h := Hp.init [] w0
 refine NcP_ok ?_
 replace h := h.dr
 refine dfS (dfS (dfS (dg1 h ‹_› (by rfl) ?_)))
 refine NcP_ok ?_
 refine dfS (dfS (dfS (dfS (dg1 h ‹_› (by rfl) ?_))))
 refine diHz h ‹_› (by omega) (by omega) fun zb zo zk zv zc => ?_
 refine dh0 h ‹_› ‹_› (by rfl) ?_
 refine NcP_ok ?_
 refine dfS (dfS (dfS (dfS (dg1 h ‹_› (by rfl) ?_))))
 refine clR h n_shard_ofSlot (cr5 h.ext) fun v1 w h => ?_
 exact Ret.mk ⟨_, rfl, h⟩
theorem c_end (hb : Blk w0 g tCh (cC sv rv dv fv nx m)) : Calls Tryz.prog 66 #[pr g 0] w0 (Ret fun r w' => r = .tuple #[] ∧ Hp [g] w0 w' [bx g tCh (cC sv rv dv fv nx (if (ofS m.sl l).length = 0 then mv0 else m))]) := by
 have hr := c_rest hsv hfr hv hl hn ht hb
 have h : Hp [g] w0 w0 [bx g tCh (cC sv rv dv fv nx m)] := (Hp.init [g] w0).nw (bx_at hb) (fun k hk => by
  have : k = g := by simpa using hk
  subst this
  exact ⟨hb.lt, .inr (by simp)⟩) (by simp)
 have hol : (ofS m.sl l).length ≤ l.length := List.length_filter_le _ _
 apply e_shard_change_end
 unfold s_shard_change_end
 refine clR (T := fun v => v) h n_shard_change_rest hr fun u w h => ?_
 by_cases h0 : (ofS m.sl l).length = 0
 ·rw [if_pos h0]
  refine leS (qZ 0 h rfl) ?_
  refine Bn_eqT (by omega) (If_T (bdS PC.nil (by rfl) ?_))
  refine Nc_ok ?_
  refine faS (faS (faS (stA h 1 rfl rfl rfl rfl fun w h => ?_)))
  dsimp only [List.set] at h
  exact Ret.mk ⟨rfl, h.drop 1⟩
 ·rw [if_neg h0]
  refine leS (qZ 0 h rfl) ?_
  refine Bn_eqF (by omega) (If_F ?_)
  exact Ret.mk ⟨rfl, h.drop 1⟩
end
theorem set_fI {l : List Int} {i : Nat} {u : Int} : (l.flatMap fI).set (0 + i * 1) (.int .i64 u) = (l.set i u).flatMap fI := by
 rw [Nat.zero_add, Nat.mul_one]
 induction l generalizing i with
 | nil => rfl
 | cons x l ih =>
  cases i with
  | zero => rfl
  | succ i => exact congrArg (Value.int .i64 x :: ·) ih
theorem cl_end {S : List Nat} {w0 w : World} {L : List Et} {g k : Nat} {sv rv dv fv : Value} {nx : Int} {m : Mv} {ls : List Value} {v : Value} {l : List Hd} {pan : List PanicEntry → World → Prop} {K : Value → World → Prop} (h : Hp S w0 w (bx g tCh (cC sv rv dv fv nx m) :: L))
 (hsv : SlC w 1 sv k (ls.flatMap fV)) (hfr : 0 ≤ m.fr ∧ m.fr < k) (hv : ls[m.fr.toNat]? = some v) (hl : SlC w 11 v l.length (l.flatMap fH)) (hn : l.length ≤ 1000) (ht : ∀ x ∈ l, 0 ≤ x.1.tr ∧ x.1.tr ≤ 999)
 (hk : ∀ w1, Hp S w0 w1 (bx g tCh (cC sv rv dv fv nx (if (ofS m.sl l).length = 0 then mv0 else m)) :: L) → K (.tuple #[]) w1) : Cl Tryz.prog 66 #[pr g 0] w pan K := by
 refine Cl_i n_shard_change_end (c_end hsv hfr hv hl hn ht (h.get (i := 0) rfl)) ?_
 rintro _ w1 ⟨rfl, h'⟩
 refine hk w1 (Hp.call (Lc := [bx g tCh (cC sv rv dv fv nx m)]) (L' := [bx g tCh (cC sv rv dv fv nx (if (ofS m.sl l).length = 0 then mv0 else m))]) h ?_ fun e he => ?_)
 ·have e : ([bx g tCh (cC sv rv dv fv nx m)] : List Et).flatMap Et.ks = [g] := by simp
  rw [e]; exact h'
 ·rw [List.mem_singleton.1 he]; exact bx_sm
section
variable {w0 : World} {g : Nat} {S : List Nat} {x : Sx} {a : Ab} (hc : Cin g S w0 x a)
include hc
set_option maxHeartbeats 8000000 in
theorem c_overT (h1 : a.mv.ph = 1) (hn : Srd.nums a a.mv.sl (a.mv.cp + 1) a.A.length = []) :
 Calls Tryz.prog 27 #[pr g 0, vX 4 f0 0 0 0 0] w0 (Ret fun r w' => Done g S w0 w' (Srd.endd { a with ro := a.ro.set a.mv.sl.toNat a.mv.to, mv := { a.mv with ph := 2, cp := 0 }, lo := 0, hi := a.A.length }) []) := by
 have hO := hc.ok
 have hk := hO.k
 have hrl := hO.ro.len
 have hm := hO.mv
 have h0 : a.mv.ph ≠ 0 := by omega
 have hs := hm.sl h0
 have hfr := hm.fr h0
 have hto := hm.to h0
 have hne := hm.ne h0
 refine Exists.elim (p := fun v => x.ls[a.mv.fr.toNat]? = some v) ⟨_, List.getElem?_eq_getElem (by rw [hc.ls]; omega)⟩ fun v hvx => ?_
 have hzz : ((a.mv.fr.toNat : Nat) : Int) = a.mv.fr := by omega
 have h := chL_take hc.h hvx
 rw [hzz] at h
 have hsl : (Srd.store a a.mv.fr).length ≤ 400 := Nat.le_trans (Srd.store_len a a.mv.fr) hO.nA
 have hol : (ofS a.mv.sl (Srd.store a a.mv.fr)).length ≤ (Srd.store a a.mv.fr).length := List.length_filter_le _ _
 have hall := Srd.sw_all hO h1 hn
 obtain ⟨b, hb⟩ : ∃ b : Ab, b = { a with ro := a.ro.set a.mv.sl.toNat a.mv.to, mv := { a.mv with ph := 2, cp := 0 }, lo := 0, hi := a.A.length } := ⟨_, rfl⟩
 have hst := Srd.store_sw hO h1 hn
 rw [← hb] at hst ⊢
 apply e_shard_change_over
 unfold s_shard_change_over
 refine bxA h fun g1 w h => ?_
 refine Nc_ok ?_
 refine faS (faS (faS (faS (ld1 h 2 rfl rfl (Bn_eqT (by omega) (cl1 h n_shard_must c_mustT fun w h => ?_))))))
 refine clR (T := fun v => v) h n_shard_change_rest (c_rest (m := a.mv) (qZ 3 h rfl) hfr hvx (qZ 1 h rfl) (by omega) (tr_store hO) (h.get (i := 2) rfl)) fun u w h => ?_
 revert h; revert w; apply meet
 ·intro w lfT h
  by_cases hz : (ofS a.mv.sl (Srd.store a a.mv.fr)).length = 0
  ·replace h := h.dr
   refine dlS (qZ 0 h rfl) ?_
   refine Dv_eqT (by omega) (GdP_TF (GdP_TF (GdP_TF (GdP_TF (GdP_TF (GdP_TF (GdP_TF (GdP_TF (GdP_TF (GdP_TF (GdP_TF (GdP_TF (GdP_TF (GdP_TF (GdP_TF (PickP_T (cl1 h n_shard_must c_mustT fun w h => ?_)))))))))))))))))
   exact lfT _ h
  ·refine Exists.elim (p := fun y => (ofS a.mv.sl (Srd.store a a.mv.fr))[(ofS a.mv.sl (Srd.store a a.mv.fr)).length - 1]? = some y) ⟨_, List.getElem?_eq_getElem (by omega)⟩ fun y hy => ?_
   have sy : Seg ((ofS a.mv.sl (Srd.store a a.mv.fr)).flatMap fH) ((((ofS a.mv.sl (Srd.store a a.mv.fr)).length : Int) - 1).toNat * 11) (fH y) := by
    rw [show (((ofS a.mv.sl (Srd.store a a.mv.fr)).length : Int) - 1).toNat = (ofS a.mv.sl (Srd.store a a.mv.fr)).length - 1 by omega]
    exact flat_seg (f := fH) (fun _ => rfl) hy
   have hyl := hall y (List.mem_of_getElem? hy)
   replace h := h.dr
   refine dlS (qZ 0 h rfl) ?_
   refine Dv_eqF (by omega) (GdP_F (GdP_F (GdP_F (dlS (qZ 0 h rfl) ?_))))
   refine GdP_F (Dv_su (by omega) (by omega) (GdP_F (diRz h 0 rfl (by omega) (by omega) fun zg zk zv => ?_)))
   refine GdP_F (dfS (GdP_F (dr1 h 0 rfl ‹_› sy (by rfl) ?_)))
   refine GdP_F (GdP_F (NcP_ok ?_))
   refine GdP_F (dfS (GdP_F (dfS (GdP_F (dfS (GdP_F (dfS (GdP_F (dl1 h 3 rfl rfl (GdP_F (Dv_leT (by omega) (PickP_F (cl1 h n_shard_must c_mustT fun w h => ?_)))))))))))))
   exact lfT _ h
 intro w h
 refine NcP_ok ?_
 replace h := h.dr
 refine dfS (dfS (dfS (dl1 h 3 rfl rfl (NcP_ok ?_))))
 refine dfS (dfS (dfS (dfS (dl1 h 3 rfl rfl (NcP_ok ?_)))))
 refine dfS (dfS (dfS (dfS (dl1 h 3 rfl rfl (diRz h 5 rfl (by omega) (by omega) fun zg zk zv => ?_)))))
 refine stR1 h 5 rfl ‹_› (by rfl) (by rfl) (by omega) fun w h => ?_
 refine Nc_ok ?_
 refine faS (faS (faS (faS (st1 h 3 rfl rfl rfl rfl fun w h => ?_))))
 refine Nc_ok ?_
 refine faS (faS (faS (faS (st1 h 3 rfl rfl rfl rfl fun w h => ?_))))
 dsimp only [List.set] at h
 have h2 := Hp.perm (h.drop 2) (List.Perm.swap _ _ _)
 rw [set_fI] at h2
 refine cl_end (m := { a.mv with ph := 2, cp := 0 }) (nx := a.A.length) (l := Srd.store a a.mv.fr) h2 (h2.sl (i := 2) rfl) hfr hvx (h2.sl (i := 1) rfl) (by omega) (tr_store hO) fun w h => ?_
 have h := Hp.perm h (List.Perm.cons _ (List.perm_middle (l₁ := [_, _, _])).symm)
 have hb2 : b.mv.ph = 2 := by rw [hb]
 have hbr : Srd.roAt b.ro b.mv.sl = b.mv.to := by
  rw [hb]
  show Srd.roAt (a.ro.set a.mv.sl.toNat a.mv.to) a.mv.sl = a.mv.to
  rw [Srd.roAt_set hrl hs hs, if_pos rfl]
 have hbn : b.mv.fr ≠ b.mv.to := by rw [hb]; exact hne
 have hmv := Srd.endd_len hb2 hbr hbn
 have hA : b.A = a.A := by rw [hb]
 have hkk : b.k = a.k := by rw [hb]
 have hbrd : b.rd = a.rd := by rw [hb]
 have hbro : b.ro = a.ro.set a.mv.sl.toNat a.mv.to := by rw [hb]
 have hball : Srd.all b = Srd.all a := by unfold Srd.all; rw [hA]
 have e1 : b.mv = { a.mv with ph := 2, cp := 0 } := by rw [hb]
 rw [hst, e1] at hmv
 have hmv : (Srd.endd b).mv = if (ofS a.mv.sl (Srd.store a a.mv.fr)).length = 0 then mv0 else { a.mv with ph := 2, cp := 0 } := hmv
 have hcs : ∀ {L : List Et}, Hp S w0 w (bx g tCh (cC x.sv x.rv x.dv (.slice none 0 0) a.A.length (if (ofS a.mv.sl (Srd.store a a.mv.fr)).length = 0 then mv0 else { a.mv with ph := 2, cp := 0 })) :: L) → Hp S w0 w (bx g tCh (cC x.sv x.rv x.dv (.slice none 0 0) a.A.length (Srd.endd b).mv) :: L) := fun {L} h => by rw [hmv]; exact h
 have h := hcs h
 rw [show a.A.length = (Srd.endd b).A.length by rw [Srd.endd_A, hA], show a.k = (Srd.endd b).k by rw [Srd.endd_k, hkk], ← hbro, ← Srd.endd_ro b] at h
 have hr8 : (Srd.endd b).ro.length = 8 := by rw [Srd.endd_ro, hbro, List.length_set]; exact hrl
 rw [← hr8] at h
 refine Ret.mk ⟨x, .slice none 0 0, fin_rows (a := Srd.endd b) rfl h (fun i v' hv => ?_) (by rw [Srd.endd_rd, hbrd]; exact hc.rs) (has_O fun e he => by simp [he]) (fun r hr => ?_) (.inl ⟨rfl, rfl⟩)⟩
 ·rw [Srd.store_endd hb2, hst]
  by_cases hi : i = a.mv.fr.toNat
  ·subst hi
   rw [hvx] at hv
   cases hv
   rw [hzz]
   exact Has.ro (t := tHd) (by simp)
  ·exact has_E (us := x.ls) (k := a.mv.fr.toNat) (fun e he => by simp [he]) hi hv
 ·rw [Srd.got_of (a := a) (by rw [Srd.endd_all, hball])]
  exact has_G (a := a) (rs := x.rs) (fun e he => by simp [he]) r hr
theorem c_overF (hno : ¬ (a.mv.ph = 1 ∧ Srd.nums a a.mv.sl (a.mv.cp + 1) a.A.length = [])) : Calls Tryz.prog 27 #[pr g 0, vX 4 f0 0 0 0 0] w0 (Fai cR S w0) := by
 have hO := hc.ok
 have hk := hO.k
 have hrl := hO.ro.len
 have hm := hO.mv
 obtain ⟨R, hR⟩ : ∃ R, R = Fai cR S w0 := ⟨_, rfl⟩
 rw [← hR]
 by_cases h1 : a.mv.ph = 1
 rotate_left
 ·have h := hc.h
  unfold chL at h
  apply e_shard_change_over
  unfold s_shard_change_over
  refine bxA h fun g1 w h => ?_
  refine Nc_ok ?_
  refine faS (faS (faS (faS (ld1 h 1 rfl rfl (Bn_eqF (by omega) ?_)))))
  exact clp h n_shard_must c_mustF hR
 have h0 : a.mv.ph ≠ 0 := by omega
 have hfr := hm.fr h0
 refine Exists.elim (p := fun v => x.ls[a.mv.fr.toNat]? = some v) ⟨_, List.getElem?_eq_getElem (by rw [hc.ls]; omega)⟩ fun v hvx => ?_
 have hzz : ((a.mv.fr.toNat : Nat) : Int) = a.mv.fr := by omega
 have h := chL_take hc.h hvx
 rw [hzz] at h
 have hsl : (Srd.store a a.mv.fr).length ≤ 400 := Nat.le_trans (Srd.store_len a a.mv.fr) hO.nA
 have hol : (ofS a.mv.sl (Srd.store a a.mv.fr)).length ≤ (Srd.store a a.mv.fr).length := List.length_filter_le _ _
 refine Exists.elim (Srd.sw_some hO h1 fun hc => hno ⟨h1, hc⟩) fun y0 hy0 => ?_
 have hz : 0 < (ofS a.mv.sl (Srd.store a a.mv.fr)).length := List.length_pos_of_mem hy0.1
 refine Exists.elim (p := fun y => (ofS a.mv.sl (Srd.store a a.mv.fr))[(ofS a.mv.sl (Srd.store a a.mv.fr)).length - 1]? = some y) ⟨_, List.getElem?_eq_getElem (by omega)⟩ fun y hy => ?_
 have sy : Seg ((ofS a.mv.sl (Srd.store a a.mv.fr)).flatMap fH) ((((ofS a.mv.sl (Srd.store a a.mv.fr)).length : Int) - 1).toNat * 11) (fH y) := by
  rw [show (((ofS a.mv.sl (Srd.store a a.mv.fr)).length : Int) - 1).toNat = (ofS a.mv.sl (Srd.store a a.mv.fr)).length - 1 by omega]
  exact flat_seg (f := fH) (fun _ => rfl) hy
 have hyl := Srd.of_last hy0.1 hy
 have hy1 := hy0.2
 apply e_shard_change_over
 unfold s_shard_change_over
 refine bxA h fun g1 w h => ?_
 refine Nc_ok ?_
 refine faS (faS (faS (faS (ld1 h 2 rfl rfl (Bn_eqT (by omega) (cl1 h n_shard_must c_mustT fun w h => ?_))))))
 refine clR (T := fun v => v) h n_shard_change_rest (c_rest (m := a.mv) (qZ 3 h rfl) hfr hvx (qZ 1 h rfl) (by omega) (tr_store hO) (h.get (i := 2) rfl)) fun u w h => ?_
 replace h := h.dr
 refine dlS (qZ 0 h rfl) ?_
 refine Dv_eqF (by omega) (GdP_F (GdP_F (GdP_F (dlS (qZ 0 h rfl) ?_))))
 refine GdP_F (Dv_su (by omega) (by omega) (GdP_F (diRz h 0 rfl (by omega) (by omega) fun zg zk zv => ?_)))
 refine GdP_F (dfS (GdP_F (dr1 h 0 rfl ‹_› sy (by rfl) ?_)))
 refine GdP_F (GdP_F (NcP_ok ?_))
 refine GdP_F (dfS (GdP_F (dfS (GdP_F (dfS (GdP_F (dfS (GdP_F (dl1 h 3 rfl rfl (GdP_F (Dv_leF (by omega) (PickP_F ?_))))))))))))
 exact clp h n_shard_must c_mustF hR
end
end Go.Proofs.YthdhnhghjecfkaaGreat
namespace Go.Proofs.YthdhnhghjecfkaaGreat
open Go Go.Eng Go.Proofs Go.RowKit
open Go.Srd (Ft VF Hd Mv mv0 Rd Ab Cmd got ltF sam srt plh ofS gotL delN delB stD)
set_option maxRecDepth 100000
theorem c_rem1 {w0 : World} {g g1 g2 m : Nat} {sv rv dv fv : Value} {nx : Int} {mv : Mv} {x : Hd} (hb : Blk w0 g tCh (cC sv rv dv fv nx mv)) (h1 : Blk w0 g1 70 [pr g 0]) (h2 : Blk w0 g2 tIn [.int .i64 (m : Int)]) (n1 : g1 ∉ [g2]) (n2 : g ∉ [g2]) (hm : m ≤ 1000000) (hv : 0 ≤ x.1.tr ∧ x.1.tr ≤ 999) :
 Calls Tryz.prog 103 #[vH x, pr g1 0, pr g2 0] w0 (Ret fun r w' => Hp [g2] w0 w' [bx g2 tIn [.int .i64 ((if Srd.slot x.1 = mv.sl ∧ m ≠ 0 then m - 1 else m : Nat) : Int)]] ∧ r = .bool (decide (Srd.slot x.1 = mv.sl ∧ m ≠ 0))) := by
 have h : Hp [g2] w0 w0 [bx g2 tIn [.int .i64 (m : Int)]] := (Hp.init [g2] w0).nw (bx_at h2) (fun k hk => by
  have : k = g2 := by simpa using hk
  subst this
  exact ⟨h2.lt, .inr (by simp)⟩) (by simp)
 by_cases hs : x.1.tr % 8 = mv.sl
 ·have hs' : Srd.slot x.1 = mv.sl := hs
  by_cases h0 : m = 0
  ·rw [if_neg (fun hc => hc.2 h0), decide_eq_false (fun hc : Srd.slot x.1 = mv.sl ∧ m ≠ 0 => hc.2 h0)]
   apply e_shard_change_remove_1
   unfold s_shard_change_remove_1
   refine bxA h fun g3 w h => ?_
   replace h := h.dr
   refine dfS (dfS (dl1 h 0 rfl rfl (dg1S h ‹_› ‹_› (by rfl) ?_)))
   refine NcP_ok ?_
   refine dfS (dfS (dfS (dfS (dg1S h ‹_› ‹_› (by rfl) ?_))))
   refine cl1 h n_shard_Slot (c_Slot hv) fun w h => ?_
   refine kg1S h ‹_› ‹_› (by rfl) ?_
   refine kg1S h ‹_› ‹_› (by rfl) ?_
   refine Dv_neF (by omega) (GdP_F (dl1 h 1 rfl rfl (GdP_F (Dv_eqT (by omega) (PickP_F (If_T ?_))))))
   exact Ret.mk ⟨h.drop 1, rfl⟩
  ·rw [if_pos ⟨hs', h0⟩, decide_eq_true (show Srd.slot x.1 = mv.sl ∧ m ≠ 0 from ⟨hs', h0⟩)]
   rw [show ((m - 1 : Nat) : Int) = (m : Int) - 1 by omega]
   apply e_shard_change_remove_1
   unfold s_shard_change_remove_1
   refine bxA h fun g3 w h => ?_
   replace h := h.dr
   refine dfS (dfS (dl1 h 0 rfl rfl (dg1S h ‹_› ‹_› (by rfl) ?_)))
   refine NcP_ok ?_
   refine dfS (dfS (dfS (dfS (dg1S h ‹_› ‹_› (by rfl) ?_))))
   refine cl1 h n_shard_Slot (c_Slot hv) fun w h => ?_
   refine kg1S h ‹_› ‹_› (by rfl) ?_
   refine kg1S h ‹_› ‹_› (by rfl) ?_
   refine Dv_neF (by omega) (GdP_F (dl1 h 1 rfl rfl (GdP_F (Dv_eqF (by omega) (PickP_F (If_F (ld1 h 1 rfl rfl (Bn_su (by omega) (by omega) (st1 h 1 rfl rfl rfl rfl fun w h => ?_)))))))))
   dsimp only [List.set] at h
   exact Ret.mk ⟨h.drop 1, rfl⟩
 ·have hs' : ¬ Srd.slot x.1 = mv.sl := hs
  rw [if_neg (fun hc => hs' hc.1), decide_eq_false (fun hc : Srd.slot x.1 = mv.sl ∧ m ≠ 0 => hs' hc.1)]
  apply e_shard_change_remove_1
  unfold s_shard_change_remove_1
  refine bxA h fun g3 w h => ?_
  replace h := h.dr
  refine dfS (dfS (dl1 h 0 rfl rfl (dg1S h ‹_› ‹_› (by rfl) ?_)))
  refine NcP_ok ?_
  refine dfS (dfS (dfS (dfS (dg1S h ‹_› ‹_› (by rfl) ?_))))
  refine cl1 h n_shard_Slot (c_Slot hv) fun w h => ?_
  refine kg1S h ‹_› ‹_› (by rfl) ?_
  refine kg1S h ‹_› ‹_› (by rfl) ?_
  refine Dv_neT (by omega) (GdP_TF (GdP_TF (PickP_T (If_T ?_))))
  exact Ret.mk ⟨h.drop 1, rfl⟩
theorem delN_len {s : Int} {m : Nat} {l : List Hd} : (delN s m l).length ≤ l.length := by
 rw [← Srd.delB_kept, List.length_map]
 refine Nat.le_trans (List.length_filter_le _ _) ?_
 rw [List.length_zip]; omega
abbrev tPc : TypeId := 70
theorem cl_delN {S : List Nat} {w0 w : World} {L : List Et} {v : Value} {l : List Hd} {g g1 g2 m : Nat} {sv rv dv fv : Value} {nx : Int} {mv : Mv} {pan : List PanicEntry → World → Prop} {K : Value → World → Prop}
 (h : Hp S w0 w (ro tHd 11 v l.length (l.flatMap fH) :: bx g2 tIn [.int .i64 (m : Int)] :: bx g1 tPc [pr g 0] :: bx g tCh (cC sv rv dv fv nx mv) :: L)) (hl : l.length ≤ 1000) (hm : m ≤ 1000000) (ht : ∀ x ∈ l, 0 ≤ x.1.tr ∧ x.1.tr ≤ 999)
 (hk : ∀ u w1, Hp S w0 w1 (ro tHd 11 u (delN mv.sl m l).length ((delN mv.sl m l).flatMap fH) :: bx g1 tPc [pr g 0] :: bx g tCh (cC sv rv dv fv nx mv) :: L) → K u w1) :
 Cl Tryz.prog 100 #[v, .func (.func 103) #[] #[pr g1 0, pr g2 0]] w pan K := by
 obtain ⟨h1, ⟨rfl, hn0⟩ | ⟨g0, cap, cur, rfl, h3, h4, h5, h6, h7, h8⟩⟩ := (h.get (i := 0) rfl : World.ownsRow _ _ _ _ _ _ _)
 ·have e : l = [] := List.eq_nil_of_length_eq_zero hn0
  subst e
  have hA : Asks [] [] 103 #[pr g1 0, pr g2 0] [] (fun _ W => Ext w W) := { len := rfl, keep := fun h hm => h.tr hm.ext, call := fun hx _ _ => by simp at hx }
  have hix := c_IxH (w0 := w) (v := .slice none 0 0) (l := []) (B := []) (bs := []) (I := fun _ W => Ext w W) n_shard_change_remove_1 hA (fun _ => ⟨rfl, .inl ⟨rfl, rfl⟩⟩) (by simp) (Ext.refl w)
  have hd : Calls Tryz.prog 100 #[.slice none 0 0, .func (.func 103) #[] #[pr g1 0, pr g2 0]] w (Ret fun r w' => Ext w w' ∧ r = .slice none 0 0) := by
   apply e_slices_DeleteFunc_api_Held_api_Held
   unfold s_slices_DeleteFunc_api_Held_api_Held
   refine Cl_i n_slices_IndexFunc_api_Held_api_Held hix ?_
   rintro _ w1 (⟨j, hj, _⟩ | ⟨_, rfl, x⟩)
   ·simp at hj
   ·have h := Hp.init [] w1
    refine Bn_eqT (by omega) (If_T ?_)
    exact Ret.mk ⟨x, rfl⟩
  refine cl1 h n_slices_DeleteFunc_api_Held_api_Held hd fun w1 h => hk _ w1 ?_
  rw [Srd.delN_nil]
  exact Hp.sub h (List.Sublist.cons_cons _ (List.Sublist.cons _ (List.Sublist.refl _)))
 ·have e : cur.toList = l.flatMap fH ++ cur.toList.drop (l.length * 11) := by rw [← h8, List.take_append_drop]
  have hb : Blk w g0 tHd (l.flatMap fH ++ cur.toList.drop (l.length * 11)) := by rw [← e]; simpa [Blk] using h4
  have hlen : (l.flatMap fH ++ cur.toList.drop (l.length * 11)).length = cap * 11 := by rw [← e, Array.length_toList, h7]
  have d1 := List.pairwise_cons.1 h.nd
  have d2 := List.pairwise_cons.1 d1.2
  have n2 : g2 ≠ g0 := fun hc => d1.1 (bx g2 tIn [.int .i64 (m : Int)]) (by simp) g0 (by simp [Value.ownBlock]) (by simp [hc])
  have n1 : g1 ≠ g0 := fun hc => d1.1 (bx g1 tPc [pr g 0]) (by simp) g0 (by simp [Value.ownBlock]) (by simp [hc])
  have n0 : g ≠ g0 := fun hc => d1.1 (bx g tCh (cC sv rv dv fv nx mv)) (by simp) g0 (by simp [Value.ownBlock]) (by simp [hc])
  have n12 : g1 ≠ g2 := fun hc => d2.1 (bx g1 tPc [pr g 0]) (by simp) g2 (by simp) (by simp [hc])
  have n02 : g ≠ g2 := fun hc => d2.1 (bx g tCh (cC sv rv dv fv nx mv)) (by simp) g2 (by simp) (by simp [hc])
  have hb2 : Blk w g2 tIn [.int .i64 (m : Int)] := h.get (i := 1) rfl
  have hb1 : Blk w g1 tPc [pr g 0] := h.get (i := 2) rfl
  have hbg : Blk w g tCh (cC sv rv dv fv nx mv) := h.get (i := 3) rfl
  have hA : AskD g0 [g2] l 103 #[pr g1 0, pr g2 0] (delB mv.sl m l) (fun j W => Mo [g0, g2] w W ∧ Blk W g2 tIn [.int .i64 (stD mv.sl m l j : Int)]) := by
   refine ⟨Srd.delB_len _ _ _, by simpa using n2.symm, fun hI hm => ⟨hI.1.tr (hm.mono (by simp)), blk_mo hI.2 hm (by simpa using n2)⟩, fun {j x b W} hx hbj hI => ?_⟩
   have ha := Srd.delB_at (s := mv.sl) (m := m) hx
   rw [ha.1] at hbj
   have hbj := Option.some.inj hbj
   have hle := Srd.stD_le (s := mv.sl) (m := m) (l := l) (j := j)
   refine (c_rem1 (m := stD mv.sl m l j) (blk_mo hbg hI.1 (by simp [n0, n02])) (blk_mo hb1 hI.1 (by simp [n1, n12])) hI.2 (by simpa using n12) (by simpa using n02) (by omega) (ht x (List.mem_of_getElem? hx))).mono fun e w' ⟨r, he, hq, hr⟩ => ⟨r, he, hq.mo, ⟨hI.1.tr (hq.mo.mono (by simp)), ?_⟩, by rw [hr, hbj]⟩
   rw [ha.2]
   exact hq.get (i := 0) rfl
  have hst0 : Blk w g2 tIn [.int .i64 (stD mv.sl m l 0 : Int)] := by
   have e0 : stD mv.sl m l 0 = m := by cases l <;> rfl
   rw [e0]; exact hb2
  refine Cl_i n_slices_DeleteFunc_api_Held_api_Held (c_DelH n_shard_change_remove_1 hA hlen h5 (by omega) ⟨.refl _ _, hst0⟩ (by simpa using hb2.lt) hb) ?_
  rintro _ w1 ⟨rfl, ⟨ys, hb3, hl3⟩, hI⟩
  have ek : kept (delB mv.sl m l) l = delN mv.sl m l := Srd.delB_kept _ _ _
  rw [ek] at hb3 hl3 ⊢
  have hfl := delN_len (s := mv.sl) (m := m) (l := l)
  have hlf := flat_len (f := fH) (c := 11) (fun _ => rfl) (delN mv.sl m l)
  have hq : Hp [g0, g2] w w1 [bx g0 tHd ((delN mv.sl m l).flatMap fH ++ ys), bx g2 tIn [.int .i64 (stD mv.sl m l l.length : Int)]] := by
   refine ⟨hI.1, fun e he => ?_, fun e he k hk => ?_, List.pairwise_cons.2 ⟨fun e he k hk hc => ?_, List.pairwise_singleton _ _⟩⟩
   ·rcases List.mem_cons.1 he with rfl | he
    ·exact bx_at hb3
    ·rw [List.mem_singleton.1 he]; exact bx_at hI.2
   ·rcases List.mem_cons.1 he with rfl | he
    ·have : k = g0 := by simpa using hk
     subst this
     exact ⟨hb3.lt, .inr (by simp)⟩
    ·rw [List.mem_singleton.1 he] at hk
     have : k = g2 := by simpa using hk
     subst this
     exact ⟨hI.2.lt, .inr (by simp)⟩
   ·rw [List.mem_singleton.1 he] at hc
    have a1 : k = g0 := by simpa using hk
    have a2 : k = g2 := by simpa using hc
    exact n2 (a2.symm.trans a1)
  have hq2 := bx_ro (c := 11) (cap := cap) (m := (delN mv.sl m l).length) hq hl3 (by omega) h6
  rw [List.take_append_of_le_length (by rw [hlf]; exact Nat.le_refl _), List.take_of_length_le (by rw [hlf]; exact Nat.le_refl _)] at hq2
  have h9 := Hp.call (Lc := [ro tHd 11 (.slice (some ⟨g0, 0, none⟩) l.length cap) l.length (l.flatMap fH), bx g2 tIn [.int .i64 (m : Int)]]) (Lr := bx g1 tPc [pr g 0] :: bx g tCh (cC sv rv dv fv nx mv) :: L) (L' := [ro tHd 11 (.slice (some ⟨g0, 0, none⟩) (delN mv.sl m l).length cap) (delN mv.sl m l).length ((delN mv.sl m l).flatMap fH), bx g2 tIn [.int .i64 (stD mv.sl m l l.length : Int)]]) h (by
   have e : ([ro tHd 11 (.slice (some ⟨g0, 0, none⟩) l.length cap) l.length (l.flatMap fH), bx g2 tIn [.int .i64 (m : Int)]] : List Et).flatMap Et.ks = [g0, g2] := by simp [Value.ownBlock]
   rw [e]; exact hq2) (fun e he => by
    rcases List.mem_cons.1 he with rfl | he
    ·exact ro_sm
    ·rw [List.mem_singleton.1 he]; exact bx_sm)
  exact hk _ w1 (Hp.sub h9 (List.Sublist.cons_cons _ (List.Sublist.cons _ (List.Sublist.refl _))))
set_option maxHeartbeats 4000000 in
theorem c_remove {S : List Nat} {w0 w : World} {L : List Et} {v : Value} {l : List Hd} {g m k : Nat} {ls : List Value} {sv rv dv fv : Value} {nx i : Int} {mv : Mv}
 (h : Hp S w0 w (ro tHd 11 v l.length (l.flatMap fH) :: bx g tCh (cC sv rv dv fv nx mv) :: ro tHs 1 sv k (ls.flatMap fV) :: L)) (hl : l.length ≤ 1000) (hm : m ≤ 1000000) (ht : ∀ x ∈ l, 0 ≤ x.1.tr ∧ x.1.tr ≤ 999) (hi : 0 ≤ i ∧ i < k) (hv : ls[i.toNat]? = some v) :
 Calls Tryz.prog 69 #[pr g 0, .int .i64 i, .int .i64 (m : Int)] w (Ret fun r w' => r = .tuple #[] ∧ ∃ u, Hp S w0 w' (ro tHd 11 u (delN mv.sl m l).length ((delN mv.sl m l).flatMap fH) :: bx g tCh (cC sv rv dv fv nx mv) :: ro tHs 1 sv k ((ls.set i.toNat u).flatMap fV) :: L)) := by
 have ss : Seg (ls.flatMap fV) (i.toNat * 1) (fV v) := flat_seg (f := fV) (fun _ => rfl) hv
 apply e_shard_change_remove
 unfold s_shard_change_remove
 refine bxA h fun g1 w h => ?_
 refine bxA h fun g2 w h => ?_
 replace h := h.dr
 refine dl1 h 1 rfl rfl (NcP_ok ?_)
 refine dfS (dfS (dfS (dl1 h 3 rfl rfl (dl1 h 1 rfl rfl (NcP_ok ?_)))))
 refine dfS (dfS (dfS (dl1 h 3 rfl rfl (diRz h 4 rfl (by omega) (by omega) fun zg zk zv => ?_))))
 refine dr0 h 4 rfl ‹_› ss (by rfl) ?_
 have h2 := Hp.perm h (List.perm_middle (l₁ := [_, _]))
 refine cl_delN h2 hl hm ht fun u w h => ?_
 refine kl1 h 1 rfl rfl (kl1 h 2 rfl rfl (diRz h 3 rfl (by omega) (by omega) fun zg zk zv => ?_))
 have hc := slc_c1 (qZ 0 h rfl)
 refine stR1 h 3 rfl zv hc.1 hc.2 (by omega) fun w h => ?_
 dsimp only [List.set] at h
 rw [show List.set (ls.flatMap fV) (0 + i.toNat * 1) u = (ls.set i.toNat u).flatMap fV from set_fV] at h
 exact Ret.mk ⟨rfl, u, Hp.sub h (List.Sublist.cons_cons _ (List.Sublist.cons _ (List.Sublist.refl _)))⟩
section
variable {w0 : World} {g : Nat} {S : List Nat} {x : Sx} {a : Ab} (hc : Cin g S w0 x a)
include hc
theorem c_crashF (h0 : a.mv.ph = 0) : Calls Tryz.prog 29 #[pr g 0, vX 6 f0 0 0 0 0] w0 (Fai cR S w0) := by
 obtain ⟨R, hR⟩ : ∃ R, R = Fai cR S w0 := ⟨_, rfl⟩
 rw [← hR]
 have h := hc.h
 unfold chL at h
 apply e_shard_change_crash
 unfold s_shard_change_crash
 refine bxA h fun g1 w h => ?_
 refine Nc_ok ?_
 refine faS (faS (faS (faS (ld1 h 1 rfl rfl (Bn_neF (by omega) ?_)))))
 exact clp h n_shard_must c_mustF hR
theorem done_same {w : World} (h : Hp S w0 w (chL g x a (.slice none 0 0))) : Done g S w0 w a [] := by
 have h := h
 unfold chL at h
 have hr8 := hc.ok.ro.len
 rw [← hr8] at h
 exact ⟨x, .slice none 0 0, fin_rows (a := a) rfl h (fun i v hv => has_S (us := x.ls) (fun e he => by simp [he]) i v hv) hc.rs (has_O fun e he => by simp [he]) (has_G (a := a) fun e he => by simp [he]) (.inl ⟨rfl, rfl⟩)⟩
theorem c_crash2 (h2 : a.mv.ph = 2) : Calls Tryz.prog 29 #[pr g 0, vX 6 f0 0 0 0 0] w0 (Ret fun r w' => Done g S w0 w' a []) := by
 have h := hc.h
 unfold chL at h
 apply e_shard_change_crash
 unfold s_shard_change_crash
 refine bxA h fun g1 w h => ?_
 refine Nc_ok ?_
 refine faS (faS (faS (faS (ld1 h 1 rfl rfl (Bn_neT (by omega) (cl1 h n_shard_must c_mustT fun w h => ?_))))))
 refine Nc_ok ?_
 refine faS (faS (faS (faS (ld1 h 1 rfl rfl (Bn_eqF (by omega) (If_F ?_))))))
 exact Ret.mk (done_same hc (h.drop 1))
set_option maxHeartbeats 4000000 in
theorem c_crash1 (h1 : a.mv.ph = 1) : Calls Tryz.prog 29 #[pr g 0, vX 6 f0 0 0 0 0] w0 (Ret fun r w' => Done g S w0 w' { a with mv := mv0 } []) := by
 have hO := hc.ok
 have hk := hO.k
 have hrl := hO.ro.len
 have hm := hO.mv
 have h0 : a.mv.ph ≠ 0 := by omega
 have hto := hm.to h0
 refine Exists.elim (p := fun v => x.ls[a.mv.to.toNat]? = some v) ⟨_, List.getElem?_eq_getElem (by rw [hc.ls]; omega)⟩ fun v hvx => ?_
 have hzz : ((a.mv.to.toNat : Nat) : Int) = a.mv.to := by omega
 have h := chL_take hc.h hvx
 rw [hzz] at h
 have hsl : (Srd.store a a.mv.to).length ≤ 400 := Nat.le_trans (Srd.store_len a a.mv.to) hO.nA
 have hst := Srd.store_cra hO h1
 apply e_shard_change_crash
 unfold s_shard_change_crash
 refine bxA h fun g1 w h => ?_
 refine Nc_ok ?_
 refine faS (faS (faS (faS (ld1 h 2 rfl rfl (Bn_neT (by omega) (cl1 h n_shard_must c_mustT fun w h => ?_))))))
 refine Nc_ok ?_
 refine faS (faS (faS (faS (ld1 h 2 rfl rfl (Bn_eqT (by omega) (If_T (Nc_ok ?_)))))))
 refine faS (faS (faS (faS (ld1 h 2 rfl rfl ?_))))
 have h2 := h.drop 1
 refine Cl_i n_shard_change_remove (c_remove (m := 400) (mv := a.mv) (nx := a.A.length) h2 (by omega) (by omega) (tr_store hO) hto hvx) ?_
 rintro _ w1 ⟨rfl, u, h⟩
 refine bdS PC.nil (by rfl) ?_
 refine Nc_ok ?_
 refine faS (faS (faS (stA h 1 rfl rfl rfl rfl fun w h => ?_)))
 dsimp only [List.set] at h
 have h := Hp.perm h (List.perm_middle (l₁ := [_, _, _, _])).symm
 rw [← hrl] at h
 refine Ret.mk ⟨{ x with ls := x.ls.set a.mv.to.toNat u }, .slice none 0 0, fin_rows (x := { x with ls := x.ls.set a.mv.to.toNat u }) (a := { a with mv := mv0 }) rfl h (fun i v' hv => ?_) hc.rs (has_O fun e he => by simp [he]) (has_G (a := a) fun e he => by simp [he]) (.inl ⟨rfl, rfl⟩)⟩
 have hv : (x.ls.set a.mv.to.toNat u)[i]? = some v' := hv
 rw [hst]
 by_cases hi : i = a.mv.to.toNat
 ·subst hi
  rw [List.getElem?_set_self (by rw [hc.ls]; omega)] at hv
  cases hv
  rw [hzz, if_pos rfl]
  exact Has.ro (t := tHd) (by simp)
 ·rw [List.getElem?_set_ne (by omega)] at hv
  rw [if_neg (by omega)]
  exact has_E (us := x.ls) (k := a.mv.to.toNat) (fun e he => by simp [he]) hi hv
end
end Go.Proofs.YthdhnhghjecfkaaGreat
namespace Go.Proofs.YthdhnhghjecfkaaGreat
open Go Go.Eng Go.Proofs Go.RowKit
open Go.Srd (Ft VF Hd Mv mv0 Rd Ab Cmd got ltF sam srt plh ofS gotL delN)
set_option maxRecDepth 100000
theorem Hp.slm {S : List Nat} {w0 w : World} {L : List Et} {t : TypeId} {c n : Nat} {v : Value} {xs : List Value} (h : Hp S w0 w L) (he : ro t c v n xs ∈ L) : SlC w c v n xs := ownsRow_sl (h.ok _ he).get
def needs (m : Mv) (r : RV) : Bool := decide (Srd.roAt r.1.ro m.sl = m.fr ∧ r.1.nx ≤ m.fr)
theorem c_drop1 {w0 : World} {g g2 : Nat} {sv rv dv fv : Value} {nx : Int} {m : Mv} {r : RV} (hb : Blk w0 g tCh (cC sv rv dv fv nx m)) (h2 : Blk w0 g2 tPc [pr g 0]) (hro : SlC w0 1 r.2.1 r.1.ro.length (r.1.ro.flatMap fI)) (hrl : r.1.ro.length = 8) (hs : 0 ≤ m.sl ∧ m.sl ≤ 7) (hO : ∃ a, Srd.Ok a) :
 Calls Tryz.prog 68 #[vR r, pr g2 0] w0 (Ret fun q w' => Ext w0 w' ∧ q = .bool (needs m r)) := by
 have sr : Seg (r.1.ro.flatMap fI) (m.sl.toNat * 1) (fI (Srd.roAt r.1.ro m.sl)) := by
  refine flat_seg (f := fI) (fun _ => rfl) ?_
  unfold Srd.roAt
  rw [List.getD_eq_getElem?_getD, List.getElem?_eq_getElem (by omega)]
  rfl
 unfold needs
 apply e_shard_change_drop_1
 unfold s_shard_change_drop_1
 have h := Hp.init [] w0
 by_cases h1 : Srd.roAt r.1.ro m.sl = m.fr
 ·by_cases h3 : r.1.nx ≤ m.fr
  ·rw [decide_eq_true ⟨h1, h3⟩]
   refine bxA h fun g1 w h => ?_
   replace h := h.dr
   refine dfS (dl1 h 0 rfl rfl (dg1 h ‹_› (by rfl) ?_))
   refine NcP_ok ?_
   refine dfS (dfS (dfS (dfS (dg1 h ‹_› (by rfl) ?_))))
   refine diHz h ‹_› (by omega) (by omega) fun zb zo zk zv zc => ?_
   refine dh0 h ‹_› ‹_› (by rfl) ?_
   refine dg1 h ‹_› (by rfl) ?_
   refine NcP_ok ?_
   refine dfS (dfS (dfS (dfS (dg1 h ‹_› (by rfl) ?_))))
   refine Dv_eqT (by omega) (GdP_T (dfS (GdP_T (dl1 h 0 rfl rfl (GdP_T (dg1 h ‹_› (by rfl) ?_))))))
   refine GdP_T (NcP_ok ?_)
   refine GdP_T (dfS (GdP_T (dfS (GdP_T (dfS (GdP_T (dfS (GdP_T (dg1 h ‹_› (by rfl) ?_)))))))))
   refine GdP_T (Dv_leT (by omega) (PickP_T ?_))
   exact Ret.mk ⟨h.ext, rfl⟩
  ·rw [decide_eq_false (fun hc => h3 hc.2)]
   refine bxA h fun g1 w h => ?_
   replace h := h.dr
   refine dfS (dl1 h 0 rfl rfl (dg1 h ‹_› (by rfl) ?_))
   refine NcP_ok ?_
   refine dfS (dfS (dfS (dfS (dg1 h ‹_› (by rfl) ?_))))
   refine diHz h ‹_› (by omega) (by omega) fun zb zo zk zv zc => ?_
   refine dh0 h ‹_› ‹_› (by rfl) ?_
   refine dg1 h ‹_› (by rfl) ?_
   refine NcP_ok ?_
   refine dfS (dfS (dfS (dfS (dg1 h ‹_› (by rfl) ?_))))
   refine Dv_eqT (by omega) (GdP_T (dfS (GdP_T (dl1 h 0 rfl rfl (GdP_T (dg1 h ‹_› (by rfl) ?_))))))
   refine GdP_T (NcP_ok ?_)
   refine GdP_T (dfS (GdP_T (dfS (GdP_T (dfS (GdP_T (dfS (GdP_T (dg1 h ‹_› (by rfl) ?_)))))))))
   refine GdP_T (Dv_leF (by omega) (PickP_T ?_))
   exact Ret.mk ⟨h.ext, rfl⟩
 ·rw [decide_eq_false (fun hc => h1 hc.1)]
  refine bxA h fun g1 w h => ?_
  replace h := h.dr
  refine dfS (dl1 h 0 rfl rfl (dg1 h ‹_› (by rfl) ?_))
  refine NcP_ok ?_
  refine dfS (dfS (dfS (dfS (dg1 h ‹_› (by rfl) ?_))))
  refine diHz h ‹_› (by omega) (by omega) fun zb zo zk zv zc => ?_
  refine dh0 h ‹_› ‹_› (by rfl) ?_
  refine dg1 h ‹_› (by rfl) ?_
  refine NcP_ok ?_
  refine dfS (dfS (dfS (dfS (dg1 h ‹_› (by rfl) ?_))))
  refine Dv_eqF (by omega) (GdP_FT (GdP_FT (GdP_FT (GdP_FT (GdP_FT (GdP_FT (GdP_FT (GdP_FT (GdP_FT (GdP_FT (PickP_F ?_)))))))))))
  exact Ret.mk ⟨h.ext, rfl⟩
section
variable {w0 : World} {g : Nat} {S : List Nat} {x : Sx} {a : Ab} {n : Nat} (hc : Cin g S w0 x a)
include hc
theorem any_needs : (x.rs.any (needs a.mv) = true) ↔ ∃ r ∈ a.rd, Srd.roAt r.ro a.mv.sl = a.mv.fr ∧ r.nx ≤ a.mv.fr := by
 rw [List.any_eq_true, ← hc.rs]
 constructor
 ·rintro ⟨r, hr, hq⟩
  exact ⟨r.1, List.mem_map.2 ⟨r, hr, rfl⟩, of_decide_eq_true hq⟩
 ·rintro ⟨r, hr, hq⟩
  obtain ⟨y, hy, rfl⟩ := List.mem_map.1 hr
  exact ⟨y, hy, decide_eq_true hq⟩
set_option maxHeartbeats 8000000 in
theorem c_dropT (h2 : a.mv.ph = 2) (hn1 : 1 ≤ n) (hn2 : n ≤ 1000000) (hw : ∀ r ∈ a.rd, ¬ (Srd.roAt r.ro a.mv.sl = a.mv.fr ∧ r.nx ≤ a.mv.fr)) :
 Calls Tryz.prog 28 #[pr g 0, vX 5 f0 0 0 (n : Int) 0] w0 (Ret fun r w' => Done g S w0 w' (Srd.endd { a with lo := (((Srd.nums a a.mv.sl a.lo a.hi).drop n).head?).getD a.hi }) []) := by
 have hO := hc.ok
 have hk := hO.k
 have hrl := hO.ro.len
 have hm := hO.mv
 have h0 : a.mv.ph ≠ 0 := by omega
 have hs := hm.sl h0
 have hfr := hm.fr h0
 have hne := hm.ne h0
 have hnr := hO.nr
 have hrsl : x.rs.length = a.rd.length := by rw [← hc.rs, List.length_map]
 refine Exists.elim (p := fun v => x.ls[a.mv.fr.toNat]? = some v) ⟨_, List.getElem?_eq_getElem (by rw [hc.ls]; omega)⟩ fun v hvx => ?_
 have hzz : ((a.mv.fr.toNat : Nat) : Int) = a.mv.fr := by omega
 have h := chL_take hc.h hvx
 rw [hzz] at h
 have hsl : (Srd.store a a.mv.fr).length ≤ 400 := Nat.le_trans (Srd.store_len a a.mv.fr) hO.nA
 have hany : x.rs.any (needs a.mv) = false := by
  apply Bool.eq_false_iff.2
  intro hq
  obtain ⟨r, hr, hh⟩ := (any_needs hc).1 hq
  exact hw r hr hh
 obtain ⟨b, hb⟩ : ∃ b : Ab, b = { a with lo := (((Srd.nums a a.mv.sl a.lo a.hi).drop n).head?).getD a.hi } := ⟨_, rfl⟩
 have hst := Srd.store_dro hO h2 n
 rw [← hb] at hst ⊢
 apply e_shard_change_drop
 unfold s_shard_change_drop
 refine bxA h fun g1 w h => ?_
 refine bxA h fun g2 w h => ?_
 refine ld1 h 1 rfl rfl (Nc_ok ?_)
 refine faS (faS (faS (faS (ld1 h 3 rfl rfl (Bn_eqT (by omega) (Gd_T (faS (Gd_T (ld1 h 0 rfl rfl (Gd_T (Bn_geT (by omega) (Pick_T (cl1 h n_shard_must c_mustT fun w h => ?_)))))))))))))
 refine ld1 h 1 rfl rfl (Nc_ok ?_)
 refine faS (faS (faS (ld1 h 3 rfl rfl ?_)))
 have hcon := c_CoRd (w0 := w) (p := needs a.mv) (caps := #[pr g1 0]) (qZ 6 h rfl) (by omega) n_shard_change_drop_1 fun {W r} hr e => c_drop1 (Blk.ext (h.get (i := 3) rfl) e) (Blk.ext (h.get (i := 1) rfl) e)
  ((Hp.slm h (t := tIn) (v := r.2.1) (n := r.1.ro.length) (c := 1) (xs := r.1.ro.flatMap fI) (by
    have : ro tIn 1 r.2.1 r.1.ro.length (r.1.ro.flatMap fI) ∈ ros tIn 1 (rwO x.rs) := List.mem_map.2 ⟨⟨r.2.1, r.1.ro.length, r.1.ro.flatMap fI⟩, List.mem_map.2 ⟨r, hr, rfl⟩, rfl⟩
    simp [this])).ext e) (hO.rd r.1 (by rw [← hc.rs]; exact List.mem_map.2 ⟨r, hr, rfl⟩)).ro.len hs ⟨a, hO⟩
 rw [hany] at hcon
 refine cl1 h n_slices_ContainsFunc_api_Reader_api_Reader hcon fun w h => ?_
 refine Un_F (cl1 h n_shard_must c_mustT fun w h => ?_)
 replace h := h.dr
 refine dl1 h 1 rfl rfl (dl1 h 1 rfl rfl (NcP_ok ?_))
 refine dfS (dfS (dfS (dfS (dl1 h 3 rfl rfl (dfS (dl1 h 0 rfl rfl ?_))))))
 have h3 := Hp.perm h ((List.perm_append_comm (l₁ := [_, _]) (l₂ := [_, _, _])).append_right _)
 refine Cl_i n_shard_change_remove (c_remove (m := n) (mv := a.mv) (nx := a.A.length) h3 (by omega) (by omega) (tr_store hO) hfr hvx) ?_
 rintro _ w1 ⟨rfl, u, h⟩
 refine ld1 h 4 rfl rfl ?_
 dsimp only [List.set] at h
 have h4 := Hp.perm h (List.Perm.swap _ _ _)
 have hdl : (delN a.mv.sl n (Srd.store a a.mv.fr)).length ≤ 1000 := Nat.le_trans delN_len (by omega)
 have hdt : ∀ y ∈ delN a.mv.sl n (Srd.store a a.mv.fr), 0 ≤ y.1.tr ∧ y.1.tr ≤ 999 := fun y hy => by
  rw [← Srd.delB_kept] at hy
  obtain ⟨p, hp, rfl⟩ := List.mem_map.1 hy
  exact tr_store hO _ (List.of_mem_zip (List.mem_filter.1 hp).1).1
 refine cl_end (m := a.mv) (nx := a.A.length) (l := delN a.mv.sl n (Srd.store a a.mv.fr)) (ls := x.ls.set a.mv.fr.toNat u) (v := u) h4 (h4.sl (i := 2) rfl) hfr (by rw [List.getElem?_set_self (by rw [hc.ls]; omega)]) (h4.sl (i := 1) rfl) hdl hdt fun w h => ?_
 have h5 := Hp.sub h (List.Sublist.cons_cons _ (List.Sublist.cons_cons _ (List.Sublist.cons_cons _ (List.Sublist.cons _ (List.Sublist.cons _ (List.Sublist.refl _))))))
 have h := Hp.perm h5 (List.Perm.cons _ (List.perm_middle (l₁ := [_, _, _])).symm)
 have hb2 : b.mv.ph = 2 := by rw [hb]; exact h2
 have hmb : b.mv = a.mv := by rw [hb]
 have hbr : Srd.roAt b.ro b.mv.sl = b.mv.to := by rw [hb]; exact (hm.c2 h2).1
 have hbn : b.mv.fr ≠ b.mv.to := by rw [hb]; exact hne
 have hmv := Srd.endd_len hb2 hbr hbn
 have hA : b.A = a.A := by rw [hb]
 have hkk : b.k = a.k := by rw [hb]
 have hbrd : b.rd = a.rd := by rw [hb]
 have hbro : b.ro = a.ro := by rw [hb]
 have hball : Srd.all b = Srd.all a := by unfold Srd.all; rw [hA]
 rw [hst, hmb, if_pos rfl] at hmv
 rw [← hmv, show a.A.length = (Srd.endd b).A.length by rw [Srd.endd_A, hA], show a.k = (Srd.endd b).k by rw [Srd.endd_k, hkk], ← hbro, ← Srd.endd_ro b] at h
 have hr8 : (Srd.endd b).ro.length = 8 := by rw [Srd.endd_ro, hbro]; exact hrl
 rw [← hr8] at h
 refine Ret.mk ⟨{ x with ls := x.ls.set a.mv.fr.toNat u }, .slice none 0 0, fin_rows (x := { x with ls := x.ls.set a.mv.fr.toNat u }) (a := Srd.endd b) rfl h (fun i v' hv => ?_) (by rw [Srd.endd_rd, hbrd]; exact hc.rs) (has_O fun e he => by simp [he]) (fun r hr => ?_) (.inl ⟨rfl, rfl⟩)⟩
 ·have hv : (x.ls.set a.mv.fr.toNat u)[i]? = some v' := hv
  rw [Srd.store_endd hb2, hst]
  by_cases hi : i = a.mv.fr.toNat
  ·subst hi
   rw [List.getElem?_set_self (by rw [hc.ls]; omega)] at hv
   cases hv
   rw [hzz, if_pos rfl]
   exact Has.ro (t := tHd) (by simp)
  ·rw [List.getElem?_set_ne (by omega)] at hv
   rw [if_neg (by omega)]
   exact has_E (us := x.ls) (k := a.mv.fr.toNat) (fun e he => by simp [he]) hi hv
 ·rw [Srd.got_of (a := a) (by rw [Srd.endd_all, hball])]
  exact has_G (a := a) (rs := x.rs) (fun e he => by simp [he]) r hr
theorem c_dropF (hn1 : 1 ≤ n) (hn2 : n ≤ 1000000) (hno : ¬ (a.mv.ph = 2 ∧ ∀ r ∈ a.rd, ¬ (Srd.roAt r.ro a.mv.sl = a.mv.fr ∧ r.nx ≤ a.mv.fr))) :
 Calls Tryz.prog 28 #[pr g 0, vX 5 f0 0 0 (n : Int) 0] w0 (Fai cR S w0) := by
 have hO := hc.ok
 have hm := hO.mv
 have hnr := hO.nr
 have hrsl : x.rs.length = a.rd.length := by rw [← hc.rs, List.length_map]
 obtain ⟨R, hR⟩ : ∃ R, R = Fai cR S w0 := ⟨_, rfl⟩
 rw [← hR]
 have h := hc.h
 unfold chL at h
 apply e_shard_change_drop
 unfold s_shard_change_drop
 refine bxA h fun g1 w h => ?_
 refine bxA h fun g2 w h => ?_
 refine ld1 h 1 rfl rfl (Nc_ok ?_)
 refine faS (faS (faS (faS (ld1 h 2 rfl rfl ?_))))
 by_cases h2 : a.mv.ph = 2
 ·have hs := hm.sl (by omega)
  have hany : x.rs.any (needs a.mv) = true := by
   refine (any_needs hc).2 ?_
   apply Classical.byContradiction
   intro hq
   exact hno ⟨h2, fun r hr hh => hq ⟨r, hr, hh⟩⟩
  refine Bn_eqT (by omega) (Gd_T (faS (Gd_T (ld1 h 0 rfl rfl (Gd_T (Bn_geT (by omega) (Pick_T (cl1 h n_shard_must c_mustT fun w h => ?_))))))))
  refine ld1 h 1 rfl rfl (Nc_ok ?_)
  refine faS (faS (faS (ld1 h 2 rfl rfl ?_)))
  have hcon := c_CoRd (w0 := w) (p := needs a.mv) (caps := #[pr g1 0]) (qZ 5 h rfl) (by omega) n_shard_change_drop_1 fun {W r} hr e => c_drop1 (Blk.ext (h.get (i := 2) rfl) e) (Blk.ext (h.get (i := 1) rfl) e)
   ((Hp.slm h (t := tIn) (v := r.2.1) (n := r.1.ro.length) (c := 1) (xs := r.1.ro.flatMap fI) (by
     have : ro tIn 1 r.2.1 r.1.ro.length (r.1.ro.flatMap fI) ∈ ros tIn 1 (rwO x.rs) := List.mem_map.2 ⟨⟨r.2.1, r.1.ro.length, r.1.ro.flatMap fI⟩, List.mem_map.2 ⟨r, hr, rfl⟩, rfl⟩
     simp [this])).ext e) (hO.rd r.1 (by rw [← hc.rs]; exact List.mem_map.2 ⟨r, hr, rfl⟩)).ro.len hs ⟨a, hO⟩
  rw [hany] at hcon
  refine cl1 h n_slices_ContainsFunc_api_Reader_api_Reader hcon fun w h => ?_
  refine Un_T ?_
  exact clp h n_shard_must c_mustF hR
 ·refine Bn_eqF (by omega) (Gd_FT (Gd_FT (Gd_FT (Pick_F ?_))))
  exact clp h n_shard_must c_mustF hR
end
end Go.Proofs.YthdhnhghjecfkaaGreat
namespace Go.Proofs.YthdhnhghjecfkaaGreat
open Go Go.Eng Go.Proofs Go.RowKit
open Go.Srd (Ft VF Hd Mv mv0 Rd Ab Cmd got ltF sam srt plh ofS gotL delN cntL)
set_option maxRecDepth 100000
theorem c_copy1 {w0 : World} {x y : Hd} {z : Int} (hz : (if x.2 < y.2 then (-1 : Int) else if y.2 < x.2 then 1 else 0) = z) : Calls Tryz.prog 63 #[vH x, vH y] w0 (Ret fun r w' => Ext w0 w' ∧ r = .int .i64 z) := by
 subst hz
 have cc1 := fun {W : World} {x y : Int} (_ : Ext w0 W) => c_cmp (w := W) (x := x) (y := y)
 apply e_shard_change_copy_1
 unfold s_shard_change_copy_1
 have h := Hp.init [] w0
 refine bxA h fun g1 w h => ?_
 refine bxA h fun g2 w h => ?_
 refine faS (ld1 h 1 rfl rfl (faS (ld1 h 0 rfl rfl (cl1 h n_cmp_Compare_int (cc1 h.ext) fun w h => ?_))))
 exact Ret.mk ⟨h.ext, rfl⟩
theorem c_open1 {w0 : World} {x : RV} {y z : Int} (hz : (if x.1.id < y then (-1 : Int) else if y < x.1.id then 1 else 0) = z) : Calls Tryz.prog 71 #[vR x, .int .i64 y] w0 (Ret fun r w' => Ext w0 w' ∧ r = .int .i64 z) := by
 subst hz
 have cc1 := fun {W : World} {x y : Int} (_ : Ext w0 W) => c_cmp (w := W) (x := x) (y := y)
 apply e_shard_change_open_1
 unfold s_shard_change_open_1
 have h := Hp.init [] w0
 refine bxA h fun g1 w h => ?_
 refine faS (ld1 h 0 rfl rfl (cl1 h n_cmp_Compare_int (cc1 h.ext) fun w h => ?_))
 exact Ret.mk ⟨h.ext, rfl⟩
theorem Bu_srm {P : Program} {t : TypeId} {c : Bool} {w : World} {K : Value → World → Prop} {a b m : Nat} (hm : (a + b) / 2 = m) (hk : K (.int .u64 (m : Int)) w) : Bn P .shr t c (.int .u64 ((a : Int) + (b : Int))) (.int .u64 1) w K := by
 refine Bu_sr1 (by omega) ?_
 rw [show ((a : Int) + (b : Int)) / 2 = (m : Int) by omega]
 exact hk
set_option maxHeartbeats 2000000 in
theorem c_BsHd {w0 : World} {v : Value} {l : List Hd} {x : Hd} (hv : SlC w0 11 v l.length (l.flatMap fH)) (hl : l.length ≤ 1000000) (hp : l.Pairwise fun a b => a.2 < b.2) :
 Calls Tryz.prog 62 #[v, vH x, .func (.func 63) #[] #[]] w0 (Ret fun r w' => Ext w0 w' ∧ ∃ b, r = .tuple #[.int .i64 (cntL (·.2) x.2 l : Nat), .bool b]) := by
 have hq := Srd.cnt_le (f := fun y : Hd => y.2) (n := x.2) (l := l)
 have hi := fun {h : Nat} {y : Hd} => Srd.cnt_iff (f := fun y : Hd => y.2) (n := x.2) (l := l) (h := h) (y := y) hp
 obtain ⟨q, hqq⟩ : ∃ q : Nat, q = cntL (fun y : Hd => y.2) x.2 l := ⟨_, rfl⟩
 rw [← hqq] at hq
 have hi : ∀ {h : Nat} {y : Hd}, l[h]? = some y → (y.2 < x.2 ↔ h < q) := fun {h y} hy => by rw [hqq]; exact hi hy
 rw [← hqq]
 clear hqq
 apply e_slices_BinarySearchFunc_api_Held_api_Held_api_Held
 unfold s_slices_BinarySearchFunc_api_Held_api_Held_api_Held
 have h := Hp.init [] w0
 refine bxA h fun g1 w h => ?_
 refine leS (hv.hp h) ?_
 refine Lp2.mk (fun a b W => ∃ i j : Nat, (i ≤ q ∧ q ≤ j ∧ j ≤ l.length) ∧ a = .int .i64 i ∧ b = .int .i64 j ∧ Hp [] w0 W [bx g1 tHd (fH x)]) (fun a b _ => match a, b with | .int _ i', .int _ j' => j'.toNat - i'.toNat | _, _ => 0) ⟨0, l.length, ⟨by omega, hq, by omega⟩, rfl, rfl, h⟩ ?_
 clear h
 rintro _ _ W ⟨i, j, ⟨hi1, hj1, hj2⟩, rfl, rfl, h⟩
 by_cases hij : i < j
 ·obtain ⟨m, hm⟩ : ∃ m : Nat, (i + j) / 2 = m := ⟨_, rfl⟩
  refine Exists.elim (p := fun y => l[m]? = some y) ⟨_, List.getElem?_eq_getElem (by omega)⟩ fun y hy => ?_
  have sy : Seg (l.flatMap fH) (m * 11) (fH y) := flat_seg (f := fH) (fun _ => rfl) hy
  have hym := hi hy
  refine Bn_ltT (by omega) (If_T (Bn_ad (by omega) (by omega) (Cv_b (by omega) (by omega) ?_)))
  refine Bu_srm hm ?_
  refine Cv_c (by omega) (by omega) ?_
  by_cases hlt : y.2 < x.2
  ·have hmq := hym.1 hlt
   replace h := h.dr
   refine diH h ‹_› (by omega) fun zb zo zk zv zc => ?_
   refine dhA h ‹_› ‹_› (by rfl) ?_
   refine dlA h 0 rfl rfl ?_
   refine Cw_i n_shard_change_copy_1 (c_copy1 (z := -1) (by rw [if_pos hlt])) ?_
   rintro _ w1 ⟨e, rfl⟩
   replace h := h.x e
   refine Dv_ltT (by omega) (If_T (Bn_ad (by omega) (by omega) ?_))
   exact ⟨⟨m + 1, j, ⟨by omega, hj1, hj2⟩, rfl, rfl, h⟩, by show (j : Int).toNat - ((m : Int) + 1).toNat < (j : Int).toNat - (i : Int).toNat; omega⟩
  ·have hmq : ¬ m < q := fun hc => hlt (hym.2 hc)
   refine Exists.elim (p := fun z : Int => (if y.2 < x.2 then (-1 : Int) else if x.2 < y.2 then 1 else 0) = z ∧ 0 ≤ z) ⟨_, rfl, by rw [if_neg hlt]; split <;> omega⟩ fun z hz => ?_
   have hz2 := hz.2
   replace h := h.dr
   refine diH h ‹_› (by omega) fun zb zo zk zv zc => ?_
   refine dhA h ‹_› ‹_› (by rfl) ?_
   refine dlA h 0 rfl rfl ?_
   refine Cw_i n_shard_change_copy_1 (c_copy1 hz.1) ?_
   rintro _ w1 ⟨e, rfl⟩
   replace h := h.x e
   refine Dv_ltF (by omega) (If_F ?_)
   exact ⟨⟨i, m, ⟨hi1, by omega, by omega⟩, rfl, rfl, h⟩, by show (m : Int).toNat - (i : Int).toNat < (j : Int).toNat - (i : Int).toNat; omega⟩
 ·have : i = q := by omega
  subst this
  by_cases hqn : i < l.length
  ·refine Exists.elim (p := fun y => l[i]? = some y) ⟨_, List.getElem?_eq_getElem (by omega)⟩ fun y hy => ?_
   have sy : Seg (l.flatMap fH) (i * 11) (fH y) := flat_seg (f := fH) (fun _ => rfl) hy
   refine Exists.elim (p := fun z : Int => (if y.2 < x.2 then (-1 : Int) else if x.2 < y.2 then 1 else 0) = z) ⟨_, rfl⟩ fun z hz => ?_
   refine Bn_ltF (by omega) (If_F ?_)
   replace h := h.dr
   refine Dv_ltT (by omega) (GdP_T (GdP_T (GdP_T (GdP_T (diH h ‹_› (by omega) fun zb zo zk zv zc => ?_)))))
   refine GdP_T (dhA h ‹_› ‹_› (by rfl) ?_)
   refine GdP_T (dlA h 0 rfl rfl ?_)
   refine Gd_T (Cw_i n_shard_change_copy_1 (c_copy1 hz) ?_)
   rintro _ w1 ⟨e, rfl⟩
   replace h := h.x e
   by_cases hz0 : z = 0
   ·refine GdP_T (Dv_eqT (by omega) (PickP_T ?_))
    exact Ret.mk ⟨h.ext, _, rfl⟩
   ·refine GdP_T (Dv_eqF (by omega) (PickP_T ?_))
    exact Ret.mk ⟨h.ext, _, rfl⟩
  ·refine Bn_ltF (by omega) (If_F ?_)
   replace h := h.dr
   refine Dv_ltF (by omega) (GdP_FT (GdP_FT (GdP_FT (GdP_FT (GdP_FT (GdP_FT (Gd_FT (GdP_FT (PickP_F ?_)))))))))
   exact Ret.mk ⟨h.ext, _, rfl⟩
set_option maxHeartbeats 2000000 in
theorem c_BsRd {w0 : World} {v : Value} {l : List RV} {x : Int} (hv : SlC w0 5 v l.length (l.flatMap fR)) (hl : l.length ≤ 1000000) (hp : l.Pairwise fun a b => a.1.id < b.1.id) :
 Calls Tryz.prog 70 #[v, .int .i64 x, .func (.func 71) #[] #[]] w0 (Ret fun r w' => Ext w0 w' ∧ r = .tuple #[.int .i64 (cntL (·.1.id) x l : Nat), .bool (l.any fun y => decide (y.1.id = x))]) := by
 have hq := Srd.cnt_le (f := fun y : RV => y.1.id) (n := x) (l := l)
 have hi := fun {h : Nat} {y : RV} => Srd.cnt_iff (f := fun y : RV => y.1.id) (n := x) (l := l) (h := h) (y := y) hp
 have ht := Srd.cnt_there (f := fun y : RV => y.1.id) (n := x) (l := l) hp
 obtain ⟨q, hqq⟩ : ∃ q : Nat, q = cntL (fun y : RV => y.1.id) x l := ⟨_, rfl⟩
 rw [← hqq] at hq ht
 have hi : ∀ {h : Nat} {y : RV}, l[h]? = some y → (y.1.id < x ↔ h < q) := fun {h y} hy => by rw [hqq]; exact hi hy
 rw [← hqq]
 clear hqq
 obtain ⟨b, hb⟩ : ∃ b : Bool, b = l.any fun y => decide (y.1.id = x) := ⟨_, rfl⟩
 have ht : b = true ↔ ∃ y, l[q]? = some y ∧ y.1.id = x := by
  rw [hb, List.any_eq_true, ← ht]
  simp
 rw [← hb]
 clear hb
 apply e_slices_BinarySearchFunc_api_Reader_api_Reader_int
 unfold s_slices_BinarySearchFunc_api_Reader_api_Reader_int
 have h := Hp.init [] w0
 refine leS (hv.hp h) ?_
 refine Lp2.mk (fun a b W => ∃ i j : Nat, (i ≤ q ∧ q ≤ j ∧ j ≤ l.length) ∧ a = .int .i64 i ∧ b = .int .i64 j ∧ Hp [] w0 W []) (fun a b _ => match a, b with | .int _ i', .int _ j' => j'.toNat - i'.toNat | _, _ => 0) ⟨0, l.length, ⟨by omega, hq, by omega⟩, rfl, rfl, h⟩ ?_
 clear h
 rintro _ _ W ⟨i, j, ⟨hi1, hj1, hj2⟩, rfl, rfl, h⟩
 by_cases hij : i < j
 ·obtain ⟨m, hm⟩ : ∃ m : Nat, (i + j) / 2 = m := ⟨_, rfl⟩
  refine Exists.elim (p := fun y => l[m]? = some y) ⟨_, List.getElem?_eq_getElem (by omega)⟩ fun y hy => ?_
  have sy : Seg (l.flatMap fR) (m * 5) (fR y) := flat_seg (f := fR) (fun _ => rfl) hy
  have hym := hi hy
  refine Bn_ltT (by omega) (If_T (Bn_ad (by omega) (by omega) (Cv_b (by omega) (by omega) ?_)))
  refine Bu_srm hm ?_
  refine Cv_c (by omega) (by omega) ?_
  by_cases hlt : y.1.id < x
  ·have hmq := hym.1 hlt
   refine iaH h ‹_› (by omega) fun zb zo zk zv zc => ?_
   refine lhA h ‹_› ‹_› (by rfl) ?_
   refine Cw_i n_shard_change_open_1 (c_open1 (z := -1) (by rw [if_pos hlt])) ?_
   rintro _ w1 ⟨e, rfl⟩
   replace h := h.x e
   refine Bn_ltT (by omega) (If_T (Bn_ad (by omega) (by omega) ?_))
   exact ⟨⟨m + 1, j, ⟨by omega, hj1, hj2⟩, rfl, rfl, h⟩, by show (j : Int).toNat - ((m : Int) + 1).toNat < (j : Int).toNat - (i : Int).toNat; omega⟩
  ·have hmq : ¬ m < q := fun hc => hlt (hym.2 hc)
   refine Exists.elim (p := fun z : Int => (if y.1.id < x then (-1 : Int) else if x < y.1.id then 1 else 0) = z ∧ 0 ≤ z) ⟨_, rfl, by rw [if_neg hlt]; split <;> omega⟩ fun z hz => ?_
   have hz2 := hz.2
   refine iaH h ‹_› (by omega) fun zb zo zk zv zc => ?_
   refine lhA h ‹_› ‹_› (by rfl) ?_
   refine Cw_i n_shard_change_open_1 (c_open1 hz.1) ?_
   rintro _ w1 ⟨e, rfl⟩
   replace h := h.x e
   refine Bn_ltF (by omega) (If_F ?_)
   exact ⟨⟨i, m, ⟨hi1, by omega, by omega⟩, rfl, rfl, h⟩, by show (m : Int).toNat - (i : Int).toNat < (j : Int).toNat - (i : Int).toNat; omega⟩
 ·have : i = q := by omega
  subst this
  by_cases hqn : i < l.length
  ·refine Exists.elim (p := fun y => l[i]? = some y) ⟨_, List.getElem?_eq_getElem (by omega)⟩ fun y hy => ?_
   have sy : Seg (l.flatMap fR) (i * 5) (fR y) := flat_seg (f := fR) (fun _ => rfl) hy
   have hge : ¬ y.1.id < x := fun hc => Nat.lt_irrefl _ ((hi hy).1 hc)
   by_cases he : y.1.id = x
   ·have hb : b = true := ht.2 ⟨y, hy, he⟩
    subst hb
    refine Bn_ltF (by omega) (If_F (Bn_ltT (by omega) (Gd_T (Gd_T (Gd_T (Gd_T (iaH h ‹_› (by omega) fun zb zo zk zv zc => ?_)))))))
    refine Gd_T (lhA h ‹_› ‹_› (by rfl) ?_)
    refine Gd_T (Gd_T (Cw_i n_shard_change_open_1 (c_open1 (z := 0) (by rw [if_neg hge, if_neg (by omega)])) ?_))
    rintro _ w1 ⟨e, rfl⟩
    replace h := h.x e
    refine Gd_T (Bn_eqT (by omega) (Pick_T ?_))
    exact Ret.mk ⟨h.ext, rfl⟩
   ·have hb : b = false := by
     cases b with
     | false => rfl
     | true =>
      obtain ⟨y', h1, h2⟩ := ht.1 rfl
      rw [hy] at h1
      cases h1
      exact absurd h2 he
    subst hb
    refine Bn_ltF (by omega) (If_F (Bn_ltT (by omega) (Gd_T (Gd_T (Gd_T (Gd_T (iaH h ‹_› (by omega) fun zb zo zk zv zc => ?_)))))))
    refine Gd_T (lhA h ‹_› ‹_› (by rfl) ?_)
    refine Gd_T (Gd_T (Cw_i n_shard_change_open_1 (c_open1 (z := 1) (by rw [if_neg hge, if_pos (by omega)])) ?_))
    rintro _ w1 ⟨e, rfl⟩
    replace h := h.x e
    refine Gd_T (Bn_eqF (by omega) (Pick_T ?_))
    exact Ret.mk ⟨h.ext, rfl⟩
  ·have hb : b = false := by
    cases b with
    | false => rfl
    | true =>
     obtain ⟨y', h1, h2⟩ := ht.1 rfl
     have := (List.getElem?_eq_some_iff.1 h1).1
     omega
   subst hb
   refine Bn_ltF (by omega) (If_F (Bn_ltF (by omega) (Gd_FT (Gd_FT (Gd_FT (Gd_FT (Gd_FT (Gd_FT (Gd_FT (Gd_FT (Pick_F ?_)))))))))))
   exact Ret.mk ⟨h.ext, rfl⟩
end Go.Proofs.YthdhnhghjecfkaaGreat
namespace Go.Proofs.YthdhnhghjecfkaaGreat
open Go Go.Eng Go.Proofs Go.RowKit
open Go.Srd (Ft VF Hd Mv mv0 Rd Ab Cmd got ltF sam srt plh ofS gotL delN cntL cpy CpI)
set_option maxRecDepth 100000
theorem Jn1.lfQ {A : (Value → World → Prop) → Prop} {B : Value → World → Prop} (Q : Value → World → Prop) (hA : ∀ K : Value → World → Prop, (∀ v w, Q v w → K v w) → A K) (hB : ∀ v w, Q v w → B v w) : Jn1 A B :=
 Jn1.mk fun K hK => hA K fun v w q => hK v w (hB v w q)
abbrev cCc (sv rv dv fv : Value) (nx : Int) (m : Mv) (c : Int) : List Value := [sv, rv, .int .i64 nx, .int .i64 m.ph, .int .i64 m.sl, .int .i64 m.fr, .int .i64 m.to, .int .i64 c, dv, fv]
theorem fH_take (l : List Hd) (q : Nat) : (l.flatMap fH).take (q * 11) = (l.take q).flatMap fH := by
 induction l generalizing q with
 | nil => simp
 | cons y l ih =>
  cases q with
  | zero => simp
  | succ q =>
   rw [List.flatMap_cons, List.take_succ_cons, List.flatMap_cons, Nat.succ_mul, Nat.add_comm, ← ih]
   exact List.take_length_add_append (l₁ := fH y) (q * 11)
theorem fH_drop (l : List Hd) (q : Nat) : (l.flatMap fH).drop (q * 11) = (l.drop q).flatMap fH := by
 have h1 := List.take_append_drop (q * 11) (l.flatMap fH)
 rw [fH_take] at h1
 have h2 : l.flatMap fH = (l.take q).flatMap fH ++ (l.drop q).flatMap fH := by rw [← List.flatMap_append, List.take_append_drop]
 exact List.append_cancel_left (h1.trans h2)
theorem one_drop (l : List Hd) {k : Nat} : (((l.flatMap fH).drop k).all fun x => x.oneCell') = true := by
 have := one_fH l
 rw [List.all_eq_true] at this ⊢
 exact fun x hx => this x (List.mem_of_mem_drop hx)
abbrev stC (a : Ab) (c : Int) : List Hd := Srd.store { a with mv := { a.mv with cp := c } } a.mv.to
section
variable {w0 : World} {g : Nat} {S : List Nat} {x : Sx} {a : Ab} {n : Nat} (hc : Cin g S w0 x a)
include hc
set_option maxHeartbeats 8000000 in
theorem c_copyT (h1 : a.mv.ph = 1) (hn1 : 1 ≤ n) (hn2 : n ≤ 1000000) :
 Calls Tryz.prog 26 #[pr g 0, vX 3 f0 0 0 (n : Int) 0] w0 (Ret fun r w' => Done g S w0 w' { a with mv := { a.mv with cp := ((Srd.nums a a.mv.sl (a.mv.cp + 1) a.A.length).take n).getLastD a.mv.cp } } []) := by
 have hO := hc.ok
 have hk := hO.k
 have hrl := hO.ro.len
 have hm := hO.mv
 have h0 : a.mv.ph ≠ 0 := by omega
 have hs := hm.sl h0
 have hfr := hm.fr h0
 have hto := hm.to h0
 have hne := hm.ne h0
 have hnA := hO.nA
 refine Exists.elim (p := fun v => x.ls[a.mv.fr.toNat]? = some v) ⟨_, List.getElem?_eq_getElem (by rw [hc.ls]; omega)⟩ fun vf hvf => ?_
 refine Exists.elim (p := fun v => x.ls[a.mv.to.toNat]? = some v) ⟨_, List.getElem?_eq_getElem (by rw [hc.ls]; omega)⟩ fun v hvx => ?_
 have hzf : ((a.mv.fr.toNat : Nat) : Int) = a.mv.fr := by omega
 have hzz : ((a.mv.to.toNat : Nat) : Int) = a.mv.to := by omega
 have svf : Seg (x.ls.flatMap fV) (a.mv.fr.toNat * 1) (fV vf) := flat_seg (f := fV) (fun _ => rfl) hvf
 have svt : Seg (x.ls.flatMap fV) (a.mv.to.toNat * 1) (fV v) := flat_seg (f := fV) (fun _ => rfl) hvx
 have h := chL_take hc.h hvx
 rw [hzz] at h
 have hfe : ∃ e ∈ ros tHd 11 ((rwS a x.ls).eraseIdx a.mv.to.toNat), ∀ w, e.Q w → SlC w 11 vf (Srd.store a a.mv.fr).length ((Srd.store a a.mv.fr).flatMap fH) := by
  have := has_E (rows := ros tHd 11 ((rwS a x.ls).eraseIdx a.mv.to.toNat)) (a := a) (us := x.ls) (k := a.mv.to.toNat) (i := a.mv.fr.toNat) (fun e he => he) (by omega) hvf
  rw [hzf] at this
  obtain ⟨e, he, hq, _⟩ := this
  exact ⟨e, he, hq⟩
 have hsl : (Srd.store a a.mv.fr).length ≤ 400 := Nat.le_trans (Srd.store_len a a.mv.fr) hnA
 have hst : ∀ c : Int, (stC a c).length ≤ 400 := fun c => Nat.le_trans (Srd.store_len _ _) hnA
 have has : ∀ c : Int, (stC a c).Pairwise fun u v => u.2 < v.2 := fun c => Srd.store_asc _ _
 have hol : (ofS a.mv.sl (Srd.store a a.mv.fr)).length ≤ (Srd.store a a.mv.fr).length := List.length_filter_le _ _
 obtain ⟨ol, hole⟩ : ∃ ol, ol = ofS a.mv.sl (Srd.store a a.mv.fr) := ⟨_, rfl⟩
 rw [Srd.cop_cp hO h1 n]
 obtain ⟨fin, hfin⟩ : ∃ fin, fin = cpy a.mv.cp n (ofS a.mv.sl (Srd.store a a.mv.fr)) := ⟨_, rfl⟩
 rw [← hfin]
 have hoth : ∀ i : Int, i ≠ a.mv.to → Srd.store { a with mv := { a.mv with cp := fin } } i = Srd.store a i := Srd.cpy_oth h1 fin
 obtain ⟨rest, hrest⟩ : ∃ rest, rest = ros tHd 11 ((rwS a x.ls).eraseIdx a.mv.to.toNat) ++ (ros tIn 1 (rwO x.rs) ++ ros tFt 10 (rwG a x.rs)) := ⟨_, rfl⟩
 rw [← hrest] at h
 apply e_shard_change_copy
 unfold s_shard_change_copy
 refine bxA h fun g1 w h => ?_
 refine Nc_ok ?_
 refine faS (faS (faS (faS (ld1 h 2 rfl rfl (Bn_eqT (by omega) (Gd_T (faS (Gd_T (ld1 h 0 rfl rfl (Gd_T (Bn_geT (by omega) (Pick_T (cl1 h n_shard_must c_mustT fun w h => ?_)))))))))))))
 refine NcP_ok ?_
 replace h := h.dr
 refine dfS (dfS (dfS (dl1 h 2 rfl rfl (NcP_ok ?_))))
 refine dfS (dfS (dfS (dfS (dl1 h 2 rfl rfl (diRz h 3 rfl (by omega) (by omega) fun zg zk zv => ?_)))))
 refine dr0 h 3 rfl ‹_› svt (by rfl) ?_
 refine Jn1.lfQ (fun tv W => Hp S w0 W (ro tHd 11 tv (stC a fin).length ((stC a fin).flatMap fH) :: bx g tCh (cCc x.sv x.rv x.dv (.slice none 0 0) a.A.length a.mv fin) :: ro tHs 1 x.sv a.k (x.ls.flatMap fV) :: ro tIn 1 x.rv 8 (a.ro.flatMap fI) :: ro tRd 5 x.dv x.rs.length (x.rs.flatMap fR) :: rest)) (fun K hK => ?_) (fun tv w h => ?_)
 ·refine NcP_ok ?_
  replace h := h.dr
  refine dfS (dfS (dfS (dl1 h 2 rfl rfl (NcP_ok ?_))))
  refine dfS (dfS (dfS (dfS (dl1 h 2 rfl rfl (diRz h 3 rfl (by omega) (by omega) fun zg zk zv => ?_)))))
  refine dr0 h 3 rfl ‹_› svf (by rfl) ?_
  refine NcP_ok ?_
  refine dfS (dfS (dfS (dfS (dl1 h 2 rfl rfl (clR (T := fun v => v) h n_shard_ofSlot (c_ofSlot (hfe.elim fun e he => he.2 _ (h.ok e (by simp [hrest, he.1])).get) (by omega) (tr_store hO)) fun u w h => ?_)))))
  rw [← hole] at h
  have hoe := hole
  have hI0 := CpI.init hO h1 n
  have hoA : ol.length ≤ 400 := by rw [hole]; omega
  refine dlS (qZ 0 h rfl) ?_
  refine Lp2.mk (fun tv i W => ∃ (j m : Nat) (c : Int), (j ≤ ol.length ∧ m ≤ n) ∧ i = .int .i64 j ∧ CpI a n j m c ∧
   Hp S w0 W (ro tHd 11 u ol.length (ol.flatMap fH) :: bx g1 tX (fX 3 f0 0 0 m 0) :: ro tHd 11 tv (stC a c).length ((stC a c).flatMap fH) :: bx g tCh (cCc x.sv x.rv x.dv (.slice none 0 0) a.A.length a.mv c) :: ro tHs 1 x.sv a.k (x.ls.flatMap fV) :: ro tIn 1 x.rv 8 (a.ro.flatMap fI) :: ro tRd 5 x.dv x.rs.length (x.rs.flatMap fR) :: rest))
   (fun _ i _ => match i with | .int _ i' => ol.length - i'.toNat | _ => 0) ⟨0, n, a.mv.cp, ⟨by omega, by omega⟩, rfl, hI0, h⟩ ?_
  clear h
  rintro tv _ W ⟨j, m, c, ⟨hj, hmn⟩, rfl, hI, h⟩
  by_cases hjl : j < ol.length
  rotate_left
  ·have hcf : c = fin := by rw [hfin]; exact hI.stop (.inr (by rw [← hole]; omega))
   subst hcf
   refine Bn_ltF (by omega) (If_F ?_)
   exact hK _ _ (h.drop 2)
  refine Exists.elim (p := fun y => ol[j]? = some y) ⟨_, List.getElem?_eq_getElem hjl⟩ fun y hy => ?_
  have sy : Seg (ol.flatMap fH) (j * 11) (fH y) := flat_seg (f := fH) (fun _ => rfl) hy
  have hy2 := hy
  rw [hole] at hy2
  by_cases hm0 : m = 0
  ·have hcf : c = fin := by rw [hfin]; exact hI.stop (.inl hm0)
   subst hcf
   refine Bn_ltT (by omega) (If_T (iaR h 0 rfl (by omega) fun zg zk zv => ?_))
   refine lrA h 0 rfl ‹_› sy (by rfl) ?_
   refine alS h fun g2 w h => ?_
   refine stA h 0 rfl rfl rfl rfl fun w h => ?_
   refine faS (ld1 h 2 rfl rfl (Bn_eqT (by omega) (If_T ?_)))
   dsimp only [List.set] at h
   exact hK _ _ (h.drop 3)
  by_cases hyc : y.2 ≤ c
  ·have hI2 := hI.skip hy2 hm0 hyc
   refine Bn_ltT (by omega) (If_T (iaR h 0 rfl (by omega) fun zg zk zv => ?_))
   refine lrA h 0 rfl ‹_› sy (by rfl) ?_
   refine alS h fun g2 w h => ?_
   refine stA h 0 rfl rfl rfl rfl fun w h => ?_
   refine faS (ld1 h 2 rfl rfl (Bn_eqF (by omega) (If_F ?_)))
   replace h := h.dr
   refine dfS (dl1 h 0 rfl rfl (NcP_ok ?_))
   refine dfS (dfS (dfS (dfS (dl1 h 4 rfl rfl (Dv_leT (by omega) (If_T (Bn_ad (by omega) (by omega) ?_)))))))
   dsimp only [List.set] at h
   exact ⟨⟨j + 1, m, c, ⟨by omega, hmn⟩, rfl, hI2, h.drop 1⟩, by show ol.length - ((j : Int) + 1).toNat < ol.length - (j : Int).toNat; omega⟩
  have hI2 := hI.next hy2 hO h1 hm0 hyc
  have hst1 := hst c
  have has1 := has c
  have hq := Srd.cnt_le (f := fun y : Hd => y.2) (n := y.2) (l := stC a c)
  obtain ⟨q, hqe⟩ : ∃ q : Nat, q = cntL (fun y : Hd => y.2) y.2 (stC a c) := ⟨_, rfl⟩
  have hins := Srd.insN_cut y (stC a c)
  rw [← hqe] at hq hins
  refine Bn_ltT (by omega) (If_T (iaR h 0 rfl (by omega) fun zg zk zv => ?_))
  refine lrA h 0 rfl ‹_› sy (by rfl) ?_
  refine alS h fun g2 w h => ?_
  refine stA h 0 rfl rfl rfl rfl fun w h => ?_
  refine faS (ld1 h 2 rfl rfl (Bn_eqF (by omega) (If_F ?_)))
  replace h := h.dr
  refine dfS (dl1 h 0 rfl rfl (NcP_ok ?_))
  refine dfS (dfS (dfS (dfS (dl1 h 4 rfl rfl (Dv_leF (by omega) (If_F (ldA h 0 rfl rfl ?_)))))))
  dsimp only [List.set] at h
  refine Cl_i n_slices_BinarySearchFunc_api_Held_api_Held_api_Held (c_BsHd (x := y) (l := stC a c) (qZ 3 h rfl) (by omega) has1) ?_
  rintro _ w1 ⟨e, b, rfl⟩
  replace h := h.x e
  rw [← hqe]
  refine Ex2 ?_
  replace h := h.dr
  refine dscF (qZ 3 h rfl) hq fun v7 p7 f7 => ?_
  refine dlA h 0 rfl rfl ?_
  refine dscL (qZ 3 h rfl) (by omega) fun v1 p1 => ?_
  refine bs1A h (by rfl) (by decide) (by rfl) (by decide) fun v2 w h => ?_
  refine apF (by rfl) (by decide) h (p7.2 _ (qZ 4 h rfl)) f7 (qZ 0 h rfl) (by omega) (by exact one_fH [y]) (by omega) fun v9 w h => ?_
  refine apR (by rfl) (by decide) h 0 rfl (p1.2 _ (qZ 5 h rfl)) (by exact one_drop (stC a c)) (by omega) fun v10 w h => ?_
  have hI3 : stC a y.2 = Srd.insN y (stC a c) := hI2.2
  have hcells : ((stC a c).flatMap fH).take (q * 11) ++ fH y ++ ((stC a c).flatMap fH).drop (q * 11) = (stC a y.2).flatMap fH := by
   rw [hI3, hins, fH_take, fH_drop]
   simp
  have hclen : q + 1 + ((stC a c).length - q) = (stC a y.2).length := by
   rw [hI3, Srd.insN_len]
   show q + 1 + ((stC a c).length - q) = (stC a c).length + 1
   omega
  have h := h.cst (show _ = ro tHd 11 v10 (stC a y.2).length ((stC a y.2).flatMap fH) :: _ by
   rw [← hcells, ← hclen]
   rfl)
  refine faS (ld1 h 2 rfl rfl (Nc_ok ?_))
  refine faS (faS (faS (faS (st1 h 6 rfl rfl rfl rfl fun w h => ?_))))
  refine faS (ld1 h 4 rfl rfl (Bn_su (by omega) (by omega) (faS (st1 h 4 rfl rfl rfl rfl fun w h => ?_))))
  refine Bn_ad (by omega) (by omega) ?_
  dsimp only [List.set] at h
  have hm1 : ((m - 1 : Nat) : Int) = (m : Int) - 1 := by omega
  refine ⟨⟨j + 1, m - 1, y.2, ⟨by omega, by omega⟩, rfl, hI2.1, ?_⟩, by show ol.length - ((j : Int) + 1).toNat < ol.length - (j : Int).toNat; omega⟩
  rw [hm1]
  have h9 := Hp.sub h (L' := ro tHd 11 v10 (stC a y.2).length ((stC a y.2).flatMap fH) :: ro tHd 11 u ol.length (ol.flatMap fH) :: bx g1 tX (fX 3 f0 0 0 ((m : Int) - 1) 0) :: bx g tCh (cCc x.sv x.rv x.dv (.slice none 0 0) a.A.length a.mv y.2) :: ro tHs 1 x.sv a.k (x.ls.flatMap fV) :: ro tIn 1 x.rv 8 (a.ro.flatMap fI) :: ro tRd 5 x.dv x.rs.length (x.rs.flatMap fR) :: rest)
   (List.Sublist.cons_cons _ (List.Sublist.cons _ (List.Sublist.cons _ (List.Sublist.cons_cons _ (List.Sublist.cons_cons _ (List.Sublist.cons _ (List.Sublist.refl _)))))))
  exact Hp.perm h9 (List.perm_middle (l₁ := [_, _])).symm
 ·refine NcP_ok ?_
  replace h := h.dr
  refine dfS (dfS (dfS (dl1 h 1 rfl rfl (NcP_ok ?_))))
  refine dfS (dfS (dfS (dfS (dl1 h 1 rfl rfl (diRz h 2 rfl (by omega) (by omega) fun zg zk zv => ?_)))))
  have hc2 := slc_c1 (qZ 0 h rfl)
  refine stR1 h 2 rfl zv hc2.1 hc2.2 (by omega) fun w h => ?_
  dsimp only [List.set] at h
  rw [show List.set (x.ls.flatMap fV) (0 + a.mv.to.toNat * 1) tv = (x.ls.set a.mv.to.toNat tv).flatMap fV from set_fV] at h
  have h := Hp.perm h (List.perm_middle (l₁ := [_, _, _, _])).symm
  rw [← hrl] at h
  refine Ret.mk ⟨{ x with ls := x.ls.set a.mv.to.toNat tv }, .slice none 0 0, fin_rows (x := { x with ls := x.ls.set a.mv.to.toNat tv }) (a := { a with mv := { a.mv with cp := fin } }) rfl h (fun i v' hv => ?_) hc.rs (has_O fun e he => by simp [hrest, he]) (has_G (a := a) (rs := x.rs) fun e he => by simp [hrest, he]) (.inl ⟨rfl, rfl⟩)⟩
  have hv : (x.ls.set a.mv.to.toNat tv)[i]? = some v' := hv
  by_cases hi : i = a.mv.to.toNat
  ·subst hi
   rw [List.getElem?_set_self (by rw [hc.ls]; omega)] at hv
   cases hv
   rw [hzz]
   exact Has.ro (t := tHd) (by simp)
  ·rw [List.getElem?_set_ne (by omega)] at hv
   rw [hoth i (by omega)]
   exact has_E (us := x.ls) (k := a.mv.to.toNat) (fun e he => by simp [hrest, he]) hi hv
theorem c_copyF (hn1 : 1 ≤ n) (hn2 : n ≤ 1000000) (h1 : a.mv.ph ≠ 1) : Calls Tryz.prog 26 #[pr g 0, vX 3 f0 0 0 (n : Int) 0] w0 (Fai cR S w0) := by
 have hO := hc.ok
 have hm := hO.mv
 obtain ⟨R, hR⟩ : ∃ R, R = Fai cR S w0 := ⟨_, rfl⟩
 rw [← hR]
 have h := hc.h
 unfold chL at h
 apply e_shard_change_copy
 unfold s_shard_change_copy
 refine bxA h fun g1 w h => ?_
 refine Nc_ok ?_
 refine faS (faS (faS (faS (ld1 h 1 rfl rfl (Bn_eqF (by omega) (Gd_FT (Gd_FT (Gd_FT (Pick_F ?_)))))))))
 exact clp h n_shard_must c_mustF hR
end
end Go.Proofs.YthdhnhghjecfkaaGreat
namespace Go.Proofs.YthdhnhghjecfkaaGreat
open Go Go.Eng Go.Proofs Go.RowKit
open Go.Srd (Ft VF Hd Mv mv0 Rd Ab Cmd got ltF sam srt plh ofS gotL delN cntL insR)
set_option maxRecDepth 100000
theorem c_InsE {S : List Nat} {w0 : World} {v nv : Value} {rs : List RV} {r : RV} (h : Hp S w0 w0 [ro tRd 5 nv 1 (fR r), ro tRd 5 v rs.length (rs.flatMap fR)]) (hl : rs.length ≤ 1000) (hr : r.2.1.oneCell' = true ∧ r.2.2.oneCell' = true) :
 Calls Tryz.prog 72 #[v, .int .i64 rs.length, nv] w0 (Ret fun q w' => ∃ u, q = u ∧ Hp S w0 w' [ro tRd 5 u (rs.length + 1) ((rs.take rs.length ++ r :: rs.drop rs.length).flatMap fR)]) := by
 have hone : ((fR r).all fun x => x.oneCell') = true := by simp only [List.all_cons, List.all_nil, hr.1, hr.2]; rfl
 have e1 : (rs.take rs.length ++ r :: rs.drop rs.length).flatMap fR = rs.flatMap fR ++ fR r := by
  rw [List.take_length, List.drop_length, List.flatMap_append]; simp
 rw [e1]
 apply e_slices_Insert_api_Reader_api_Reader
 unfold s_slices_Insert_api_Reader_api_Reader
 refine scL (qZ 1 h rfl) (Nat.le_refl _) fun v' _ _ => ?_
 refine leS (qZ 0 h rfl) ?_
 refine Bn_eqF (by omega) (If_F (leS (qZ 1 h rfl) ?_))
 refine Bn_eqT (by omega) (If_T (apR (by rfl) (by decide) h 1 rfl (qZ 0 h rfl) (by first | rfl | assumption) (by omega) fun v1 w h => ?_))
 dsimp only [List.set] at h
 exact Ret.mk ⟨_, rfl, h.pick [1] (by decide) rfl⟩
theorem fR_take (l : List RV) (q : Nat) : (l.flatMap fR).take (q * 5) = (l.take q).flatMap fR := by
 induction l generalizing q with
 | nil => simp
 | cons y l ih =>
  cases q with
  | zero => simp
  | succ q =>
   rw [List.flatMap_cons, List.take_succ_cons, List.flatMap_cons, Nat.succ_mul, Nat.add_comm, ← ih]
   exact List.take_length_add_append (l₁ := fR y) (q * 5)
theorem fR_drop (l : List RV) (q : Nat) : (l.flatMap fR).drop (q * 5) = (l.drop q).flatMap fR := by
 have h1 := List.take_append_drop (q * 5) (l.flatMap fR)
 rw [fR_take] at h1
 have h2 : l.flatMap fR = (l.take q).flatMap fR ++ (l.drop q).flatMap fR := by rw [← List.flatMap_append, List.take_append_drop]
 exact List.append_cancel_left (h1.trans h2)
theorem cl_ov {w : World} {gn g o lb cb capn : Nat} {cur : Array Value} {tA tB : TypeId} {xs : List Value} {pan : List PanicEntry → World → Prop} {K : Value → World → Prop} (hne : gn ≠ g) (h1 : w.heap[gn]? = some (.cells cur tA (0, 0))) (h2 : Blk w g tB xs) (hx : xs.length ≠ 0) (hk : K (.bool false) w) :
 Cl Tryz.prog 104 #[.slice (some ⟨gn, 0, none⟩) 1 capn, .slice (some ⟨g, o, none⟩) lb cb] w pan K := by
 have hz : ∀ w, (Go.sizeOf tRd).run Tryz.prog w = .ok 5 w := (inferInstance : Slt Tryz.prog 28 tRd 5).sz
 have hr : (callFunc 104 #[.slice (some ⟨gn, 0, none⟩) 1 capn, .slice (some ⟨g, o, none⟩) lb cb]).run Tryz.prog w = .ok (.value (.bool false)) w := by
  rw [run_callFunc_extern Tryz.func104 (by kernel_rfl) (by kernel_rfl) (by kernel_rfl) (e := Extern.SlicesOverlaps.overlaps #[28, 28] #[4]) (by kernel_rfl),
   Lib.run_overlaps_apart w 28 4 tRd Tryz.underlying28 5 hz ⟨gn, 0, none⟩ ⟨g, o, none⟩ 1 capn lb cb hne tA tB cur.size xs.toArray.size (by simp [World.shape?, h1]) (by unfold Blk at h2; simp [World.shape?, h2]) (by simpa using hx) (by simp [World.frozen?, h1]) (by simp [World.frozen?, h1])]
  rfl
 unfold Cl N
 rw [hr]
 exact hk
set_option maxHeartbeats 4000000 in
theorem c_InsG {S : List Nat} {w0 : World} {v nv : Value} {rs : List RV} {r : RV} {i : Nat} (h : Hp S w0 w0 [ro tRd 5 nv 1 (fR r), ro tRd 5 v rs.length (rs.flatMap fR)]) (hi : i < rs.length) (hl : rs.length ≤ 1000) (hr : r.2.1.oneCell' = true ∧ r.2.2.oneCell' = true) (hrs : ∀ r ∈ rs, r.2.1.oneCell' = true ∧ r.2.2.oneCell' = true) :
 Calls Tryz.prog 72 #[v, .int .i64 i, nv] w0 (Ret fun q w' => ∃ u, q = u ∧ Hp S w0 w' [ro tRd 5 u (rs.length + 1) ((rs.take i ++ r :: rs.drop i).flatMap fR)]) := by
 have hone : ∀ y ∈ fR r, y.oneCell' = true := List.all_eq_true.1 (by simp only [List.all_cons, List.all_nil, hr.1, hr.2]; rfl)
 have honeB : ∀ y ∈ (rs.drop i).flatMap fR, y.oneCell' = true := List.all_eq_true.1 (all_fR fun r hr => hrs r (List.mem_of_mem_drop hr))
 have hN := (h.get (i := 0) rfl : World.ownsRow _ _ _ _ _ _ _)
 have hV := (h.get (i := 1) rfl : World.ownsRow _ _ _ _ _ _ _)
 rcases hN.2 with ⟨rfl, hn⟩ | ⟨gn, capn, curn, rfl, a3, a4, a5, a6, a7, a8⟩
 ·cases hn
 rcases hV.2 with ⟨rfl, hn⟩ | ⟨g, cap, cur, rfl, b3, b4, b5, b6, b7, b8⟩
 ·omega
 have hne : gn ≠ g := fun hc => (List.pairwise_cons.1 h.nd).1 _ (List.mem_singleton.2 rfl) gn (by simp [Value.ownBlock]) (by simp [Value.ownBlock, hc])
 have h1 := Hp.perm h (List.Perm.swap _ _ _)
 obtain ⟨rm, hcn, hcl, hb⟩ := ro_bx h1
 have hfl := flat_len (f := fR) (c := 5) (fun _ => rfl) rs
 obtain ⟨A, hA⟩ : ∃ A, A = (rs.take i).flatMap fR := ⟨_, rfl⟩
 obtain ⟨B, hB⟩ : ∃ B, B = (rs.drop i).flatMap fR := ⟨_, rfl⟩
 have hAB : rs.flatMap fR = A ++ B := by rw [hA, hB, ← List.flatMap_append, List.take_append_drop]
 have hAl : A.length = i * 5 := by rw [hA, flat_len (f := fR) (c := 5) (fun _ => rfl), List.length_take]; omega
 have hBl : B.length = (rs.length - i) * 5 := by rw [hB, flat_len (f := fR) (c := 5) (fun _ => rfl), List.length_drop]
 have hres : (rs.take i ++ r :: rs.drop i).flatMap fR = A ++ fR r ++ B := by rw [List.flatMap_append, List.flatMap_cons, ← hA, ← hB, List.append_assoc]
 rw [← hB] at honeB
 rw [hres]
 rw [hAB] at hcl hb
 have hcl2 : A.length + B.length + rm.length = cap * 5 := by rw [List.length_append, List.length_append] at hcl; exact hcl
 have eN : ((rs.length : Int) + ((1 : Nat) : Int)) = ((rs.length + 1 : Nat) : Int) := by omega
 have eI : ((i : Int) + ((1 : Nat) : Int)) = ((i + 1 : Nat) : Int) := by omega
 apply e_slices_Insert_api_Reader_api_Reader
 unfold s_slices_Insert_api_Reader_api_Reader
 refine scBL (by omega) (by omega) ?_
 refine leB ?_
 refine Bn_eqF (by omega) (If_F (leB ?_))
 refine Bn_eqF (by omega) (If_F (Bn_ad (by omega) (by omega) (capB ?_)))
 by_cases hroom : rs.length + 1 ≤ cap
 ·refine Bn_gtF (by omega) (If_F (Bn_ad (by omega) (by omega) ?_))
  rw [eN]
  refine scBH hroom (by omega) ?_
  refine Bn_ad (by omega) (by omega) ?_
  rw [eI]
  refine scBL (by omega) (by omega) ?_
  refine cl_ov hne a4 (hb.get (i := 0) rfl : Blk _ _ _ _) (by omega) ?_
  refine Un_F (If_T ?_)
  replace hb := hb.dr
  refine Dv_ad (by omega) (by omega) ?_
  rw [eI]
  refine dscBL (by omega) (by omega) ?_
  have hsl := sl_bx (n := rs.length + 1) (c := 5) (cap := cap) (hb.get (i := 0) rfl : Blk _ _ _ _) (by omega) hroom
  refine dscL (lo := i) hsl (by omega) fun v8 p8 => ?_
  have hys : (((A ++ B ++ rm).take ((rs.length + 1) * 5)).drop (i * 5)).take ((rs.length - i) * 5) = B := by
   rw [List.drop_take, List.append_assoc, ← hAl, List.drop_left, List.take_take, Nat.min_eq_left (by omega), ← hBl, List.take_left]
  refine cpX (k := rs.length - i) hb 0 rfl (p8.2 _ hsl) (Nat.min_eq_right (by omega) |>.trans (by omega)) (by rw [hys]; exact honeB) (by rw [hcl]; omega) fun w hb => ?_
  rw [hys] at hb
  dsimp only [List.set] at hb
  refine scBL (by omega) (by omega) ?_
  refine cpX (k := 1) hb 0 rfl (hb.sl (i := 1) rfl) (Nat.min_eq_left (by omega)) (fun y hy => hone y (List.mem_of_mem_take hy)) (by simp only [List.length_append, List.length_take, List.length_drop]; omega) fun w hb => ?_
  dsimp only [List.set] at hb
  obtain ⟨Z, hZ⟩ : ∃ Z, Z = (A ++ B ++ rm).drop (0 + (i + 1) * 5 + (rs.length - i) * 5) := ⟨_, rfl⟩
  rw [← hZ] at hb
  have hZl : Z.length = cap * 5 - (rs.length + 1) * 5 := by rw [hZ, List.length_drop, hcl]; omega
  have hQ : ((A ++ B ++ rm).take (0 + (i + 1) * 5)).length = (i + 1) * 5 := by rw [List.length_take, hcl]; omega
  have e1 : (List.take (0 + (i + 1) * 5) (A ++ B ++ rm) ++ B ++ Z).take (0 + i * 5) = A := by
   rw [List.append_assoc, List.take_append_of_le_length (by rw [hQ]; omega), List.take_take, Nat.min_eq_left (by omega), Nat.zero_add, ← hAl, List.append_assoc, List.take_left]
  have e2 : (List.take (0 + (i + 1) * 5) (A ++ B ++ rm) ++ B ++ Z).drop (0 + i * 5 + 1 * 5) = B ++ Z := by
   rw [List.append_assoc, show 0 + i * 5 + 1 * 5 = ((A ++ B ++ rm).take (0 + (i + 1) * 5)).length by rw [hQ]; omega, List.drop_left]
  rw [e1, e2, List.take_of_length_le (show (fR r).length ≤ 1 * 5 by exact Nat.le_refl _)] at hb
  have hrr := bx_ro (m := rs.length + 1) (cap := cap) (c := 5) hb (by
   simp only [List.length_append, hAl, hBl, hZl, List.length_cons, List.length_nil]; omega) hroom b6
  rw [show (A ++ fR r ++ (B ++ Z)).take ((rs.length + 1) * 5) = A ++ fR r ++ B by
   rw [← List.append_assoc, show (rs.length + 1) * 5 = (A ++ fR r ++ B).length by simp only [List.length_append, hAl, hBl, List.length_cons, List.length_nil]; omega, List.take_left]] at hrr
  exact Ret.mk ⟨_, rfl, hrr.pick [0] (by decide) rfl⟩
 ·refine Bn_gtT (by omega) (If_T (scBH (by omega) (by omega) ?_))
  refine Bn_ad (by omega) (by omega) (Bn_su (by omega) (by omega) ?_)
  rw [show (rs.length : Int) + ((1 : Nat) : Int) - (i : Int) = ((rs.length + 1 - i : Nat) : Int) by omega]
  have hsl := sl_bx (n := i) (c := 5) (cap := cap) (hb.get (i := 0) rfl : Blk _ _ _ _) (by rw [hcl]; omega) (by omega)
  have hAt : (A ++ B ++ rm).take (i * 5) = A := by rw [List.append_assoc, ← hAl, List.take_left]
  rw [hAt] at hsl
  refine apZ (by rfl) (by decide) Tryz.underlying3 hb hsl (by omega) (by omega) (by omega) fun g' G rm2 w hG1 hG2 hG3 hb => ?_
  have hG4 : A.length + rm2.length = G * 5 := by rw [← List.length_append]; exact hG3
  refine scBL (by omega) (by omega) ?_
  refine cpX (k := 1) hb 0 rfl (hb.sl (i := 2) rfl) (Nat.min_eq_left (by omega)) (fun y hy => hone y (List.mem_of_mem_take hy)) (by rw [List.length_append]; omega) fun w hb => ?_
  dsimp only [List.set] at hb
  obtain ⟨Z, hZ⟩ : ∃ Z, Z = (A ++ rm2).drop (0 + i * 5 + 1 * 5) := ⟨_, rfl⟩
  have hZl : Z.length = G * 5 - (i + 1) * 5 := by rw [hZ, List.length_drop, hG3]; omega
  rw [← hZ, show (A ++ rm2).take (0 + i * 5) = A by rw [Nat.zero_add, ← hAl, List.take_left], List.take_of_length_le (show (fR r).length ≤ 1 * 5 by exact Nat.le_refl _)] at hb
  replace hb := hb.dr
  refine Dv_ad (by omega) (by omega) ?_
  rw [eI]
  refine dscBL (by omega) (by omega) ?_
  have hsl2 := sl_bx (n := rs.length) (c := 5) (cap := cap) (hb.get (i := 1) rfl : Blk _ _ _ _) (by rw [hcl]; omega) hcn
  rw [show (A ++ B ++ rm).take (rs.length * 5) = A ++ B by rw [show rs.length * 5 = (A ++ B).length by rw [List.length_append, hAl, hBl]; omega, List.take_left]] at hsl2
  refine dscL (lo := i) hsl2 (by omega) fun v8 p8 => ?_
  have hys : ((A ++ B).drop (i * 5)).take ((rs.length - i) * 5) = B := by
   rw [← hAl, List.drop_left, List.take_of_length_le (by rw [hBl]; exact Nat.le_refl _)]
  refine cpX (k := rs.length - i) hb 0 rfl (p8.2 _ hsl2) (Nat.min_eq_left (by omega)) (by rw [hys]; exact honeB) (by
   simp only [List.length_append, hAl, hZl, List.length_cons, List.length_nil]; omega) fun w hb => ?_
  rw [hys] at hb
  dsimp only [List.set] at hb
  obtain ⟨Z2, hZ2⟩ : ∃ Z2, Z2 = (A ++ fR r ++ Z).drop (0 + (i + 1) * 5 + (rs.length - i) * 5) := ⟨_, rfl⟩
  have hZ2l : Z2.length = G * 5 - (rs.length + 1) * 5 := by
   rw [hZ2, List.length_drop]
   simp only [List.length_append, hAl, hZl, List.length_cons, List.length_nil]
   omega
  rw [← hZ2, show (A ++ fR r ++ Z).take (0 + (i + 1) * 5) = A ++ fR r by
   rw [show 0 + (i + 1) * 5 = (A ++ fR r).length by simp only [List.length_append, hAl, List.length_cons, List.length_nil]; omega, List.take_left]] at hb
  have hrr := bx_ro (m := i + (rs.length + 1 - i)) (cap := G) (c := 5) hb (by
   simp only [List.length_append, hAl, hBl, hZ2l, List.length_cons, List.length_nil]; omega) hG1 hG2
  rw [show (A ++ fR r ++ B ++ Z2).take ((i + (rs.length + 1 - i)) * 5) = A ++ fR r ++ B by
   rw [show (i + (rs.length + 1 - i)) * 5 = (A ++ fR r ++ B).length by simp only [List.length_append, hAl, hBl, List.length_cons, List.length_nil]; omega, List.take_left]] at hrr
  have hle : rs.length + 1 = i + (rs.length + 1 - i) := by omega
  exact Ret.mk ⟨_, rfl, (hrr.pick [0] (by decide) rfl).cst (by rw [← hle])⟩
theorem cl_ins {S : List Nat} {w0 w : World} {L : List Et} {v nv : Value} {rs : List RV} {r : RV} {i : Nat} {pan : List PanicEntry → World → Prop} {K : Value → World → Prop} (h : Hp S w0 w (ro tRd 5 nv 1 (fR r) :: ro tRd 5 v rs.length (rs.flatMap fR) :: L)) (hl : rs.length ≤ 1000) (hr : r.2.1.oneCell' = true ∧ r.2.2.oneCell' = true) (hrs : ∀ r ∈ rs, r.2.1.oneCell' = true ∧ r.2.2.oneCell' = true) (hi : i ≤ rs.length)
 (hk : ∀ u w1, Hp S w0 w1 (ro tRd 5 u (rs.length + 1) ((rs.take i ++ r :: rs.drop i).flatMap fR) :: L) → K u w1) : Cl Tryz.prog 72 #[v, .int .i64 i, nv] w pan K := by
 have hb := Hp.base (Lc := [ro tRd 5 nv 1 (fR r), ro tRd 5 v rs.length (rs.flatMap fR)]) (Lr := L) h fun e he => by
  rcases List.mem_cons.1 he with rfl | he
  ·exact ro_sm
  ·rw [List.mem_singleton.1 he]; exact ro_sm
 have hc : Calls Tryz.prog 72 #[v, .int .i64 i, nv] w (Ret fun q w' => ∃ u, q = u ∧ Hp ([ro tRd 5 nv 1 (fR r), ro tRd 5 v rs.length (rs.flatMap fR)].flatMap Et.ks) w w' [ro tRd 5 u (rs.length + 1) ((rs.take i ++ r :: rs.drop i).flatMap fR)]) := by
  rcases Nat.lt_or_ge i rs.length with h1 | h1
  ·exact c_InsG hb h1 hl hr hrs
  ·have : i = rs.length := by omega
   subst this
   exact c_InsE hb hl hr
 refine Cl_i n_slices_Insert_api_Reader_api_Reader hc ?_
 rintro u w1 ⟨_, rfl, h'⟩
 exact hk _ w1 (Hp.call (Lc := [ro tRd 5 nv 1 (fR r), ro tRd 5 v rs.length (rs.flatMap fR)]) (L' := [ro tRd 5 _ (rs.length + 1) ((rs.take i ++ r :: rs.drop i).flatMap fR)]) h h' fun e he => by
  rw [List.mem_singleton.1 he]; exact ro_sm)
theorem cnt_map {α β : Type} {g : α → β} {f : β → Int} {n : Int} : ∀ l : List α, cntL f n (l.map g) = cntL (fun y => f (g y)) n l
 | [] => rfl
 | y :: l => by
  have ih := cnt_map (g := g) (f := f) (n := n) l
  unfold cntL at ih ⊢
  rw [List.map_cons]
  by_cases h : f (g y) < n
  ·rw [List.takeWhile_cons_of_pos (by simpa using h), List.takeWhile_cons_of_pos (by simpa using h), List.length_cons, List.length_cons, ih]
  ·rw [List.takeWhile_cons_of_neg (by simpa using h), List.takeWhile_cons_of_neg (by simpa using h)]
   rfl
theorem got_new {a : Ab} {r u : Int} (hO : Srd.Ok a) : got a ⟨r, u, a.ro, 0⟩ = [] := by
 unfold Srd.got
 have e : (Srd.all a).filter (fun h => decide (h.2 < u ∧ Srd.roAt a.ro (Srd.slot h.1) < 0)) = [] := by
  refine List.filter_eq_nil_iff.2 fun y hy => ?_
  have := Srd.roAt_bd hO.ro (hO.slot hy)
  simp
  omega
 show srt (((Srd.all a).filter (fun h => decide (h.2 < u ∧ Srd.roAt a.ro (Srd.slot h.1) < 0))).map (·.1)) = []
 rw [e]
 rfl
theorem rs_one {w0 : World} {g : Nat} {S : List Nat} {x : Sx} {a : Ab} (hc : Cin g S w0 x a) : ∀ r ∈ x.rs, r.2.1.oneCell' = true ∧ r.2.2.oneCell' = true := fun r hr => by
 obtain ⟨e1, he1, hq1, _⟩ := has_O (rows := chL g x a (.slice none 0 0)) (rs := x.rs) (fun e he => by unfold chL; simp [he]) r hr
 obtain ⟨e2, he2, hq2, _⟩ := has_G (rows := chL g x a (.slice none 0 0)) (a := a) (rs := x.rs) (fun e he => by unfold chL; simp [he]) r hr
 exact ⟨(slc_c1 (hq1 _ (hc.h.ok e1 he1).get)).2, (slc_c1 (hq2 _ (hc.h.ok e2 he2).get)).2⟩
section
variable {w0 : World} {g : Nat} {S : List Nat} {x : Sx} {a : Ab} {r : Int} (hc : Cin g S w0 x a)
include hc
set_option maxHeartbeats 8000000 in
theorem c_openT (hno : ∀ y ∈ a.rd, y.id ≠ r) (hr : 0 ≤ r ∧ r ≤ 99) (hl : a.rd.length < 4) :
 Calls Tryz.prog 30 #[pr g 0, vX 7 f0 0 0 0 r] w0 (Ret fun q w' => Done g S w0 w' { a with rd := insR ⟨r, a.A.length, a.ro, 0⟩ a.rd } []) := by
 have hO := hc.ok
 have hk := hO.k
 have hrl := hO.ro.len
 have hnA := hO.nA
 have hrs := hc.rs
 have hrsl : x.rs.length = a.rd.length := by rw [← hrs, List.length_map]
 have hasc : x.rs.Pairwise fun a b => a.1.id < b.1.id := by
  have := hO.ids
  rw [← hrs, List.pairwise_map] at this
  exact this
 have hany : (x.rs.any fun y => decide (y.1.id = r)) = false := by
  refine List.any_eq_false.2 fun y hy => ?_
  have := hno y.1 (by rw [← hrs]; exact List.mem_map.2 ⟨y, hy, rfl⟩)
  simpa using this
 have hron := rs_one hc
 have h := hc.h
 unfold chL at h
 apply e_shard_change_open
 unfold s_shard_change_open
 refine bxA h fun g1 w h => ?_
 refine NcP_ok ?_
 replace h := h.dr
 refine dfS (dfS (dfS (dl1 h 1 rfl rfl (dfS (dl1 h 0 rfl rfl ?_)))))
 have hbs := c_BsRd (x := r) (qZ 4 h rfl) (by omega) hasc
 rw [hany] at hbs
 refine cl1 h n_slices_BinarySearchFunc_api_Reader_api_Reader_int hbs fun w h => ?_
 refine ExP2 (Un_F (Gd_T (faS (Gd_T (ld1 h 0 rfl rfl (Gd_T (cl1 h n_shard_in (c_inT hr) fun w h => ?_)))))))
 refine Pick_T (Gd_T (Gd_T (Nc_ok ?_)))
 refine Gd_T (faS (Gd_T (faS (Gd_T (faS (Gd_T (ld1 h 1 rfl rfl (Gd_T (leS (qZ 4 h rfl) ?_)))))))))
 refine Gd_T (Bn_ltT (by omega) (Pick_T (cl1 h n_shard_must c_mustT fun w h => ?_)))
 refine NcP_ok ?_
 replace h := h.dr
 refine dfS (dfS (dfS (dl1 h 1 rfl rfl (dfS (dl1 h 0 rfl rfl (NcP_ok ?_))))))
 refine dfS (dfS (dfS (dl1 h 1 rfl rfl (NcP_ok ?_))))
 refine dfS (dfS (dfS (dl1 h 1 rfl rfl ?_)))
 have hsl8 := h.sl (i := 3) rfl
 rw [← hrl] at hsl8
 refine clR (T := fun v => v) h n_slices_Clone_int_int (c_CloneIn hsl8 (by omega)) fun u w h => ?_
 refine kl1 h 2 rfl rfl (kl1 h 1 rfl rfl (kl1 h 2 rfl rfl (dbS (PC.cons (by rfl) (PC.cons (by rfl) (PC.cons (by first | assumption | exact qY 0 h rfl | exact qY 3 h rfl | exact qY 4 h rfl | exact qY 5 h rfl) PC.nil))) (by rfl) ?_)))
 refine bs1A h (by rfl) (by decide) (by rfl) (by decide) fun v1 w h => ?_
 refine kl1 h 3 rfl rfl ?_
 have hu1 := slc_c1 (qZ 1 h rfl)
 have h3 := Hp.perm h (List.Perm.cons _ (List.perm_middle (l₁ := [_, _, _, _, _])))
 refine cl_ins (r := (⟨r, a.A.length, a.ro, 0⟩, u, .slice none 0 0)) h3 (by omega) ⟨hu1.2, rfl⟩ hron (Srd.cnt_le (f := fun y : RV => y.1.id)) fun u2 w h => ?_
 refine NcP_ok ?_
 refine dfS (dfS (dfS (st1w h 3 rfl (qZ 0 h rfl) rfl fun w h => ?_)))
 dsimp only [List.set] at h
 have h4 := Hp.sub h (List.Sublist.cons_cons _ (List.Sublist.cons_cons _ (List.Sublist.cons _ (List.Sublist.refl _))))
 have h := Hp.perm h4 ((List.perm_append_comm (l₁ := [_, _]) (l₂ := [_, _, _])).append_right _)
 have h := Hp.perm (h.nil tFt 10) (List.perm_middle (l₁ := [_, _, _, _])).symm
 rw [← hrl] at h
 obtain ⟨i, hi⟩ : ∃ i, i = cntL (fun y : RV => y.1.id) r x.rs := ⟨_, rfl⟩
 have hlast := Srd.cnt_le (f := fun y : RV => y.1.id) (n := r) (l := x.rs)
 rw [← hi] at h hlast
 obtain ⟨rs', hrs'⟩ : ∃ rs', rs' = x.rs.take i ++ (⟨r, a.A.length, a.ro, 0⟩, u, .slice none 0 0) :: x.rs.drop i := ⟨_, rfl⟩
 rw [← hrs'] at h
 have hmem : ∀ q ∈ rs', q = (⟨r, a.A.length, a.ro, 0⟩, u, .slice none 0 0) ∨ q ∈ x.rs := fun q hq => by
  rw [hrs'] at hq
  rcases List.mem_append.1 hq with hq | hq
  ·exact .inr (List.mem_of_mem_take hq)
  ·rcases List.mem_cons.1 hq with hq | hq
   ·exact .inl hq
   ·exact .inr (List.mem_of_mem_drop hq)
 have hmap : rs'.map (·.1) = insR ⟨r, a.A.length, a.ro, 0⟩ a.rd := by
  have hcm := cnt_map (g := fun y : RV => y.1) (f := fun y : Rd => y.id) (n := r) x.rs
  rw [hrs] at hcm
  rw [Srd.insR_cut, hcm, ← hi, hrs', List.map_append, List.map_cons, List.map_take, List.map_drop, hrs]
 refine Ret.mk ⟨{ x with dv := u2, rs := rs' }, .slice none 0 0, fin_rows (x := { x with dv := u2, rs := rs' }) (a := { a with rd := insR ⟨r, a.A.length, a.ro, 0⟩ a.rd }) ?_ h (has_S (a := a) (us := x.ls) fun e he => by simp [he]) hmap (fun q hq => ?_) (fun q hq => ?_) (.inl ⟨rfl, rfl⟩)⟩
 ·have := congrArg List.length hrs'
  rw [List.length_append, List.length_cons, List.length_take, List.length_drop] at this
  show x.rs.length + 1 = rs'.length
  omega
 ·rcases hmem q hq with rfl | hq
  ·exact Has.ro (t := tIn) (by simp)
  ·exact has_O (rs := x.rs) (fun e he => by simp [he]) q hq
 ·rcases hmem q hq with rfl | hq
  ·have e0 : got a ⟨r, a.A.length, a.ro, 0⟩ = [] := got_new hO
   have e1 : got { a with rd := insR ⟨r, a.A.length, a.ro, 0⟩ a.rd } ⟨r, a.A.length, a.ro, 0⟩ = [] := e0
   show Has _ 10 (.slice none 0 0) (got { a with rd := insR ⟨r, a.A.length, a.ro, 0⟩ a.rd } ⟨r, a.A.length, a.ro, 0⟩).length ((got { a with rd := insR ⟨r, a.A.length, a.ro, 0⟩ a.rd } ⟨r, a.A.length, a.ro, 0⟩).flatMap fF)
   rw [e1]
   exact Has.ro (t := tFt) (by simp)
  ·exact has_G (a := a) (rs := x.rs) (fun e he => by simp [he]) q hq
theorem c_openF (hno : ¬ ((∀ y ∈ a.rd, y.id ≠ r) ∧ (0 ≤ r ∧ r ≤ 99) ∧ a.rd.length < 4)) :
 Calls Tryz.prog 30 #[pr g 0, vX 7 f0 0 0 0 r] w0 (Fai cR S w0) := by
 have hO := hc.ok
 have hnr := hO.nr
 have hrs := hc.rs
 have hrsl : x.rs.length = a.rd.length := by rw [← hrs, List.length_map]
 have hasc : x.rs.Pairwise fun a b => a.1.id < b.1.id := by
  have := hO.ids
  rw [← hrs, List.pairwise_map] at this
  exact this
 obtain ⟨R, hR⟩ : ∃ R, R = Fai cR S w0 := ⟨_, rfl⟩
 rw [← hR]
 have h := hc.h
 unfold chL at h
 by_cases hn : ∀ y ∈ a.rd, y.id ≠ r
 ·have hany : (x.rs.any fun y => decide (y.1.id = r)) = false := by
   refine List.any_eq_false.2 fun y hy => ?_
   have := hn y.1 (by rw [← hrs]; exact List.mem_map.2 ⟨y, hy, rfl⟩)
   simpa using this
  by_cases hr : 0 ≤ r ∧ r ≤ 99
  ·have hl : ¬ a.rd.length < 4 := fun hq => hno ⟨hn, hr, hq⟩
   apply e_shard_change_open
   unfold s_shard_change_open
   refine bxA h fun g1 w h => ?_
   refine NcP_ok ?_
   replace h := h.dr
   refine dfS (dfS (dfS (dl1 h 1 rfl rfl (dfS (dl1 h 0 rfl rfl ?_)))))
   have hbs := c_BsRd (x := r) (qZ 4 h rfl) (by omega) hasc
   rw [hany] at hbs
   refine cl1 h n_slices_BinarySearchFunc_api_Reader_api_Reader_int hbs fun w h => ?_
   refine ExP2 (Un_F (Gd_T (faS (Gd_T (ld1 h 0 rfl rfl (Gd_T (cl1 h n_shard_in (c_inT hr) fun w h => ?_)))))))
   refine Pick_T (Gd_T (Gd_T (Nc_ok ?_)))
   refine Gd_T (faS (Gd_T (faS (Gd_T (faS (Gd_T (ld1 h 1 rfl rfl (Gd_T (leS (qZ 4 h rfl) ?_)))))))))
   refine Gd_T (Bn_ltF (by omega) (Pick_T ?_))
   exact clp h n_shard_must c_mustF hR
  ·apply e_shard_change_open
   unfold s_shard_change_open
   refine bxA h fun g1 w h => ?_
   refine NcP_ok ?_
   replace h := h.dr
   refine dfS (dfS (dfS (dl1 h 1 rfl rfl (dfS (dl1 h 0 rfl rfl ?_)))))
   have hbs := c_BsRd (x := r) (qZ 4 h rfl) (by omega) hasc
   rw [hany] at hbs
   refine cl1 h n_slices_BinarySearchFunc_api_Reader_api_Reader_int hbs fun w h => ?_
   refine ExP2 (Un_F (Gd_T (faS (Gd_T (ld1 h 0 rfl rfl (Gd_T (cl1 h n_shard_in (c_inF hr) fun w h => ?_)))))))
   refine Pick_T (Gd_FT (Gd_FT (Gd_FT (Gd_FT (Gd_FT (Gd_FT (Gd_FT (Gd_FT (Pick_F ?_)))))))))
   exact clp h n_shard_must c_mustF hR
 ·have hany : (x.rs.any fun y => decide (y.1.id = r)) = true := by
   refine List.any_eq_true.2 ?_
   apply Classical.byContradiction
   intro hq
   refine hn fun y hy he => hq ?_
   rw [← hrs] at hy
   obtain ⟨z, hz, rfl⟩ := List.mem_map.1 hy
   exact ⟨z, hz, decide_eq_true he⟩
  apply e_shard_change_open
  unfold s_shard_change_open
  refine bxA h fun g1 w h => ?_
  refine NcP_ok ?_
  replace h := h.dr
  refine dfS (dfS (dfS (dl1 h 1 rfl rfl (dfS (dl1 h 0 rfl rfl ?_)))))
  have hbs := c_BsRd (x := r) (qZ 4 h rfl) (by omega) hasc
  rw [hany] at hbs
  refine cl1 h n_slices_BinarySearchFunc_api_Reader_api_Reader_int hbs fun w h => ?_
  refine ExP2 (Un_T (Gd_FT (Gd_FT (Gd_FT (Pick_F (Gd_FT (Gd_FT (Gd_FT (Gd_FT (Gd_FT (Gd_FT (Gd_FT (Gd_FT (Pick_F ?_))))))))))))))
  exact clp h n_shard_must c_mustF hR
end
set_option maxHeartbeats 1000000 in
theorem c_DelR {S : List Nat} {w0 : World} {v : Value} {rs : List RV} {i : Nat} (h : Hp S w0 w0 [ro tRd 5 v rs.length (rs.flatMap fR)]) (hi : i < rs.length) (hl : rs.length ≤ 1000) (h1 : ∀ r ∈ rs, r.2.1.oneCell' = true ∧ r.2.2.oneCell' = true) :
 Calls Tryz.prog 76 #[v, .int .i64 i, .int .i64 ((i : Int) + 1)] w0 (Ret fun q w' => ∃ u, q = u ∧ Hp S w0 w' [ro tRd 5 u (rs.eraseIdx i).length ((rs.eraseIdx i).flatMap fR)]) := by
 have hone := all_fR h1
 have h0 := (h.get (i := 0) rfl : World.ownsRow _ _ _ _ _ _ _)
 rcases h0.2 with ⟨rfl, hn⟩ | ⟨g, cap, cur, rfl, h3, h4, h5, h6, h7, h8⟩
 ·omega
 obtain ⟨rm, hcn, hcl, hb⟩ := ro_bx h
 have hfl := flat_len (f := fR) (c := 5) (fun _ => rfl) rs
 have hii : ((i : Int) + 1) = ((i + 1 : Nat) : Int) := rfl
 have hsl : SlC w0 5 (.slice (some ⟨g, 0, none⟩) rs.length cap) rs.length (rs.flatMap fR) := ownsRow_sl h0
 apply e_slices_Delete_api_Reader_api_Reader
 unfold s_slices_Delete_api_Reader_api_Reader
 refine leB ?_
 rw [hii]
 refine scB3 (by omega) (by omega) hcn fun v' => ?_
 refine Bn_eqF (by omega) (If_F (leB ?_))
 replace hb := hb.dr
 refine dscBH (by omega) (by omega) ?_
 refine dscL (lo := i + 1) (n := rs.length) (xs := rs.flatMap fR) (c := 5) (by have := sl_bx (n := rs.length) (c := 5) (cap := cap) (hb.get (i := 0) rfl : Blk _ _ _ _) (by rw [List.length_append, hfl]; omega) hcn; rwa [List.take_append_of_le_length (by rw [hfl]; exact Nat.le_refl _), List.take_of_length_le (by rw [hfl]; exact Nat.le_refl _)] at this) (by omega) fun v8 p8 => ?_
 obtain ⟨m, hm⟩ : ∃ m, m = rs.length - (i + 1) := ⟨_, rfl⟩
 rw [← hm] at p8
 have hel : (rs.eraseIdx i).length = i + m := by rw [List.length_eraseIdx, if_pos hi]; omega
 have hA : (rs.flatMap fR ++ rm).take (i * 5) = (rs.take i).flatMap fR := by
  rw [List.take_append_of_le_length (by rw [hfl]; omega), fR_take]
 have hE : (rs.eraseIdx i).flatMap fR = (rs.flatMap fR ++ rm).take (i * 5) ++ (rs.flatMap fR).drop ((i + 1) * 5) := by
  rw [hA, fR_drop, ← List.flatMap_append, List.eraseIdx_eq_take_drop_succ]
 have hEl := flat_len (f := fR) (c := 5) (fun _ => rfl) (rs.eraseIdx i)
 rw [hel] at hEl ⊢
 refine apBx (by rfl) hb 0 rfl (p8.2 _ (by
  have := sl_bx (n := rs.length) (c := 5) (cap := cap) (hb.get (i := 0) rfl : Blk _ _ _ _) (by rw [List.length_append, hfl]; omega) hcn
  rwa [List.take_append_of_le_length (by rw [hfl]; exact Nat.le_refl _), List.take_of_length_le (by rw [hfl]; exact Nat.le_refl _)] at this)) (fun y hy => List.all_eq_true.1 hone y (List.mem_of_mem_drop hy)) (by omega) (by rw [hcl]; omega) fun w hb => ?_
 dsimp only [List.set] at hb
 rw [← hE] at hb
 refine leB ?_
 refine scBX (by omega) hcn (by omega) ?_
 rw [Nat.zero_add]
 have hXl : ((rs.eraseIdx i).flatMap fR ++ (rs.flatMap fR ++ rm).drop ((i + m) * 5)).length = cap * 5 := by
  rw [List.length_append, hEl, List.length_drop, hcl]; omega
 refine clS (by rfl) (by decide) hb 0 rfl (by rw [hXl]; omega) fun ys2 w hy2 hb => ?_
 dsimp only [List.set] at hb
 rw [show ((rs.eraseIdx i).flatMap fR ++ (rs.flatMap fR ++ rm).drop ((i + m) * 5)).take ((i + m) * 5) = (rs.eraseIdx i).flatMap fR by
  rw [List.take_append_of_le_length (by rw [hEl]; exact Nat.le_refl _), List.take_of_length_le (by rw [hEl]; exact Nat.le_refl _)]] at hb
 have hr := bx_ro (m := i + m) (cap := cap) (c := 5) hb (by
  rw [List.length_append, List.length_append, hEl, hy2, List.length_drop, hXl]; omega) (by omega) h6
 rw [List.append_assoc, List.take_append_of_le_length (by rw [hEl]; exact Nat.le_refl _), List.take_of_length_le (by rw [hEl]; exact Nat.le_refl _)] at hr
 exact Ret.mk ⟨_, rfl, hr⟩
theorem cl_delR {S : List Nat} {w0 w : World} {L : List Et} {v : Value} {rs : List RV} {i n : Nat} {z : Int} {pan : List PanicEntry → World → Prop} {K : Value → World → Prop} (h : Hp S w0 w (ro tRd 5 v n (rs.flatMap fR) :: L)) (hn : n = rs.length) (hi : i < rs.length) (hl : rs.length ≤ 1000) (h1 : ∀ r ∈ rs, r.2.1.oneCell' = true ∧ r.2.2.oneCell' = true) (hz : z = (i : Int) + 1)
 (hk : ∀ u w1, Hp S w0 w1 (ro tRd 5 u (rs.eraseIdx i).length ((rs.eraseIdx i).flatMap fR) :: L) → K u w1) : Cl Tryz.prog 76 #[v, .int .i64 i, .int .i64 z] w pan K := by
 subst hz
 subst hn
 have hb := Hp.base (Lc := [ro tRd 5 v rs.length (rs.flatMap fR)]) (Lr := L) h fun e he => by
  rw [List.mem_singleton.1 he]; exact ro_sm
 refine Cl_i n_slices_Delete_api_Reader_api_Reader (c_DelR hb hi hl h1) ?_
 rintro u w1 ⟨_, rfl, h'⟩
 exact hk _ w1 (Hp.call (Lc := [ro tRd 5 v rs.length (rs.flatMap fR)]) (L' := [ro tRd 5 _ (rs.eraseIdx i).length ((rs.eraseIdx i).flatMap fR)]) h h' fun e he => by
  rw [List.mem_singleton.1 he]; exact ro_sm)
end Go.Proofs.YthdhnhghjecfkaaGreat
namespace Go.Proofs.YthdhnhghjecfkaaGreat
open Go Go.Eng Go.Proofs Go.RowKit
open Go.Srd (Ft VF Hd Mv mv0 Rd Ab Cmd got ltF sam srt plh ofS gotL delN cntL insR rdd)
set_option maxRecDepth 100000
theorem c_read1 {w0 : World} {g : Nat} {q : RV} {r : Int} (hb : Blk w0 g tX (fX 8 f0 0 0 0 r)) : Calls Tryz.prog 75 #[vR q, pr g 0] w0 (Ret fun r' w' => Ext w0 w' ∧ r' = .bool (decide (q.1.id = r))) := by
 apply e_shard_change_read_1
 unfold s_shard_change_read_1
 have h := Hp.init [] w0
 by_cases he : q.1.id = r
 ·rw [decide_eq_true he]
  refine bxA h fun g1 w h => ?_
  refine faS (ld1 h 0 rfl rfl (faS (lg1 h ‹_› (by rfl) ?_)))
  refine Bn_eqT (by omega) ?_
  exact Ret.mk ⟨h.ext, rfl⟩
 ·rw [decide_eq_false he]
  refine bxA h fun g1 w h => ?_
  refine faS (ld1 h 0 rfl rfl (faS (lg1 h ‹_› (by rfl) ?_)))
  refine Bn_eqF (by omega) ?_
  exact Ret.mk ⟨h.ext, rfl⟩
theorem fR_setj4 {l : List RV} {j : Nat} {r : RV} {u : Value} (h : l[j]? = some r) : (l.flatMap fR).set (0 + j * 5 + 4) u = (l.set j (r.1, r.2.1, u)).flatMap fR := by
 obtain ⟨hj, rfl⟩ := List.getElem?_eq_some_iff.1 h
 have h1 : l = l.take j ++ l[j] :: l.drop (j + 1) := by rw [← List.drop_eq_getElem_cons hj, List.take_append_drop]
 have h2 : (l.take j).length = j := by rw [List.length_take]; omega
 have h3 := fR_set4 (A := l.take j) (B := l.drop (j + 1)) (r := l[j]) (u := u)
 rw [h2, ← h1] at h3
 rw [h3]
 congr 1
 rw [List.set_eq_take_append_cons_drop, if_pos hj]
theorem fR_set3 {A B : List RV} {r : RV} {z : Int} : ((A ++ r :: B).flatMap fR).set (0 + A.length * 5 + 3) (.int .i64 z) = (A ++ ({ r.1 with nx := z }, r.2.1, r.2.2) :: B).flatMap fR := by
 have hl := flat_len (f := fR) (c := 5) (fun _ => rfl) A
 rw [List.flatMap_append, List.flatMap_append, List.set_append_right _ _ (by omega), show 0 + A.length * 5 + 3 - (A.flatMap fR).length = 3 by omega]
 rfl
theorem fR_setj3 {l : List RV} {j : Nat} {r : RV} {z : Int} (h : l[j]? = some r) : (l.flatMap fR).set (0 + j * 5 + 3) (.int .i64 z) = (l.set j ({ r.1 with nx := z }, r.2.1, r.2.2)).flatMap fR := by
 obtain ⟨hj, rfl⟩ := List.getElem?_eq_some_iff.1 h
 have h1 : l = l.take j ++ l[j] :: l.drop (j + 1) := by rw [← List.drop_eq_getElem_cons hj, List.take_append_drop]
 have h2 : (l.take j).length = j := by rw [List.length_take]; omega
 have h3 := fR_set3 (A := l.take j) (B := l.drop (j + 1)) (r := l[j]) (z := z)
 rw [h2, ← h1] at h3
 rw [h3]
 congr 1
 rw [List.set_eq_take_append_cons_drop, if_pos hj]
theorem map_erase {α β : Type} (f : α → β) (l : List α) (j : Nat) : (l.eraseIdx j).map f = (l.map f).eraseIdx j := by
 rw [List.eraseIdx_eq_take_drop_succ, List.eraseIdx_eq_take_drop_succ, List.map_append, List.map_take, List.map_drop]
theorem chL_takeR {S : List Nat} {w0 w : World} {g : Nat} {x : Sx} {a : Ab} {fv : Value} {i j : Nat} {v : Value} {q : RV} (h : Hp S w0 w (chL g x a fv)) (hi : x.ls[i]? = some v) (hj : x.rs[j]? = some q) :
 Hp S w0 w (ro tFt 10 q.2.2 (got a q.1).length ((got a q.1).flatMap fF) :: ro tIn 1 q.2.1 q.1.ro.length (q.1.ro.flatMap fI) :: ro tHd 11 v (Srd.store a i).length ((Srd.store a i).flatMap fH) :: bx g tCh (cS x a ++ [fv]) :: ro tHs 1 x.sv a.k (x.ls.flatMap fV) :: ro tIn 1 x.rv 8 (a.ro.flatMap fI) :: ro tRd 5 x.dv x.rs.length (x.rs.flatMap fR) :: (ros tHd 11 ((rwS a x.ls).eraseIdx i) ++ (ros tIn 1 ((rwO x.rs).eraseIdx j) ++ ros tFt 10 ((rwG a x.rs).eraseIdx j)))) := by
 have h := chL_take h hi
 have eo : (rwO x.rs)[j]? = some ⟨q.2.1, q.1.ro.length, q.1.ro.flatMap fI⟩ := by unfold rwO; rw [List.getElem?_map, hj]; rfl
 have eg : (rwG a x.rs)[j]? = some ⟨q.2.2, (got a q.1).length, (got a q.1).flatMap fF⟩ := by unfold rwG; rw [List.getElem?_map, hj]; rfl
 obtain ⟨H, hH⟩ : ∃ H : List Et, H = [ro tHd 11 v (Srd.store a i).length ((Srd.store a i).flatMap fH), bx g tCh (cS x a ++ [fv]), ro tHs 1 x.sv a.k (x.ls.flatMap fV), ro tIn 1 x.rv 8 (a.ro.flatMap fI), ro tRd 5 x.dv x.rs.length (x.rs.flatMap fR)] := ⟨_, rfl⟩
 have h0 : Hp S w0 w (H ++ (ros tHd 11 ((rwS a x.ls).eraseIdx i) ++ (ros tIn 1 (rwO x.rs) ++ ros tFt 10 (rwG a x.rs)))) := by rw [hH]; exact h
 rw [← List.append_assoc] at h0
 have h1 := Hp.perm h0 (List.perm_append_comm (l₁ := H ++ ros tHd 11 ((rwS a x.ls).eraseIdx i)))
 rw [List.append_assoc] at h1
 have h2 := ros_take eo h1
 have h3 := Hp.perm h2 ((List.Perm.cons _ ((List.perm_append_comm (l₁ := ros tIn 1 ((rwO x.rs).eraseIdx j))).trans (by rw [List.append_assoc]))).trans (List.perm_middle (l₁ := ros tFt 10 (rwG a x.rs))).symm)
 have h4 := ros_take eg h3
 refine Hp.perm h4 (List.Perm.cons _ ?_)
 show (ros tFt 10 ((rwG a x.rs).eraseIdx j) ++ (ro tIn 1 q.2.1 q.1.ro.length (q.1.ro.flatMap fI) :: ((H ++ ros tHd 11 ((rwS a x.ls).eraseIdx i)) ++ ros tIn 1 ((rwO x.rs).eraseIdx j)))).Perm _
 refine (List.perm_middle).trans (List.Perm.cons _ ?_)
 refine List.perm_append_comm.trans ?_
 rw [hH, List.append_assoc, List.append_assoc]
 exact List.Perm.refl _
section
variable {w0 : World} {g : Nat} {S : List Nat} {x : Sx} {a : Ab} {r : Int} (hc : Cin g S w0 x a)
include hc
set_option maxHeartbeats 8000000 in
theorem c_readT {j : Nat} {q : RV} (hj : x.rs[j]? = some q) (hid : q.1.id = r) (hfj : ∀ y ∈ x.rs.take j, y.1.id ≠ r) :
 Calls Tryz.prog 31 #[pr g 0, vX 8 f0 0 0 0 r] w0 (Ret fun _ w' => if q.1.nx + 1 = a.k then Done g S w0 w' { a with rd := a.rd.filter fun y => y.id ≠ r } (srt (((Srd.all a).filter fun h => decide (h.2 < q.1.up)).map (·.1)))
  else Done g S w0 w' { a with rd := a.rd.map fun y => if y.id = r then { y with nx := y.nx + 1 } else y } []) := by
 have hO := hc.ok
 have hk := hO.k
 have hrl := hO.ro.len
 have hnA := hO.nA
 have hnr := hO.nr
 have hrs := hc.rs
 have hrsl : x.rs.length = a.rd.length := by rw [← hrs, List.length_map]
 have hjl : j < x.rs.length := (List.getElem?_eq_some_iff.1 hj).1
 have hqa : q.1 ∈ a.rd := by rw [← hrs]; exact List.mem_map.2 ⟨q, List.mem_of_getElem? hj, rfl⟩
 have hqo := hO.rd _ hqa
 have harj : a.rd[j]? = some q.1 := by rw [← hrs, List.getElem?_map, hj]; rfl
 have hnx := hqo.nx
 refine Exists.elim (p := fun v => x.ls[q.1.nx.toNat]? = some v) ⟨_, List.getElem?_eq_getElem (by rw [hc.ls]; omega)⟩ fun v hvx => ?_
 have hzz : ((q.1.nx.toNat : Nat) : Int) = q.1.nx := by omega
 have svx : Seg (x.ls.flatMap fV) (q.1.nx.toNat * 1) (fV v) := flat_seg (f := fV) (fun _ => rfl) hvx
 have h := chL_takeR hc.h hvx hj
 rw [hzz] at h
 have hsl : (Srd.store a q.1.nx).length ≤ 400 := Nat.le_trans (Srd.store_len a q.1.nx) hnA
 have hgl := Srd.got_len a q.1
 have htr := tr_store (i := q.1.nx) hO
 obtain ⟨rest, hrest⟩ : ∃ rest, rest = ros tHd 11 ((rwS a x.ls).eraseIdx q.1.nx.toNat) ++ (ros tIn 1 ((rwO x.rs).eraseIdx j) ++ ros tFt 10 ((rwG a x.rs).eraseIdx j)) := ⟨_, rfl⟩
 rw [← hrest] at h
 have sq : Seg (x.rs.flatMap fR) (j * 5) (fR q) := flat_seg (f := fR) (fun _ => rfl) hj
 obtain ⟨R, hR⟩ : ∃ R : Ending → World → Prop, R = Ret fun _ w' => if q.1.nx + 1 = a.k then Done g S w0 w' { a with rd := a.rd.filter fun y => y.id ≠ r } (srt (((Srd.all a).filter fun h => decide (h.2 < q.1.up)).map (·.1)))
  else Done g S w0 w' { a with rd := a.rd.map fun y => if y.id = r then { y with nx := y.nx + 1 } else y } [] := ⟨_, rfl⟩
 have hfin : ∀ w', (if q.1.nx + 1 = a.k then Done g S w0 w' { a with rd := a.rd.filter fun y => y.id ≠ r } (srt (((Srd.all a).filter fun h => decide (h.2 < q.1.up)).map (·.1)))
  else Done g S w0 w' { a with rd := a.rd.map fun y => if y.id = r then { y with nx := y.nx + 1 } else y } []) → R (.returned (.tuple #[])) w' := fun w' hh => by rw [hR]; exact Ret.mk hh
 rw [← hR]
 clear hR
 apply e_shard_change_read
 unfold s_shard_change_read
 refine bxA h fun g1 w h => ?_
 refine Nc_ok ?_
 refine faS (faS (faS (ld1 h 4 rfl rfl ?_)))
 have hix := c_IxRd (w0 := w) (p := fun y => decide (y.1.id = r)) (caps := #[pr g1 0]) (qZ 7 h rfl) (by omega) n_shard_change_read_1 fun {W q} hr e => c_read1 (Blk.ext (h.get (i := 0) rfl) e)
 rw [ixOf_some hj (decide_eq_true hid) fun y hy => decide_eq_false (hfj y hy)] at hix
 refine cl1 h n_slices_IndexFunc_api_Reader_api_Reader hix fun w h => ?_
 refine Bn_geT (by omega) (cl1 h n_shard_must c_mustT fun w h => ?_)
 refine Nc_ok ?_
 refine faS (faS (faS (ld1 h 4 rfl rfl (iaR h 7 rfl (by omega) fun zg zk zv => ?_))))
 refine NcP_ok ?_
 replace h := h.dr
 refine dfS (dfS (dfS (dl1 h 4 rfl rfl (NcP_ok ?_))))
 refine dfS (dr1 h 7 rfl ‹_› sq (by rfl) ?_)
 refine diRz h 5 rfl (by omega) (by omega) fun zg zk zv => ?_
 refine dr0 h 5 rfl ‹_› svx (by rfl) ?_
 refine dlS (qZ 3 h rfl) ?_
 rename_i zg1 zk1 zv1
 have e0 : x.rs.set j (q.1, q.2.1, q.2.2) = x.rs := by
  obtain ⟨hj2, hq2⟩ := List.getElem?_eq_some_iff.1 hj
  have : (q.1, q.2.1, q.2.2) = x.rs[j] := hq2.symm
  rw [this]; exact List.set_getElem_self hj2
 have hat : ∀ u : Value, (x.rs.set j (q.1, q.2.1, u))[j]? = some (q.1, q.2.1, u) := fun u => List.getElem?_set_self hjl
 have hst : ∀ u u' : Value, (x.rs.set j (q.1, q.2.1, u)).set j (q.1, q.2.1, u') = x.rs.set j (q.1, q.2.1, u') := fun u u' => List.set_set ..
 refine Lp1.mk (fun i W => ∃ (n : Nat) (gv : Value), n ≤ (Srd.store a q.1.nx).length ∧ i = .int .i64 n ∧
  Hp S w0 W (bx g1 tX (fX 8 f0 0 0 0 r) :: ro tFt 10 gv (got a q.1 ++ rdd q.1 ((Srd.store a q.1.nx).take n)).length ((got a q.1 ++ rdd q.1 ((Srd.store a q.1.nx).take n)).flatMap fF) :: ro tIn 1 q.2.1 q.1.ro.length (q.1.ro.flatMap fI) :: ro tHd 11 v (Srd.store a q.1.nx).length ((Srd.store a q.1.nx).flatMap fH) :: bx g tCh (cS x a ++ [.slice none 0 0]) :: ro tHs 1 x.sv a.k (x.ls.flatMap fV) :: ro tIn 1 x.rv 8 (a.ro.flatMap fI) :: ro tRd 5 x.dv x.rs.length ((x.rs.set j (q.1, q.2.1, gv)).flatMap fR) :: rest))
  (fun i _ => match i with | .int _ i' => (Srd.store a q.1.nx).length - i'.toNat | _ => 0) ⟨0, q.2.2, by omega, rfl, ?_⟩ ?_
 ·rw [e0, List.take_zero]
  have : got a q.1 ++ rdd q.1 [] = got a q.1 := List.append_nil _
  rw [this]
  exact h
 clear h
 rintro _ W ⟨n, gv, hn, rfl, h⟩
 have sg : Seg ((x.rs.set j (q.1, q.2.1, gv)).flatMap fR) (j * 5) [.int .i64 q.1.id, .int .i64 q.1.up, q.2.1, .int .i64 q.1.nx, gv] := flat_seg (f := fR) (fun _ => rfl) (hat gv)
 by_cases hnl : n < (Srd.store a q.1.nx).length
 ·refine Exists.elim (p := fun y => (Srd.store a q.1.nx)[n]? = some y) ⟨_, List.getElem?_eq_getElem hnl⟩ fun y hy => ?_
  have sy : Seg ((Srd.store a q.1.nx).flatMap fH) (n * 11) (fH y) := flat_seg (f := fH) (fun _ => rfl) hy
  have hyt := htr y (List.mem_of_getElem? hy)
  have hsn := Srd.rdd_snoc (r := q.1) hy
  have hll := Srd.rdd_len q.1 ((Srd.store a q.1.nx).take n)
  rw [List.length_take] at hll
  by_cases hup : y.2 < q.1.up
  ·have h8 := hqo.ro.len
   have sr : Seg (q.1.ro.flatMap fI) ((y.1.tr % 8).toNat * 1) (fI (Srd.roAt q.1.ro (y.1.tr % 8))) := by
    refine flat_seg (f := fI) (fun _ => rfl) ?_
    unfold Srd.roAt
    rw [List.getD_eq_getElem?_getD, List.getElem?_eq_getElem (by omega)]
    rfl
   refine Bn_ltT (by omega) (If_T (iaR h 3 rfl (by omega) fun zg zk zv => ?_))
   refine lrA h 3 rfl ‹_› sy (by rfl) ?_
   refine alS h fun g2 w h => ?_
   refine stA h 0 rfl rfl rfl rfl fun w h => ?_
   replace h := h.dr
   refine dfS (dl1 h 0 rfl rfl (NcP_ok ?_))
   refine dfS (dr1 h 8 rfl ‹_› ‹_› (by rfl) ?_)
   refine Dv_ltT (by omega) (GdP_T (GdP_T (NcP_ok ?_)))
   refine GdP_T (dfS (GdP_T (dr1 h 8 rfl ‹_› ‹_› (by rfl) ?_)))
   refine GdP_T (dfS (GdP_T (dfS (GdP_T (dl1 h 0 rfl rfl (GdP_T (GdP_T (NcP_ok ?_))))))))
   refine GdP_T (dfS (GdP_T (dr1 h 8 rfl ‹_› ‹_› (by rfl) ?_)))
   refine Gd_T ?_
   dsimp only [List.set] at h
   refine cl1 h n_shard_Slot (c_Slot hyt) fun w h => ?_
   by_cases hat2 : Srd.roAt q.1.ro (y.1.tr % 8) = q.1.nx
   ·rw [if_pos ⟨hup, hat2⟩] at hsn
    have hl2 : (got a q.1 ++ rdd q.1 ((Srd.store a q.1.nx).take n)).length ≤ 1000 := by rw [List.length_append]; omega
    have hl3 : (got a q.1 ++ rdd q.1 ((Srd.store a q.1.nx).take (n + 1))) = (got a q.1 ++ rdd q.1 ((Srd.store a q.1.nx).take n)) ++ [y.1] := by rw [hsn, List.append_assoc]
    refine Kg_T ?_
    refine kr1 h 8 rfl ‹_› ‹_› (by rfl) ?_
    refine Kg_T ?_
    refine kr1 h 8 rfl ‹_› ‹_› (by rfl) ?_
    refine GdP_T (diRz h 3 rfl (by omega) (by omega) fun zg zk zv => ?_)
    refine GdP_T (dr0 h 3 rfl ‹_› sr (by rfl) ?_)
    refine GdP_T (Dv_eqT (by omega) (PickP_T (If_T (NcP_ok ?_))))
    replace h := h.dr
    refine dfS (dr1 h 8 rfl ‹_› ‹_› (by rfl) ?_)
    refine dfS (dlA h 0 rfl rfl ?_)
    refine bs1A h (by rfl) (by decide) (by rfl) (by decide) fun v1 w h => ?_
    refine kr1 h 9 rfl ‹_› ‹_› (by rfl) ?_
    refine apR (by rfl) (by decide) h 3 rfl (qZ 0 h rfl) (by first | rfl | assumption) (by omega) fun v2 w h => ?_
    refine NcP_ok ?_
    refine dfS ?_
    dsimp only [List.set] at h
    have hc4 := slc_c1 (qZ 3 h rfl)
    refine stR1 h 9 rfl zv1 hc4.1 hc4.2 (by omega) fun w h => ?_
    dsimp only [List.set] at h
    have e4 := fR_setj4 (u := v2) (hat gv)
    rw [hst] at e4
    rw [show List.set ((x.rs.set j (q.1, q.2.1, gv)).flatMap fR) (0 + j * 5 + 4) v2 = _ from e4] at h
    have h := h.sub (List.Sublist.cons _ (List.Sublist.cons _ (List.Sublist.refl _)))
    refine Bn_ad (by omega) (by omega) ?_
    refine ⟨⟨n + 1, v2, by omega, rfl, ?_⟩, by show (Srd.store a q.1.nx).length - ((n : Int) + 1).toNat < (Srd.store a q.1.nx).length - (n : Int).toNat; omega⟩
    rw [hl3, List.length_append, List.flatMap_append]
    exact h
   ·rw [if_neg fun hc => hat2 hc.2, List.append_nil] at hsn
    refine Kg_T ?_
    refine kr1 h 8 rfl ‹_› ‹_› (by rfl) ?_
    refine Kg_T ?_
    refine kr1 h 8 rfl ‹_› ‹_› (by rfl) ?_
    refine GdP_T (diRz h 3 rfl (by omega) (by omega) fun zg zk zv => ?_)
    refine GdP_T (dr0 h 3 rfl ‹_› sr (by rfl) ?_)
    refine GdP_T (Dv_eqF (by omega) (PickP_T (If_F (Bn_ad (by omega) (by omega) ?_))))
    rw [← hsn] at h
    exact ⟨⟨n + 1, gv, by omega, rfl, h.drop 1⟩, by show (Srd.store a q.1.nx).length - ((n : Int) + 1).toNat < (Srd.store a q.1.nx).length - (n : Int).toNat; omega⟩
  ·rw [if_neg fun hc => hup hc.1, List.append_nil] at hsn
   refine Bn_ltT (by omega) (If_T (iaR h 3 rfl (by omega) fun zg zk zv => ?_))
   refine lrA h 3 rfl ‹_› sy (by rfl) ?_
   refine alS h fun g2 w h => ?_
   refine stA h 0 rfl rfl rfl rfl fun w h => ?_
   replace h := h.dr
   refine dfS (dl1 h 0 rfl rfl (NcP_ok ?_))
   refine dfS (dr1 h 8 rfl ‹_› ‹_› (by rfl) ?_)
   refine Dv_ltF (by omega) (GdP_FT (GdP_FT (GdP_FT (GdP_FT (GdP_FT (GdP_FT (GdP_FT (GdP_FT (GdP_FT (GdP_FT (GdP_FT (Gd_FT (Kg_FT ?_)))))))))))))
   refine Kg_FT ?_
   refine GdP_FT (GdP_FT (GdP_FT (PickP_F (If_F (Bn_ad (by omega) (by omega) ?_)))))
   dsimp only [List.set] at h
   rw [← hsn] at h
   exact ⟨⟨n + 1, gv, by omega, rfl, h.drop 1⟩, by show (Srd.store a q.1.nx).length - ((n : Int) + 1).toNat < (Srd.store a q.1.nx).length - (n : Int).toNat; omega⟩
 have hne : n = (Srd.store a q.1.nx).length := by omega
 subst hne
 rw [List.take_length] at h
 refine Bn_ltF (by omega) (If_F (Nc_ok ?_))
 refine faS (lr1 h 7 rfl ‹_› ‹_› (by rfl) ?_)
 have h1 := Hp.perm h (List.Perm.swap _ _ _)
 refine cl_sort h1 (by rw [List.length_append]; have := Srd.rdd_len q.1 (Srd.store a q.1.nx); omega) (Srd.read_nd hO hqo) fun w h => ?_
 rw [Srd.read_next hO hqo] at h
 have hgl2 : (got a q.1 ++ rdd q.1 (Srd.store a q.1.nx)).length = (got a { q.1 with nx := q.1.nx + 1 }).length := by
  rw [← Srd.read_next hO hqo, srt_len]
 rw [hgl2] at h
 refine Nc_ok ?_
 refine faS (lr1 h 7 rfl ‹_› ‹_› (by rfl) ?_)
 refine Bn_ad (by omega) (by omega) (Nc_ok ?_)
 refine faS (stR1 h 7 rfl ‹_› (by rfl) (by rfl) (by omega) fun w h => ?_)
 refine NcP_ok ?_
 replace h := h.dr
 refine dfS ?_
 dsimp only [List.set] at h
 obtain ⟨nq, hnq⟩ : ∃ nq : RV, nq = (⟨q.1.id, q.1.up, q.1.ro, q.1.nx + 1⟩, q.2.1, gv) := ⟨_, rfl⟩
 have e3 := fR_setj3 (z := q.1.nx + 1) (hat gv)
 rw [List.set_set] at e3
 rw [show List.set ((x.rs.set j (q.1, q.2.1, gv)).flatMap fR) (0 + j * 5 + 3) (.int .i64 (q.1.nx + 1)) = (x.rs.set j nq).flatMap fR by rw [e3, hnq]] at h
 have sg2 : Seg ((x.rs.set j nq).flatMap fR) (j * 5) [.int .i64 q.1.id, .int .i64 q.1.up, q.2.1, .int .i64 (q.1.nx + 1), gv] := by
  have := flat_seg (f := fR) (c := 5) (fun _ => rfl) (List.getElem?_set_self (a := nq) hjl)
  rw [hnq] at this ⊢
  exact this
 have hoth : ∀ y ∈ x.rs.set j nq, y = nq ∨ y ∈ x.rs.eraseIdx j := fun y hy => by
  obtain ⟨i, hi⟩ := List.mem_iff_getElem?.1 hy
  by_cases hij : i = j
  ·subst hij
   rw [List.getElem?_set_self hjl] at hi
   exact .inl (Option.some.inj hi).symm
  ·rw [List.getElem?_set_ne (fun h => hij h.symm)] at hi
   exact .inr (List.mem_eraseIdx_iff_getElem?.2 ⟨i, hij, hi⟩)
 have hasc : x.rs.Pairwise fun a b => a.1.id < b.1.id := by
  have := hO.ids
  rw [← hrs, List.pairwise_map] at this
  exact this
 have horo : ∀ rows : List Et, (∀ e ∈ rest, e ∈ rows) → ∀ y ∈ x.rs.eraseIdx j, Has rows 1 y.2.1 y.1.ro.length (y.1.ro.flatMap fI) := fun rows hr y hy =>
  has_O (rs := x.rs.eraseIdx j) (fun e he => hr e (by
   have : rwO (x.rs.eraseIdx j) = (rwO x.rs).eraseIdx j := by unfold rwO; rw [map_erase]
   rw [this] at he
   simp [hrest, he])) y hy
 have hogo : ∀ rows : List Et, (∀ e ∈ rest, e ∈ rows) → ∀ y ∈ x.rs.eraseIdx j, Has rows 10 y.2.2 (got a y.1).length ((got a y.1).flatMap fF) := fun rows hr y hy =>
  has_G (rs := x.rs.eraseIdx j) (a := a) (fun e he => hr e (by
   have : rwG a (x.rs.eraseIdx j) = (rwG a x.rs).eraseIdx j := by unfold rwG; rw [map_erase]
   rw [this] at he
   simp [hrest, he])) y hy
 have holst : ∀ rows : List Et, (∀ e ∈ rest, e ∈ rows) → ro tHd 11 v (Srd.store a q.1.nx).length ((Srd.store a q.1.nx).flatMap fH) ∈ rows → ∀ (i : Nat) (v' : Value), x.ls[i]? = some v' → Has rows 11 v' (Srd.store a i).length ((Srd.store a i).flatMap fH) := fun rows hr hm i v' hv => by
  by_cases hi : i = q.1.nx.toNat
  ·subst hi
   rw [hvx] at hv
   cases hv
   rw [hzz]
   exact Has.ro hm
  ·exact has_E (us := x.ls) (k := q.1.nx.toNat) (fun e he => hr e (by simp [hrest, he])) hi hv
 by_cases hlast : q.1.nx + 1 = a.k
 ·have hfin2 : ∀ w', Done g S w0 w' { a with rd := a.rd.filter fun y => y.id ≠ r } (srt (((Srd.all a).filter fun h => decide (h.2 < q.1.up)).map (·.1))) → R (.returned (.tuple #[])) w' := fun w' hh => hfin w' (by rw [if_pos hlast]; exact hh)
  clear hfin
  refine dr1 h 7 rfl ‹_› ‹_› (by rfl) ?_
  refine NcP_ok ?_
  refine dfS (dfS (dfS (dl1 h 4 rfl rfl (dlS (qZ 5 h rfl) ?_))))
  refine Dv_eqT (by omega) (If_T (Nc_ok ?_))
  refine faS (lr1 h 7 rfl ‹_› ‹_› (by rfl) ?_)
  refine Nc_ok ?_
  refine faS (st1w h 4 rfl (qZ 0 h rfl) rfl fun w h => ?_)
  refine Nc_ok ?_
  refine faS (faS (faS (ld1 h 4 rfl rfl (Bn_ad (by omega) (by omega) ?_))))
  dsimp only [List.set] at h
  have h2 := Hp.perm h (List.perm_middle (l₁ := [_, _, _, _, _, _, _]))
  refine cl_delR (rs := x.rs.set j nq) (i := j) h2 (by rw [List.length_set]) (by rw [List.length_set]; exact hjl) (by rw [List.length_set]; omega) (fun y hy => ?_) rfl fun u w h => ?_
  ·rcases hoth y hy with rfl | hy
   ·rw [hnq]
    exact ⟨(slc_c1 (qZ 2 h rfl)).2, (slc_c1 (qZ 0 h rfl)).2⟩
   ·obtain ⟨e1, he1, hq1, _⟩ := horo rest (fun e he => he) y hy
    obtain ⟨e2, he2, hq2, _⟩ := hogo rest (fun e he => he) y hy
    exact ⟨(slc_c1 (hq1 _ (h.ok e1 (by simp [he1])).get)).2, (slc_c1 (hq2 _ (h.ok e2 (by simp [he2])).get)).2⟩
  refine Nc_ok ?_
  refine faS (faS (faS (st1w h 5 rfl (qZ 0 h rfl) rfl fun w h => ?_)))
  dsimp only [List.set] at h
  rw [List.eraseIdx_set_eq] at h
  have h3 := Hp.sub h (List.Sublist.cons_cons _ (List.Sublist.cons_cons _ (List.Sublist.cons _ (List.Sublist.refl _))))
  have h := Hp.perm h3 ((List.perm_append_comm (l₁ := [_, _, _, _]) (l₂ := [_, _, _])).append_right _)
  rw [← hrl] at h
  have hgl := Srd.got_last hO hqo hlast
  refine hfin2 _ ⟨{ x with dv := u, rs := x.rs.eraseIdx j }, gv, fin_rows (x := { x with dv := u, rs := x.rs.eraseIdx j }) (a := { a with rd := a.rd.filter fun y => y.id ≠ r }) rfl h (holst _ (fun e he => by simp [he]) (by simp)) ?_ (horo _ (fun e he => by simp [he])) (hogo _ (fun e he => by simp [he])) (.inr ?_)⟩
  ·show (x.rs.eraseIdx j).map (·.1) = a.rd.filter fun y => y.id ≠ r
   rw [map_erase, hrs]
   exact (Srd.filt_at (f := fun y : Rd => y.id) hO.ids harj hid).symm
  ·rw [← hgl]
   exact Has.ro (t := tFt) (by simp)
 ·have hfin2 : ∀ w', Done g S w0 w' { a with rd := a.rd.map fun y => if y.id = r then { y with nx := y.nx + 1 } else y } [] → R (.returned (.tuple #[])) w' := fun w' hh => hfin w' (by rw [if_neg hlast]; exact hh)
  clear hfin
  refine dr1 h 7 rfl ‹_› ‹_› (by rfl) ?_
  refine NcP_ok ?_
  refine dfS (dfS (dfS (dl1 h 4 rfl rfl (dlS (qZ 5 h rfl) ?_))))
  refine Dv_eqF (by omega) (If_F ?_)
  have h3 := Hp.sub h (List.Sublist.cons_cons _ (List.Sublist.cons _ (List.Sublist.refl _)))
  have h := Hp.perm h3 ((List.perm_append_comm (l₁ := [_, _, _]) (l₂ := [_, _, _, _])).append_right _)
  rw [← hrl] at h
  refine hfin2 _ ⟨{ x with rs := x.rs.set j nq }, .slice none 0 0, fin_rows (x := { x with rs := x.rs.set j nq }) (a := { a with rd := a.rd.map fun y => if y.id = r then { y with nx := y.nx + 1 } else y }) (by rw [List.length_set]) h (holst _ (fun e he => by simp [he]) (by simp)) ?_ (fun y hy => ?_) (fun y hy => ?_) (.inl ⟨rfl, rfl⟩)⟩
  ·show (x.rs.set j nq).map (·.1) = a.rd.map fun y => if y.id = r then { y with nx := y.nx + 1 } else y
   rw [List.map_set, hrs, hnq]
   exact (Srd.map_at (f := fun y : Rd => y.id) (g := fun y : Rd => { y with nx := y.nx + 1 }) hO.ids harj hid).symm
  ·rcases hoth y hy with rfl | hy
   ·rw [hnq]
    exact Has.ro (t := tIn) (by simp)
   ·exact horo _ (fun e he => by simp [he]) y hy
  ·rcases hoth y hy with rfl | hy
   ·rw [hnq]
    exact Has.ro (t := tFt) (n := (got a ⟨q.1.id, q.1.up, q.1.ro, q.1.nx + 1⟩).length) (xs := (got a ⟨q.1.id, q.1.up, q.1.ro, q.1.nx + 1⟩).flatMap fF) (by simp)
   ·exact hogo _ (fun e he => by simp [he]) y hy
theorem c_readF (hno : a.rd.find? (fun y => y.id = r) = none) : Calls Tryz.prog 31 #[pr g 0, vX 8 f0 0 0 0 r] w0 (Fai cR S w0) := by
 have hO := hc.ok
 have hnr := hO.nr
 have hrs := hc.rs
 have hrsl : x.rs.length = a.rd.length := by rw [← hrs, List.length_map]
 obtain ⟨R, hR⟩ : ∃ R, R = Fai cR S w0 := ⟨_, rfl⟩
 rw [← hR]
 have h := hc.h
 unfold chL at h
 apply e_shard_change_read
 unfold s_shard_change_read
 refine bxA h fun g1 w h => ?_
 refine Nc_ok ?_
 refine faS (faS (faS (ld1 h 1 rfl rfl ?_)))
 have hix := c_IxRd (w0 := w) (p := fun y => decide (y.1.id = r)) (caps := #[pr g1 0]) (qZ 4 h rfl) (by omega) n_shard_change_read_1 fun {W q} hr e => c_read1 (Blk.ext (h.get (i := 0) rfl) e)
 rw [ixOf_none fun y hy => decide_eq_false (fun he => by
  have := List.find?_eq_none.1 hno y.1 (by rw [← hrs]; exact List.mem_map.2 ⟨y, hy, rfl⟩)
  exact this (decide_eq_true he))] at hix
 refine cl1 h n_slices_IndexFunc_api_Reader_api_Reader hix fun w h => ?_
 refine Bn_geF (by omega) ?_
 exact clp h n_shard_must c_mustF hR
end
end Go.Proofs.YthdhnhghjecfkaaGreat
