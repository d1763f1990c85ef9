/-
  Contracts and plain lemmas. By an AI agent.
-/
import Derived.Test.YtnkmbjedcjcccaaGreatDoorLAmB
import Derived.Test.YtnkmbjedcjcccaaGreatDoorAmA
set_option linter.unusedSimpArgs false
set_option linter.unusedVariables false
set_option linter.unusedSectionVars false
namespace Go.Proofs.YtnkmbjedcjcccaaGreatDoor
open Go Go.Eng Go.Proofs Go.Num Go.RowKit
open Go.Alm (Ft Wt Sm VW VA dn fct obs obs1 rungs obsN fresh sumW)
set_option maxRecDepth 100000
abbrev I2 := Int × Int
abbrev fP2 (a : I2) : List Value := [.int .i64 a.1, .int .i64 a.2]
def I2ok (l : List I2) : Prop := ∀ a ∈ l, I64 a.1 ∧ I64 a.2
def nar (f : Ft) (a : I2) : Ft := { f with lo := f.lo + pickZ a.1 (f.hi - f.lo + 1), hi := f.lo + pickZ a.1 (f.hi - f.lo + 1) + pickZ a.2 (f.hi - (f.lo + pickZ a.1 (f.hi - f.lo + 1)) + 1) }
def lng (f : Ft) (a : I2) : Ft := { f with lo := f.lo + pickZ a.2 40, hi := max f.hi (f.lo + pickZ a.2 40) }
def chg (g : Ft → I2 → Ft) (by' : List I2) (i : Nat) (f : Ft) : Ft := match by'[i]? with | some a => g f a | none => f
def chgs (g : Ft → I2 → Ft) (by' : List I2) (fl : List Ft) : List Ft := fl.mapIdx (chg g by')
theorem chgs_snoc {g : Ft → I2 → Ft} {by' : List I2} {fl : List Ft} {i : Nat} {f : Ft} (h : fl[i]? = some f) : chgs g by' (fl.take (i + 1)) = chgs g by' (fl.take i) ++ [chg g by' i f] := by
 unfold chgs
 have hl := (List.getElem?_eq_some_iff.1 h).1
 rw [List.take_add_one, h, List.mapIdx_append, List.length_take, show min i fl.length = i by omega]
 simp
theorem chgs_len (g : Ft → I2 → Ft) (by' : List I2) (fl : List Ft) : (chgs g by' fl).length = fl.length := List.length_mapIdx
theorem chgs_get {g : Ft → I2 → Ft} {by' : List I2} {fl : List Ft} {i : Nat} {x : Ft} (h : (chgs g by' fl)[i]? = some x) : ∃ f, fl[i]? = some f ∧ x = chg g by' i f := by
 unfold chgs at h
 rw [List.getElem?_mapIdx] at h
 obtain ⟨a, ha, rfl⟩ := Option.map_eq_some_iff.1 h
 exact ⟨a, ha, rfl⟩
structure SF (f : Ft) : Prop where
 v : VF f
 hi : f.hi ≤ 1000
theorem nar_SF {f : Ft} (h : SF f) (a : I2) : SF (nar f a) ∧ (nar f a).tr = f.tr ∧ (nar f a).sp = f.sp ∧ (nar f a).op = f.op ∧ (nar f a).ve = f.ve ∧ f.lo ≤ (nar f a).lo := by
 obtain ⟨⟨h1, h2, h3, h4, h5, h6, h7, h8, h9, h10⟩, hh⟩ := h
 have p1 := pickZ_bd (c := a.1) (n := f.hi - f.lo + 1) (by omega)
 have p2 := pickZ_bd (c := a.2) (n := f.hi - (f.lo + pickZ a.1 (f.hi - f.lo + 1)) + 1) (by omega)
 refine ⟨⟨⟨h1, h2, h3, h4, h5, h6, h7, ?_, ?_, h10⟩, ?_⟩, rfl, rfl, rfl, rfl, ?_⟩
 ·show 0 ≤ f.lo + pickZ a.1 (f.hi - f.lo + 1) ∧ f.lo + pickZ a.1 (f.hi - f.lo + 1) ≤ f.lo + pickZ a.1 (f.hi - f.lo + 1) + pickZ a.2 (f.hi - (f.lo + pickZ a.1 (f.hi - f.lo + 1)) + 1)
  omega
 ·show f.lo + pickZ a.1 (f.hi - f.lo + 1) + pickZ a.2 (f.hi - (f.lo + pickZ a.1 (f.hi - f.lo + 1)) + 1) ≤ 4398046511104
  omega
 ·show f.lo + pickZ a.1 (f.hi - f.lo + 1) + pickZ a.2 (f.hi - (f.lo + pickZ a.1 (f.hi - f.lo + 1)) + 1) ≤ 1000
  omega
 ·show f.lo ≤ f.lo + pickZ a.1 (f.hi - f.lo + 1)
  omega
theorem lng_SF {f : Ft} (h : SF f) (hh : f.hi ≤ 900) (a : I2) : SF (lng f a) ∧ (lng f a).tr = f.tr ∧ (lng f a).sp = f.sp ∧ (lng f a).op = f.op ∧ (lng f a).ve = f.ve ∧ f.lo ≤ (lng f a).lo := by
 obtain ⟨⟨h1, h2, h3, h4, h5, h6, h7, h8, h9, h10⟩, _⟩ := h
 have p2 := pickZ_bd (c := a.2) (n := 40) (by decide)
 refine ⟨⟨⟨h1, h2, h3, h4, h5, h6, h7, ?_, ?_, h10⟩, ?_⟩, rfl, rfl, rfl, rfl, ?_⟩
 ·show 0 ≤ f.lo + pickZ a.2 40 ∧ f.lo + pickZ a.2 40 ≤ max f.hi (f.lo + pickZ a.2 40)
  omega
 ·show max f.hi (f.lo + pickZ a.2 40) ≤ 4398046511104
  omega
 ·show max f.hi (f.lo + pickZ a.2 40) ≤ 1000
  omega
 ·show f.lo ≤ f.lo + pickZ a.2 40
  omega
theorem mkF_SF {i : Nat} (h : i ≤ 999) (a : I3) : SF (mkF i a) ∧ (mkF i a).hi ≤ 900 := by
 have h3 := pickZ_bd (c := a.2.1) (n := 60) (by decide)
 have h4 := pickZ_bd (c := a.2.2) (n := 3) (by decide)
 have h5 := pickZ_bd (c := a.2.2.tdiv 3) (n := 10) (by decide)
 have h7 : pickZ a.2.2 3 * pickZ (a.2.2.tdiv 3) 10 ≤ 2 * 9 := Int.mul_le_mul (by omega) (by omega) h5.1 (by omega)
 have : (mkF i a).hi ≤ 900 := by
  show pickZ a.2.1 60 + pickZ a.2.2 3 * pickZ (a.2.2.tdiv 3) 10 ≤ 900
  omega
 exact ⟨⟨mkF_VF h a, by omega⟩, this⟩
structure Chg (g : Ft → I2 → Ft) : Prop where
 k : ∀ f a, SF f → f.hi ≤ 900 → SF (g f a) ∧ (g f a).tr = f.tr ∧ (g f a).sp = f.sp ∧ (g f a).op = f.op ∧ (g f a).ve = f.ve ∧ f.lo ≤ (g f a).lo
theorem nar_C : Chg nar := ⟨fun f a h _ => nar_SF h a⟩
theorem lng_C : Chg lng := ⟨fun f a h hh => lng_SF h hh a⟩
theorem chg_k {g : Ft → I2 → Ft} (hg : Chg g) (by' : List I2) (i : Nat) {f : Ft} (h : SF f) (hh : f.hi ≤ 900) : SF (chg g by' i f) ∧ (chg g by' i f).tr = f.tr ∧ (chg g by' i f).sp = f.sp ∧ (chg g by' i f).op = f.op ∧ (chg g by' i f).ve = f.ve ∧ f.lo ≤ (chg g by' i f).lo := by
 unfold chg
 split
 ·exact hg.k f _ h hh
 ·exact ⟨h, rfl, rfl, rfl, rfl, Int.le_refl _⟩
theorem chgs_VFs {g : Ft → I2 → Ft} (hg : Chg g) (by' : List I2) {fl : List Ft} (h : VFs fl) (hs : ∀ f ∈ fl, SF f ∧ f.hi ≤ 900) : VFs (chgs g by' fl) := by
 refine ⟨by rw [chgs_len]; exact h.1, fun x hx => ?_, fun i a b ha hb => ?_⟩
 ·obtain ⟨i, hi⟩ := List.getElem?_of_mem hx
  obtain ⟨f, hf, rfl⟩ := chgs_get hi
  have := hs f (List.mem_of_getElem? hf)
  exact (chg_k hg by' i this.1 this.2).1.v
 ·obtain ⟨f, hf, rfl⟩ := chgs_get ha
  obtain ⟨f', hf', rfl⟩ := chgs_get hb
  have h1 := hs f (List.mem_of_getElem? hf)
  have h2 := hs f' (List.mem_of_getElem? hf')
  have k1 := chg_k hg by' i h1.1 h1.2
  have k2 := chg_k hg by' (i + 1) h2.1 h2.2
  have := h.2.2 i f f' hf hf'
  unfold ltF at this ⊢
  rw [k1.2.1, k1.2.2.1, k2.2.1, k2.2.2.1]
  exact this
theorem upF_of : ∀ {l k : List Ft}, l.length = k.length → (∀ (i : Nat) (f g : Ft), l[i]? = some f → k[i]? = some g → f.tr = g.tr ∧ f.op = g.op ∧ f.ve = g.ve ∧ f.lo ≤ g.lo) → Alm.UpF l k
 | [], [], _, _ => trivial
 | [], g :: k, h, _ => by simp at h
 | f :: l, [], h, _ => by simp at h
 | f :: l, g :: k, h, hp => by
  obtain ⟨h1, h2, h3, h4⟩ := hp 0 f g rfl rfl
  exact ⟨h1, h2, h3, h4, upF_of (by simpa using h) fun i f' g' hf hg => hp (i + 1) f' g' hf hg⟩
theorem chgs_up {g : Ft → I2 → Ft} (hg : Chg g) (by' : List I2) {fl : List Ft} (hs : ∀ f ∈ fl, SF f ∧ f.hi ≤ 900) : Alm.UpF fl (chgs g by' fl) := by
 refine upF_of (by rw [chgs_len]) fun i f x hf hx => ?_
 obtain ⟨f', hf', rfl⟩ := chgs_get hx
 rw [hf] at hf'
 cases hf'
 have h1 := hs f (List.mem_of_getElem? hf)
 have k1 := chg_k hg by' i h1.1 h1.2
 exact ⟨k1.2.1.symm, k1.2.2.2.1.symm, k1.2.2.2.2.1.symm, k1.2.2.2.2.2⟩
theorem obs_get {ws : List Wt} {l : List Ft} {i : Nat} {x : Wt} (h : (obs ws l)[i]? = some x) : ∃ w, ws[i]? = some w ∧ x = obs1 w.th w l := by
 unfold obs at h
 rw [List.getElem?_map] at h
 obtain ⟨a, ha, rfl⟩ := Option.map_eq_some_iff.1 h
 exact ⟨a, ha, rfl⟩
theorem better_of {n : Int} {B : Rat} {ws : List Wt} {l k : List Ft} (hB : VB n B ws) (h : Alm.UpF l k) : ∀ (i : Nat) (x y : Wt), (obs ws l)[i]? = some x → (obs ws k)[i]? = some y → (x.ru = true → y.ru = true) ∧ (y.ru = false → x.we ≤ y.we) := fun i x y hx hy => by
 obtain ⟨w, hw, rfl⟩ := obs_get hx
 obtain ⟨w', hw', rfl⟩ := obs_get hy
 rw [hw] at hw'
 cases hw'
 have hok := (hB.ok w (List.mem_of_getElem? hw)).ok
 have := Alm.Bet.obs w.th (Alm.Bet.refl w) hok hok h
 exact ⟨this.ru, this.we⟩
theorem fcts_SF (l : List I3) : ∀ f ∈ fcts l 30, SF f ∧ f.hi ≤ 900 := fun f hf => by
 obtain ⟨i, hi⟩ := List.getElem?_of_mem hf
 obtain ⟨h1, a, _, rfl⟩ := fcts_get hi
 exact mkF_SF (by omega) a
theorem Fk.of {w : World} {v : Value} {fl : List Ft} (hv : SlC w 10 v fl.length (fl.flatMap fF)) (h : VFs fl) : Fk w v fl := ⟨hv, vfs_fi h, by have := h.1; omega⟩
section
variable {w0 : World} {b : Int} {v1 v2 v3 : Value} {l : List I6} {l3 : List I3} {l2 : List I2} (hE : En w0) (hb : I64 b) (h1 : SlC w0 6 v1 l.length (l.flatMap fX6)) (h2 : SlC w0 3 v2 l3.length (l3.flatMap fT)) (h3 : SlC w0 2 v3 l2.length (l2.flatMap fP2)) (o1 : I6ok l) (o2 : I3ok l3) (o3 : I2ok l2) (n1 : l.length ≤ 9223372036854775807) (n2 : l3.length ≤ 9223372036854775807) (n3 : l2.length ≤ 9223372036854775807)
include hE hb h1 h2 h3 o1 o2 o3 n1 n2 n3
set_option maxHeartbeats 16000000 in
theorem law_Certain : Calls Tryz.prog 6 #[.int .i64 b, v1, v2, v3] w0 (Ret fun r w' => Ext w0 w' ∧ r = .bool true) := by
 have ccs := fun {W : World} (e : Ext w0 W) => c_sane (w0 := W) (hE.ext e)
 obtain ⟨B, hB⟩ : ∃ B, bud b = B := ⟨_, rfl⟩
 obtain ⟨ws, hws⟩ : ∃ ws, regL (bud b) (l.take 4) = ws := ⟨_, rfl⟩
 obtain ⟨fl, hfl⟩ : ∃ fl, fcts l3 30 = fl := ⟨_, rfl⟩
 have hVB : VB 0 B ws := by rw [← hws, ← hB]; exact regL_VB b _
 have hV : VFs fl := by rw [← hfl]; exact fcts_VFs l3 (by decide)
 have hS : ∀ f ∈ fl, SF f ∧ f.hi ≤ 900 := by rw [← hfl]; exact fcts_SF l3
 have hfn : fl.length ≤ 30 := by rw [← hfl]; exact fcts_len l3 30
 have hN := chgs_VFs nar_C l2 hV hS
 have hL := chgs_VFs lng_C l2 hV hS
 have ccr := fun {W : World} (e : Ext w0 W) => c_regd (w0 := W) (hE.ext e) hb (h1.ext e) o1 n1
 have ccf := fun {W : World} (e : Ext w0 W) => c_Facts (w0 := W) (h2.ext e) o2 n2
 rw [hws, hB] at ccr
 rw [hfl] at ccf
 clear hws hB hfl
 apply e_law28_AlarmCertain
 unfold s_law28_AlarmCertain
 have h := Hp.init [] w0
 refine cl1 h n_law28_sane (ccs h.ext) fun w h => ?_
 refine Un_T (If_F (Cl_i n_law28_registered (ccr h.ext) ?_))
 rintro _ W1 ⟨x, y, z, rfl, k1⟩
 have e1 := h.ext.tr k1.ext
 have sa : SlC W1 15 (.slice x y z) ws.length ((ws.map wr).flatMap fW) := (k1.get (i := 0) rfl).1
 clear h k1
 have h := Hp.init [] W1
 refine Ex2 (alS h fun g1 w h => ?_)
 refine stA h 0 rfl rfl rfl rfl fun w h => ?_
 dsimp only [List.set] at h
 refine Cl_i n_ref28_Facts (ccf (e1.tr h.ext)) ?_
 rintro fv W2 k2
 have sF := k2.sl (i := 0) rfl
 have e2 := e1.tr (h.ext.tr k2.ext)
 have sa := (sa.hp h).ext k2.ext
 have ba : Blk W2 g1 tAl [str (tx B).1, str (tx B).2, .slice x y z] := (h.get (i := 0) rfl : Blk _ _ _ _).ext k2.ext
 have s3 := h3.ext e2
 clear h k2 ccf ccr ccs
 have h := ((Hp.init [] W2).nil tFc 10).nil tFc 10
 refine Lp3.mk (fun p q i W => ∃ j : Nat, j ≤ fl.length ∧ i = .int .i64 j ∧ Hp [] W2 W [ro tFc 10 p (chgs nar l2 (fl.take j)).length ((chgs nar l2 (fl.take j)).flatMap fF), ro tFc 10 q (chgs lng l2 (fl.take j)).length ((chgs lng l2 (fl.take j)).flatMap fF)])
  (fun _ _ i _ => match i with | .int _ i' => fl.length - i'.toNat | _ => 0) ⟨0, by omega, rfl, h⟩ ?_
 clear h
 rintro p q _ W ⟨j, hj, rfl, h⟩
 by_cases hjl : j < fl.length
 ·refine Exists.elim (p := fun x => fl[j]? = some x) ⟨_, List.getElem?_eq_getElem hjl⟩ fun f hf => ?_
  have sf : Seg (fl.flatMap fF) (j * 10) (fF f) := flat_seg (f := fF) (fun _ => rfl) hf
  have hfS := hS f (List.mem_of_getElem? hf)
  have hf1 := hfS.1.v.1
  have hf8 := hfS.1.v.2.2.2.2.2.2.2.1
  have hfh := hfS.2
  have c1 := chgs_snoc (g := nar) (by' := l2) hf
  have c2 := chgs_snoc (g := lng) (by' := l2) hf
  have cn1 := chgs_len nar l2 (fl.take j)
  have cn2 := chgs_len lng l2 (fl.take j)
  have ctl : (fl.take j).length ≤ 30 := by rw [List.length_take]; omega
  refine leS (sF.hp h) ?_
  refine Bn_ltT (by omega) (If_T (iaH h ‹_› (by omega) fun zb zo zk zv zc => ?_))
  refine lhA h ‹_› ‹_› (by rfl) ?_
  refine alS h fun g2 w h => ?_
  refine stA h 0 rfl rfl rfl rfl fun w h => ?_
  refine iaH h ‹_› (by omega) fun zb zo zk zv zc => ?_
  refine lhA h ‹_› ‹_› (by rfl) ?_
  refine alS h fun g3 w h => ?_
  refine stA h 0 rfl rfl rfl rfl fun w h => ?_
  dsimp only [List.set] at h
  refine Jn0.mk fun K lf => ?_
  have lf1 : ∀ {W : World}, Hp [] W2 W [bx g3 tFc (fF (chg lng l2 j f)), bx g2 tFc (fF (chg nar l2 j f)), ro tFc 10 p (chgs nar l2 (fl.take j)).length ((chgs nar l2 (fl.take j)).flatMap fF), ro tFc 10 q (chgs lng l2 (fl.take j)).length ((chgs lng l2 (fl.take j)).flatMap fF)] → K W := fun {W} h => lf W (by
   refine ldA h 1 rfl rfl ?_
   refine bs1A h (by rfl) (by decide) (by rfl) (by decide) fun v4 w h => ?_
   refine apR (by rfl) (by decide) h 3 rfl (qZ 0 h rfl) (by first | rfl | assumption) (by omega) fun v5 w h => ?_
   refine ldA h 1 rfl rfl ?_
   refine bs1A h (by rfl) (by decide) (by rfl) (by decide) fun v6 w h => ?_
   refine apR (by rfl) (by decide) h 5 rfl (qZ 0 h rfl) (by first | rfl | assumption) (by omega) fun v7 w h => ?_
   refine Bn_ad (by omega) (by omega) ?_
   dsimp only [List.set] at h
   exact ⟨⟨j + 1, by omega, rfl, by rw [c1, c2, List.length_append, List.length_append, List.flatMap_append, List.flatMap_append]; exact h.drop 4⟩, by show fl.length - ((j : Int) + 1).toNat < fl.length - (j : Int).toNat; omega⟩)
  clear lf c1 c2
  by_cases hjb : j < l2.length
  ·refine Exists.elim (p := fun x => l2[j]? = some x) ⟨_, List.getElem?_eq_getElem hjb⟩ fun a ha => ?_
   have sa2 : Seg (l2.flatMap fP2) (j * 2) (fP2 a) := flat_seg (f := fP2) (fun _ => rfl) ha
   have oa := o3 a (List.mem_of_getElem? ha)
   have oa1 := oa.1
   have oa2 := oa.2
   have q1 : chg nar l2 j f = nar f a := by unfold chg; rw [ha]
   have q2 : chg lng l2 j f = lng f a := by unfold chg; rw [ha]
   rw [q1, q2] at lf1
   have p1 := pickZ_bd (c := a.1) (n := f.hi - f.lo + 1) (by omega)
   have p2 := pickZ_bd (c := a.2) (n := f.hi - (f.lo + pickZ a.1 (f.hi - f.lo + 1)) + 1) (by omega)
   have p3 := pickZ_bd (c := a.2) (n := 40) (by decide)
   have cc1 := fun {W : World} (_ : Ext W2 W) => c_pickL (w := W) (c := a.1) (n := f.hi - f.lo + 1) oa1 (by omega)
   have cc2 := fun {W : World} (_ : Ext W2 W) => c_pickL (w := W) (c := a.2) (n := f.hi - (f.lo + pickZ a.1 (f.hi - f.lo + 1)) + 1) oa2 (by omega)
   have cc3 := fun {W : World} (_ : Ext W2 W) => c_pickL (w := W) (c := a.2) (n := 40) oa2 (by decide)
   refine leS (s3.hp h) ?_
   refine Bn_ltT (by omega) (If_T ?_)
   replace h := h.dr
   refine dfS (dl1 h 1 rfl rfl (diH h ‹_› (by omega) fun zb zo zk zv zc => ?_))
   refine diZ (by decide) (by decide) ?_
   refine dh1 h ‹_› ‹_› (by rfl) ?_
   refine dfS (dl1 h 1 rfl rfl (dfS (dl1 h 1 rfl rfl (Dv_su (by omega) (by omega) (Dv_ad (by omega) (by omega) (cl1 h n_law28_pick (cc1 h.ext) fun w h => ?_))))))
   refine kl1 h 1 rfl rfl (Dv_ad (by omega) (by omega) (dfS (st1 h 1 rfl rfl rfl rfl fun w h => ?_)))
   replace h := h.dr
   refine dfS (dl1 h 1 rfl rfl (diH h ‹_› (by omega) fun zb zo zk zv zc => ?_))
   refine diZ (by decide) (by decide) ?_
   refine dh1 h ‹_› ‹_› (by rfl) ?_
   refine dfS (dl1 h 1 rfl rfl (dfS (dl1 h 1 rfl rfl (Dv_su (by omega) (by omega) (Dv_ad (by omega) (by omega) (cl1 h n_law28_pick (cc2 h.ext) fun w h => ?_))))))
   refine kl1 h 1 rfl rfl (Dv_ad (by omega) (by omega) (dfS (st1 h 1 rfl rfl rfl rfl fun w h => ?_)))
   replace h := h.dr
   refine dfS (dl1 h 0 rfl rfl (diH h ‹_› (by omega) fun zb zo zk zv zc => ?_))
   refine diZ (by decide) (by decide) ?_
   refine dh1 h ‹_› ‹_› (by rfl) ?_
   refine cl1 h n_law28_pick (cc3 h.ext) fun w h => ?_
   refine kl1 h 0 rfl rfl (Dv_ad (by omega) (by omega) (dfS (st1 h 0 rfl rfl rfl rfl fun w h => ?_)))
   refine faS (Eng.ld1 h 0 rfl rfl (faS (Eng.ld1 h 0 rfl rfl (Bt_mx ?_))))
   refine faS (st1 h 0 rfl rfl rfl rfl fun w h => ?_)
   dsimp only [List.set] at h
   exact lf1 h
  ·have q1 : ∀ g, chg g l2 j f = f := fun g => by unfold chg; rw [List.getElem?_eq_none (by omega)]
   rw [q1, q1] at lf1
   refine leS (s3.hp h) ?_
   refine Bn_ltF (by omega) (If_F ?_)
   exact lf1 h
 have hjn : j = fl.length := by omega
 have ht : fl.take j = fl := by rw [hjn, List.take_length]
 rw [ht] at h
 have hnl := chgs_len nar l2 fl
 have hll := chgs_len lng l2 fl
 have sp := h.sl (i := 0) rfl
 have sq := h.sl (i := 1) rfl
 have sF := sF.hp h
 have sa := sa.hp h
 have ba := ba.ext h.ext
 have e2 := e2.tr h.ext
 have u1 := chgs_up nar_C l2 hS
 have u2 := chgs_up lng_C l2 hS
 clear h
 have h := Hp.init [] W
 refine leS (sF.hp h) ?_
 refine Bn_ltF (by omega) (If_F (lgA h ‹_› (by rfl) ?_))
 refine Cl_i n_alarm_Observe (c_ObsK (fl := fl) hVB (by decide) (sa.ext h.ext) (hE.ext (e2.tr h.ext)) (Fk.of (sF.ext h.ext) hV) hV (by omega)) ?_
 rintro _ W3 ⟨x3, y3, z3, p3, q3, r3, rfl, k1⟩
 have h := (h.cat2 k1 ro_sm ro_sm).pick [0] (by decide) rfl
 clear k1
 refine Ex3 (alS h fun g2 w h => ?_)
 refine stA h 0 rfl rfl rfl rfl fun w h => ?_
 refine lgA h ‹_› (by rfl) ?_
 dsimp only [List.set] at h
 refine Cl_i n_alarm_Observe (c_ObsK (fl := chgs nar l2 fl) hVB (by decide) (sa.ext h.ext) (hE.ext (e2.tr h.ext)) (Fk.of (sp.ext h.ext) hN) hN (by omega)) ?_
 rintro _ W4 ⟨x4, y4, z4, p4, q4, r4, rfl, k1⟩
 have h := (h.cat2 k1 ro_sm ro_sm).pick [0, 2, 3] (by decide) rfl
 clear k1
 refine Ex3 (alS h fun g3 w h => ?_)
 refine stA h 0 rfl rfl rfl rfl fun w h => ?_
 refine lgA h ‹_› (by rfl) ?_
 dsimp only [List.set] at h
 refine Cl_i n_alarm_Observe (c_ObsK (fl := chgs lng l2 fl) hVB (by decide) (sa.ext h.ext) (hE.ext (e2.tr h.ext)) (Fk.of (sq.ext h.ext) hL) hL (by omega)) ?_
 rintro _ W5 ⟨x5, y5, z5, p5, q5, r5, rfl, k1⟩
 have h := (h.cat2 k1 ro_sm ro_sm).pick [0, 2, 3, 4, 5] (by decide) rfl
 clear k1
 have b1 := (hVB.obs hV).mono (m := 1000) (by omega)
 have b2 := (hVB.obs hN).mono (m := 1000) (by omega)
 have b3 := (hVB.obs hL).mono (m := 1000) (by omega)
 have cb1 := fun {W' : World} (e : Ext W W') (q1 : SlC W' 15 (.slice x3 y3 z3) (obs ws fl).length (((obs ws fl).map wr).flatMap fW)) (q2 : SlC W' 15 (.slice x4 y4 z4) (obs ws (chgs nar l2 fl)).length (((obs ws (chgs nar l2 fl)).map wr).flatMap fW)) => c_betterT (w0 := W') (hE.ext (e2.tr e)) b1 b2 q1 q2 (by rw [Alm.obs_len, Alm.obs_len]) (better_of hVB u1)
 have cb2 := fun {W' : World} (e : Ext W W') (q1 : SlC W' 15 (.slice x3 y3 z3) (obs ws fl).length (((obs ws fl).map wr).flatMap fW)) (q2 : SlC W' 15 (.slice x5 y5 z5) (obs ws (chgs lng l2 fl)).length (((obs ws (chgs lng l2 fl)).map wr).flatMap fW)) => c_betterT (w0 := W') (hE.ext (e2.tr e)) b1 b3 q1 q2 (by rw [Alm.obs_len, Alm.obs_len]) (better_of hVB u2)
 refine Ex3 (alS h fun g4 w h => ?_)
 refine stA h 0 rfl rfl rfl rfl fun w h => ?_
 refine Gd_T (Gd_T (Bn_eqT (by omega) (Pick_T (Gd_T (Gd_T (Bn_eqT (by omega) (Pick_T (Gd_T (Gd_T (Bn_eqT (by omega) (Pick_T (Gd_T (ldA h 4 rfl rfl ?_)))))))))))))
 refine Gd_T (ldA h 2 rfl rfl ?_)
 refine Gd_T ?_
 dsimp only [List.set] at h
 refine Cl_i n_law28_better (cb1 h.ext (qZ 5 h rfl) (qZ 3 h rfl)) ?_
 rintro _ W6 ⟨e6, rfl⟩
 have h := h.x e6
 clear e6
 refine Pick_T (Gd_T (ldA h 4 rfl rfl ?_))
 refine Gd_T (ldA h 0 rfl rfl ?_)
 refine Gd_T (Cl_i n_law28_better (cb2 h.ext (qZ 5 h rfl) (qZ 1 h rfl)) ?_)
 rintro _ W7 ⟨e7, rfl⟩
 have h := h.x e7
 clear e7
 refine Pick_T ?_
 exact Ret.mk ⟨e2.tr h.ext, rfl⟩
end
end Go.Proofs.YtnkmbjedcjcccaaGreatDoor
