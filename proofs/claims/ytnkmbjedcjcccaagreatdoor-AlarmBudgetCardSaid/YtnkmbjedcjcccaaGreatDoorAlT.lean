/-
  Contracts and plain lemmas. By an AI agent.
-/
import Derived.Test.YtnkmbjedcjcccaaGreatDoorAlN
set_option linter.unusedSimpArgs false
set_option linter.unusedVariables false
set_option linter.unusedSectionVars false
namespace Go.Proofs.YtnkmbjedcjcccaaGreatDoor
open Go Go.Eng Go.Proofs Go.Num Go.RowKit
open Go.Alm (Ft Wt Sm VW VA dn fct obs obs1 rungs obsN)
set_option maxRecDepth 100000
def cnt (p : Ft → Bool) (l : List Ft) : Nat := (l.filter p).length
theorem cnt_snoc {p : Ft → Bool} {l : List Ft} {i : Nat} {f : Ft} (h : l[i]? = some f) : cnt p (l.take (i + 1)) = cnt p (l.take i) + (if p f then 1 else 0) := by
 unfold cnt
 rw [List.take_add_one, h, List.filter_append, List.length_append]
 show _ + (List.filter p [f]).length = _
 rw [List.filter_cons]
 split <;> rfl
theorem cnt_le (p : Ft → Bool) (l : List Ft) : cnt p l ≤ l.length := List.length_filter_le _ _
def hit (op ve : Int) (f : Ft) : Bool := f.op == op && f.ve == ve
noncomputable def rateO (l : List Ft) (op ve lim : Int) : Value := if okF l && decide (0 ≤ lim ∧ lim ≤ 4398046511104) then .tuple #[.int .i64 (cnt (fun f => hit op ve f && decide (lim < f.lo)) l : Nat), .int .i64 (cnt (fun f => hit op ve f && decide (lim < f.hi)) l : Nat), .int .i64 (cnt (hit op ve) l : Nat), .int .i64 0] else .tuple #[.int .i64 0, .int .i64 0, .int .i64 0, .int .i64 280]
section
variable {w0 : World} {v : Value} {l : List Ft} {op ve lim : Int} (hF : Fk w0 v l) (ho : I64 op) (hv : I64 ve) (hl : I64 lim)
include hF ho hv hl
set_option maxHeartbeats 8000000 in
theorem c_Rate : Calls Tryz.prog 28 #[v, .int .i64 op, .int .i64 ve, .int .i64 lim] w0 (Ret fun o w' => Ext w0 w' ∧ o = rateO l op ve lim) := by
 have hV := fun {W : World} (e : Ext w0 W) => c_VFs (w0 := W) (hF.ext e)
 have hfv := hF.hv
 by_cases hok : VFs l
 rotate_left
 ·have e : rateO l op ve lim = .tuple #[.int .i64 0, .int .i64 0, .int .i64 0, .int .i64 280] := by unfold rateO; rw [okF_f hok]; rfl
  rw [e]
  rw [okF_f hok] at hV
  have cc1 := @hV
  apply e_alarm_Rate
  unfold s_alarm_Rate
  have h := Hp.init [] w0
  refine cl1 h n_trace_ValidFacts (cc1 h.ext) fun w h => ?_
  refine Un_F (Gd_TF (Gd_TF (Gd_TF (Pick_T (If_T ?_)))))
  exact Ret.mk ⟨h.ext, rfl⟩
 rw [okF_t hok] at hV
 have cc1 := @hV
 by_cases hli : 0 ≤ lim ∧ lim ≤ 4398046511104
 rotate_left
 ·have e : rateO l op ve lim = .tuple #[.int .i64 0, .int .i64 0, .int .i64 0, .int .i64 280] := by unfold rateO; rw [okF_t hok, decide_eq_false hli]; rfl
  rw [e]
  have cc2 := fun {W : World} (e : Ext w0 W) => c_inF (w := W) hli
  apply e_alarm_Rate
  unfold s_alarm_Rate
  have h := Hp.init [] w0
  refine cl1 h n_trace_ValidFacts (cc1 h.ext) fun w h => ?_
  refine Un_T (Gd_F (Gd_F (cl1 h n_alarm_in (cc2 h.ext) fun w h => ?_)))
  refine Gd_F (Un_F (Pick_F (If_T ?_)))
  exact Ret.mk ⟨h.ext, rfl⟩
 have e : rateO l op ve lim = .tuple #[.int .i64 (cnt (fun f => hit op ve f && decide (lim < f.lo)) l : Nat), .int .i64 (cnt (fun f => hit op ve f && decide (lim < f.hi)) l : Nat), .int .i64 (cnt (hit op ve) l : Nat), .int .i64 0] := by unfold rateO; rw [okF_t hok, decide_eq_true hli]; rfl
 rw [e]
 have cc2 := fun {W : World} (e : Ext w0 W) => c_inT (w := W) hli
 have h400 := hok.1
 apply e_alarm_Rate
 unfold s_alarm_Rate
 have h := Hp.init [] w0
 refine cl1 h n_trace_ValidFacts (cc1 h.ext) fun w h => ?_
 refine Un_T (Gd_F (Gd_F (cl1 h n_alarm_in (cc2 h.ext) fun w h => ?_)))
 refine Gd_F (Un_T (Pick_F (If_F (leS (hfv.hp h) ?_))))
 refine Lp4.mk (fun a b c d W => ∃ i : Nat, i ≤ l.length ∧ a = .int .i64 (cnt (fun f => hit op ve f && decide (lim < f.lo)) (l.take i) : Nat) ∧ b = .int .i64 (cnt (fun f => hit op ve f && decide (lim < f.hi)) (l.take i) : Nat) ∧ c = .int .i64 (cnt (hit op ve) (l.take i) : Nat) ∧ d = .int .i64 i ∧ Hp [] w0 W [])
  (fun _ _ _ d _ => match d with | .int _ x => l.length - x.toNat | _ => 0) ⟨0, by omega, rfl, rfl, rfl, rfl, h⟩ ?_
 clear h cc1 cc2 hV
 rintro _ _ _ _ W ⟨i, hi, rfl, rfl, rfl, rfl, h⟩
 by_cases hin : i < l.length
 ·refine Exists.elim (p := fun x => l[i]? = some x) ⟨_, List.getElem?_eq_getElem hin⟩ fun f hx => ?_
  have sf : Seg (l.flatMap fF) (i * 10) (fF f) := flat_seg (f := fF) (fun _ => rfl) hx
  have hfi := hF.hi f (List.mem_of_getElem? hx)
  have f4 := hfi.ve
  have f5 := hfi.op
  have f8 := hfi.lo
  have f9 := hfi.hi
  have hlt : (l.take i).length ≤ 400 := by rw [List.length_take]; omega
  have n1 := cnt_le (fun f => hit op ve f && decide (lim < f.lo)) (l.take i)
  have n2 := cnt_le (fun f => hit op ve f && decide (lim < f.hi)) (l.take i)
  have n3 := cnt_le (hit op ve) (l.take i)
  have s1 := cnt_snoc (p := fun f => hit op ve f && decide (lim < f.lo)) hx
  have s2 := cnt_snoc (p := fun f => hit op ve f && decide (lim < f.hi)) hx
  have s3 := cnt_snoc (p := hit op ve) hx
  by_cases ho1 : f.op = op
  rotate_left
  ·have hh : hit op ve f = false := by unfold hit; rw [beq_eq_false_iff_ne.2 ho1]; rfl
   rw [hh] at s1 s2 s3
   refine Bn_ltT (by omega) (If_T (iaH h ‹_› (by omega) fun zb zo zk zv zc => ?_))
   refine lhA h ‹_› ‹_› (by rfl) ?_
   refine alS h fun g1 w h => ?_
   refine stA h 0 rfl rfl rfl rfl fun w h => ?_
   refine faS (Eng.ld1 h 0 rfl rfl (Bn_neT (by omega) (Gd_TF (Gd_TF (Gd_TF (Gd_TF (Pick_T (If_T (Bn_ad (by omega) (by omega) ?_)))))))))
   dsimp only [List.set] at h
   exact ⟨⟨i + 1, by omega, by rw [s1]; rfl, by rw [s2]; rfl, by rw [s3]; rfl, rfl, h.drop 1⟩, by show l.length - ((i : Int) + 1).toNat < l.length - (i : Int).toNat; omega⟩
  by_cases hv1 : f.ve = ve
  rotate_left
  ·have hh : hit op ve f = false := by unfold hit; rw [beq_eq_false_iff_ne.2 hv1, Bool.and_false]
   rw [hh] at s1 s2 s3
   refine Bn_ltT (by omega) (If_T (iaH h ‹_› (by omega) fun zb zo zk zv zc => ?_))
   refine lhA h ‹_› ‹_› (by rfl) ?_
   refine alS h fun g1 w h => ?_
   refine stA h 0 rfl rfl rfl rfl fun w h => ?_
   refine faS (Eng.ld1 h 0 rfl rfl (Bn_neF (by omega) (Gd_F (faS (Gd_F (Eng.ld1 h 0 rfl rfl (Gd_F (Gd_F (Bn_neT (by omega) (Pick_F (If_T (Bn_ad (by omega) (by omega) ?_))))))))))))
   dsimp only [List.set] at h
   exact ⟨⟨i + 1, by omega, by rw [s1]; rfl, by rw [s2]; rfl, by rw [s3]; rfl, rfl, h.drop 1⟩, by show l.length - ((i : Int) + 1).toNat < l.length - (i : Int).toNat; omega⟩
  have hh : hit op ve f = true := by unfold hit; rw [ho1, hv1, beq_self_eq_true, beq_self_eq_true]; rfl
  rw [hh] at s1 s2 s3
  by_cases hlo : lim < f.lo
  ·rw [decide_eq_true hlo] at s1
   by_cases hhi : lim < f.hi
   ·rw [decide_eq_true hhi] at s2
    refine Bn_ltT (by omega) (If_T (iaH h ‹_› (by omega) fun zb zo zk zv zc => ?_))
    refine lhA h ‹_› ‹_› (by rfl) ?_
    refine alS h fun g1 w h => ?_
    refine stA h 0 rfl rfl rfl rfl fun w h => ?_
    refine faS (Eng.ld1 h 0 rfl rfl (Bn_neF (by omega) (Gd_F (faS (Gd_F (Eng.ld1 h 0 rfl rfl (Gd_F (Gd_F (Bn_neF (by omega) (Pick_F (If_F (Bn_ad (by omega) (by omega) ?_))))))))))))
    dsimp only [List.set] at h
    refine Jn1.lf (.int .i64 (((cnt (fun f => hit op ve f && decide (lim < f.lo)) (l.take i) : Nat) : Int) + 1)) h (fun K lf1 => ?_) (fun W1 h => ?_)
    ·refine faS (Eng.ld1 h 0 rfl rfl (Bn_gtT (by omega) (If_T (Bn_ad (by omega) (by omega) ?_))))
     exact lf1 _ h
    ·refine faS (Eng.ld1 h 0 rfl rfl (Bn_gtT (by omega) (If_T (Bn_ad (by omega) (by omega) (Bn_ad (by omega) (by omega) ?_)))))
     exact ⟨⟨i + 1, by omega, by rw [s1]; rfl, by rw [s2]; rfl, by rw [s3]; rfl, rfl, h.drop 1⟩, by show l.length - ((i : Int) + 1).toNat < l.length - (i : Int).toNat; omega⟩
   ·rw [decide_eq_false hhi] at s2
    refine Bn_ltT (by omega) (If_T (iaH h ‹_› (by omega) fun zb zo zk zv zc => ?_))
    refine lhA h ‹_› ‹_› (by rfl) ?_
    refine alS h fun g1 w h => ?_
    refine stA h 0 rfl rfl rfl rfl fun w h => ?_
    refine faS (Eng.ld1 h 0 rfl rfl (Bn_neF (by omega) (Gd_F (faS (Gd_F (Eng.ld1 h 0 rfl rfl (Gd_F (Gd_F (Bn_neF (by omega) (Pick_F (If_F (Bn_ad (by omega) (by omega) ?_))))))))))))
    dsimp only [List.set] at h
    refine Jn1.lf (.int .i64 (((cnt (fun f => hit op ve f && decide (lim < f.lo)) (l.take i) : Nat) : Int) + 1)) h (fun K lf1 => ?_) (fun W1 h => ?_)
    ·refine faS (Eng.ld1 h 0 rfl rfl (Bn_gtT (by omega) (If_T (Bn_ad (by omega) (by omega) ?_))))
     exact lf1 _ h
    ·refine faS (Eng.ld1 h 0 rfl rfl (Bn_gtF (by omega) (If_F (Bn_ad (by omega) (by omega) ?_))))
     exact ⟨⟨i + 1, by omega, by rw [s1]; rfl, by rw [s2]; rfl, by rw [s3]; rfl, rfl, h.drop 1⟩, by show l.length - ((i : Int) + 1).toNat < l.length - (i : Int).toNat; omega⟩
  ·rw [decide_eq_false hlo] at s1
   by_cases hhi : lim < f.hi
   ·rw [decide_eq_true hhi] at s2
    refine Bn_ltT (by omega) (If_T (iaH h ‹_› (by omega) fun zb zo zk zv zc => ?_))
    refine lhA h ‹_› ‹_› (by rfl) ?_
    refine alS h fun g1 w h => ?_
    refine stA h 0 rfl rfl rfl rfl fun w h => ?_
    refine faS (Eng.ld1 h 0 rfl rfl (Bn_neF (by omega) (Gd_F (faS (Gd_F (Eng.ld1 h 0 rfl rfl (Gd_F (Gd_F (Bn_neF (by omega) (Pick_F (If_F (Bn_ad (by omega) (by omega) ?_))))))))))))
    dsimp only [List.set] at h
    refine Jn1.lf (.int .i64 (cnt (fun f => hit op ve f && decide (lim < f.lo)) (l.take i) : Nat)) h (fun K lf1 => ?_) (fun W1 h => ?_)
    ·refine faS (Eng.ld1 h 0 rfl rfl (Bn_gtF (by omega) (If_F ?_)))
     exact lf1 _ h
    ·refine faS (Eng.ld1 h 0 rfl rfl (Bn_gtT (by omega) (If_T (Bn_ad (by omega) (by omega) (Bn_ad (by omega) (by omega) ?_)))))
     exact ⟨⟨i + 1, by omega, by rw [s1]; rfl, by rw [s2]; rfl, by rw [s3]; rfl, rfl, h.drop 1⟩, by show l.length - ((i : Int) + 1).toNat < l.length - (i : Int).toNat; omega⟩
   ·rw [decide_eq_false hhi] at s2
    refine Bn_ltT (by omega) (If_T (iaH h ‹_› (by omega) fun zb zo zk zv zc => ?_))
    refine lhA h ‹_› ‹_› (by rfl) ?_
    refine alS h fun g1 w h => ?_
    refine stA h 0 rfl rfl rfl rfl fun w h => ?_
    refine faS (Eng.ld1 h 0 rfl rfl (Bn_neF (by omega) (Gd_F (faS (Gd_F (Eng.ld1 h 0 rfl rfl (Gd_F (Gd_F (Bn_neF (by omega) (Pick_F (If_F (Bn_ad (by omega) (by omega) ?_))))))))))))
    dsimp only [List.set] at h
    refine Jn1.lf (.int .i64 (cnt (fun f => hit op ve f && decide (lim < f.lo)) (l.take i) : Nat)) h (fun K lf1 => ?_) (fun W1 h => ?_)
    ·refine faS (Eng.ld1 h 0 rfl rfl (Bn_gtF (by omega) (If_F ?_)))
     exact lf1 _ h
    ·refine faS (Eng.ld1 h 0 rfl rfl (Bn_gtF (by omega) (If_F (Bn_ad (by omega) (by omega) ?_))))
     exact ⟨⟨i + 1, by omega, by rw [s1]; rfl, by rw [s2]; rfl, by rw [s3]; rfl, rfl, h.drop 1⟩, by show l.length - ((i : Int) + 1).toNat < l.length - (i : Int).toNat; omega⟩
 ·have hie : i = l.length := by omega
  have et : l.take i = l := by rw [hie, List.take_length]
  refine Bn_ltF (by omega) (If_F ?_)
  exact Ret.mk ⟨h.ext, by rw [et]⟩
end
theorem take_ne {α : Type} {xs ys : List α} {j : Nat} {x y : α} (hx : xs[j]? = some x) (hy : ys[j]? = some y) (h : x ≠ y) : xs ≠ ys := fun e => by
 subst e
 rw [hx] at hy
 exact h (Option.some.inj hy)
section
variable {w0 : World} {v u : Value} {xs ys : List Nat} (hv : SlC w0 1 v xs.length (xs.flatMap fN)) (hu : SlC w0 1 u ys.length (ys.flatMap fN)) (hx : xs.length ≤ 1000000) (hy : ys.length ≤ 1000000) (hxl : ∀ x ∈ xs, x ≤ 1000000) (hyl : ∀ x ∈ ys, x ≤ 1000000)
include hv hu hx hy hxl hyl
theorem c_ints : Calls Tryz.prog 26 #[v, u] w0 (Ret fun r w' => Ext w0 w' ∧ r = .bool (decide (xs = ys))) := by
 by_cases hl : xs.length = ys.length
 rotate_left
 ·rw [decide_eq_false fun e => hl (by rw [e])]
  apply e_law28_ints
  unfold s_law28_ints
  have h := Hp.init [] w0
  refine leS (hv.hp h) ?_
  refine leS (hu.hp h) ?_
  refine Bn_neT (by omega) (If_T ?_)
  exact Ret.mk ⟨h.ext, rfl⟩
 obtain ⟨b, hb⟩ : ∃ b, decide (xs = ys) = b := ⟨_, rfl⟩
 rw [hb]
 apply e_law28_ints
 unfold s_law28_ints
 have h := Hp.init [] w0
 refine leS (hv.hp h) ?_
 refine leS (hu.hp h) ?_
 refine Bn_neF (by omega) (If_F (Lp1.mk (fun i W => ∃ j : Nat, j ≤ xs.length ∧ i = .int .i64 j ∧ xs.take j = ys.take j ∧ Hp [] w0 W []) (fun i _ => match i with | .int _ i' => xs.length - i'.toNat | _ => 0) ⟨0, by omega, rfl, rfl, h⟩ ?_))
 clear h
 rintro _ W ⟨j, hj, rfl, ht, h⟩
 by_cases hjl : j < xs.length
 ·refine Exists.elim (p := fun x => xs[j]? = some x) ⟨_, List.getElem?_eq_getElem hjl⟩ fun x hxj => ?_
  refine Exists.elim (p := fun y => ys[j]? = some y) ⟨_, List.getElem?_eq_getElem (by omega)⟩ fun y hyj => ?_
  have sx : Seg (xs.flatMap fN) (j * 1) (fN x) := flat_seg (f := fN) (fun _ => rfl) hxj
  have sy : Seg (ys.flatMap fN) (j * 1) (fN y) := flat_seg (f := fN) (fun _ => rfl) hyj
  have hx1 := hxl x (List.mem_of_getElem? hxj)
  have hy1 := hyl y (List.mem_of_getElem? hyj)
  by_cases hxy : x = y
  ·subst hxy
   refine leS (hv.hp h) ?_
   refine Bn_ltT (by omega) (If_T ?_)
   replace h := h.dr
   refine diH h ‹_› (by omega) fun zb zo zk zv zc => ?_
   refine dh0 h ‹_› ‹_› (by rfl) ?_
   refine diH h ‹_› (by omega) fun zb zo zk zv zc => ?_
   refine dh0 h ‹_› ‹_› (by rfl) ?_
   refine Dv_neF (by omega) (If_F (Bn_ad (by omega) (by omega) ?_))
   exact ⟨⟨j + 1, by omega, rfl, by rw [take_snoc hxj, take_snoc hyj, ht], h⟩, by show xs.length - ((j : Int) + 1).toNat < xs.length - (j : Int).toNat; omega⟩
  ·have e2 : b = false := by rw [← hb]; exact decide_eq_false (take_ne hxj hyj hxy)
   subst e2
   refine leS (hv.hp h) ?_
   refine Bn_ltT (by omega) (If_T ?_)
   replace h := h.dr
   refine diH h ‹_› (by omega) fun zb zo zk zv zc => ?_
   refine dh0 h ‹_› ‹_› (by rfl) ?_
   refine diH h ‹_› (by omega) fun zb zo zk zv zc => ?_
   refine dh0 h ‹_› ‹_› (by rfl) ?_
   refine Dv_neT (by omega) (If_T ?_)
   exact Ret.mk ⟨h.ext, rfl⟩
 rw [List.take_of_length_le (by omega), List.take_of_length_le (by omega)] at ht
 have e2 : b = true := by rw [← hb]; exact decide_eq_true ht
 subst e2
 refine leS (hv.hp h) ?_
 refine Bn_ltF (by omega) (If_F ?_)
 exact Ret.mk ⟨h.ext, rfl⟩
end
def ftL (t lo hi : Int) : Ft := ⟨t, 0, 0, 2, 1, -1, t / 10, lo, hi, 0⟩
theorem c_fact {w0 : World} {t lo hi : Int} (ht : 0 ≤ t ∧ t ≤ 1000000) : Calls Tryz.prog 33 #[.int .i64 t, .int .i64 lo, .int .i64 hi] w0 (Ret fun r w' => Ext w0 w' ∧ r = vF (ftL t lo hi)) := by
 apply e_law28_fact
 unfold s_law28_fact
 have h := Hp.init [] w0
 refine alS h fun g1 w h => ?_
 refine Bn_qu (by omega) (by omega) (by omega) (bdS (PC.cons (by rfl) (PC.cons (by rfl) (PC.cons (by rfl) (PC.cons (by rfl) (PC.cons (by rfl) (PC.cons (by rfl) (PC.cons (by rfl) PC.nil))))))) (by rfl) ?_)
 refine stA h 0 rfl rfl rfl rfl fun w h => ?_
 refine rcA h 0 rfl rfl ?_
 dsimp only [List.set] at h
 exact Ret.mk ⟨h.ext, rfl⟩
abbrev I3 := Int × Int × Int
abbrev fT (a : I3) : List Value := [.int .i64 a.1, .int .i64 a.2.1, .int .i64 a.2.2]
def I3ok (l : List I3) : Prop := ∀ a ∈ l, I64 a.1 ∧ I64 a.2.1 ∧ I64 a.2.2
theorem tdiv_I64 {a b : Int} (h : I64 a) (hb : 0 < b := by decide) : I64 (a.tdiv b) := tdiv_bd h.1 h.2 hb
def mkF (i : Nat) (a : I3) : Ft := ⟨i, 0, 0, pickZ (a.1.tdiv 2) 2, pickZ a.1 2, -1, (i : Int) / 10, pickZ a.2.1 60, pickZ a.2.1 60 + pickZ a.2.2 3 * pickZ (a.2.2.tdiv 3) 10, 0⟩
def fcts (l : List I3) (n : Nat) : List Ft := (l.take n).mapIdx mkF
theorem fcts_snoc {l : List I3} {i : Nat} {a : I3} (h : l[i]? = some a) : fcts l (i + 1) = fcts l i ++ [mkF i a] := by
 unfold fcts
 have hl := (List.getElem?_eq_some_iff.1 h).1
 rw [List.take_add_one, h, List.mapIdx_append, List.length_take, show min i l.length = i by omega]
 simp
theorem fcts_len (l : List I3) (n : Nat) : (fcts l n).length ≤ n := by
 unfold fcts; rw [List.length_mapIdx, List.length_take]; omega
theorem fcts_get {l : List I3} {n i : Nat} {f : Ft} (h : (fcts l n)[i]? = some f) : i < n ∧ ∃ a, l[i]? = some a ∧ f = mkF i a := by
 unfold fcts at h
 rw [List.getElem?_mapIdx] at h
 obtain ⟨a, ha, rfl⟩ := Option.map_eq_some_iff.1 h
 rw [List.getElem?_take] at ha
 split at ha
 ·exact ⟨by assumption, a, ha, rfl⟩
 ·cases ha
theorem mkF_VF {i : Nat} (h : i ≤ 999) (a : I3) : VF (mkF i a) := by
 have h1 := pickZ_bd (c := a.1.tdiv 2) (n := 2) (by decide)
 have h2 := pickZ_bd (c := a.1) (n := 2) (by decide)
 have h3 := pickZ_bd (c := a.2.1) (n := 60) (by decide)
 have h4 := pickZ_bd (c := a.2.2) (n := 3) (by decide)
 have h5 := pickZ_bd (c := a.2.2.tdiv 3) (n := 10) (by decide)
 have h6 := Int.mul_nonneg h4.1 h5.1
 have h7 : pickZ a.2.2 3 * pickZ (a.2.2.tdiv 3) 10 ≤ 2 * 9 := Int.mul_le_mul (by omega) (by omega) h5.1 (by omega)
 unfold VF mkF
 dsimp only
 omega
theorem VF.fi {f : Ft} (h : VF f) : FI f := by
 obtain ⟨h1, h2, h3, h4, h5, h6, h7, h8, h9, h10⟩ := h
 exact ⟨by omega, by omega, by omega, by omega, by omega, by omega, by omega, by omega, by omega, by omega⟩
theorem fcts_VFs (l : List I3) {n : Nat} (hn : n ≤ 400) : VFs (fcts l n) := by
 refine ⟨by have := fcts_len l n; omega, fun f hf => ?_, fun i a b ha hb => ?_⟩
 ·obtain ⟨i, hi⟩ := List.getElem?_of_mem hf
  obtain ⟨h1, a, _, rfl⟩ := fcts_get hi
  exact mkF_VF (by omega) a
 ·obtain ⟨h1, x, _, rfl⟩ := fcts_get ha
  obtain ⟨h2, y, _, rfl⟩ := fcts_get hb
  exact .inl (show ((i : Nat) : Int) < ((i + 1 : Nat) : Int) by omega)
set_option maxHeartbeats 8000000 in
theorem c_Facts {w0 : World} {v : Value} {l : List I3} (hv : SlC w0 3 v l.length (l.flatMap fT)) (hok : I3ok l) (hl : l.length ≤ 9223372036854775807) :
 Calls Tryz.prog 37 #[.int .i64 0, v] w0 (Ret fun r w' => Hp [] w0 w' [ro 65 10 r (fcts l 30).length ((fcts l 30).flatMap fF)]) := by
 apply e_ref28_Facts
 unfold s_ref28_Facts
 have h := Hp.init [] w0
 have h := h.nil 65 10
 refine Lp2.mk (fun a b W => ∃ (i : Nat), i ≤ l.length ∧ i ≤ 30 ∧ b = .int .i64 i ∧ Hp [] w0 W [ro 65 10 a (fcts l i).length ((fcts l i).flatMap fF)])
  (fun _ b _ => match b with | .int _ x => l.length - x.toNat | _ => 0) ⟨0, by omega, by omega, rfl, h⟩ ?_
 clear h
 rintro a _ W ⟨i, hi, hi3, rfl, h⟩
 have hfl := fcts_len l i
 by_cases hin : i < l.length
 rotate_left
 ·have e : fcts l i = fcts l 30 := by unfold fcts; rw [List.take_of_length_le (by omega), List.take_of_length_le (by omega)]
  rw [e] at h
  refine leS (hv.hp h) ?_
  refine Bn_ltF (by omega) (Gd_FT (Gd_FT (Pick_F (Gd_FT (Gd_FT (Gd_FT (Gd_FT (Pick_F (If_F ?_)))))))))
  exact Ret.mk h
 by_cases hi30 : i < 30
 rotate_left
 ·have e : i = 30 := by omega
  rw [e] at h
  refine leS (hv.hp h) ?_
  refine Bn_ltT (by omega) (Gd_T (Gd_T (Bn_ltF (by omega) (Pick_T (Gd_FT (Gd_FT (Gd_FT (Gd_FT (Pick_F (If_F ?_))))))))))
  exact Ret.mk h
 refine Exists.elim (p := fun x => l[i]? = some x) ⟨_, List.getElem?_eq_getElem hin⟩ fun x hx => ?_
 have sf : Seg (l.flatMap fT) (i * 3) (fT x) := flat_seg (f := fT) (fun _ => rfl) hx
 have hxo := hok x (List.mem_of_getElem? hx)
 have x1 := hxo.1
 have x2 := hxo.2.1
 have x3 := hxo.2.2
 have cc1 := fun {W : World} (_ : Ext w0 W) => c_pickR (w := W) (n := 2) x1 (by decide)
 have cc2 := fun {W : World} (_ : Ext w0 W) => c_pickR (w := W) (c := x.1.tdiv 2) (n := 2) (tdiv_I64 x1) (by decide)
 have cc3 := fun {W : World} (_ : Ext w0 W) => c_pickR (w := W) (n := 60) x2 (by decide)
 have cc4 := fun {W : World} (_ : Ext w0 W) => c_pickR (w := W) (n := 3) x3 (by decide)
 have cc5 := fun {W : World} (_ : Ext w0 W) => c_pickR (w := W) (c := x.2.2.tdiv 3) (n := 10) (tdiv_I64 x3) (by decide)
 have h3 := pickZ_bd (c := x.2.1) (n := 60) (by decide)
 have h4 := pickZ_bd (c := x.2.2) (n := 3) (by decide)
 have h5 := pickZ_bd (c := x.2.2.tdiv 3) (n := 10) (by decide)
 have h6 := Int.mul_nonneg h4.1 h5.1
 have h7 : pickZ x.2.2 3 * pickZ (x.2.2.tdiv 3) 10 ≤ 2 * 9 := Int.mul_le_mul (by omega) (by omega) h5.1 (by omega)
 refine leS (hv.hp h) ?_
 refine Bn_ltT (by omega) (Gd_T (Gd_T (Bn_ltT (by omega) (Pick_T (Gd_T (Gd_T (Gd_T (Bn_ad (by omega) (by omega) (Gd_T (Bn_leT (by omega) (Pick_T (If_T ?_))))))))))))
 refine Jn1.lfb 65 [.int .i64 (0 + (i : Int)), .int .i64 0, .int .i64 0, .int .i64 (pickZ (x.1.tdiv 2) 2), .int .i64 (pickZ x.1 2), .int .i64 (-1), .int .i64 0, .int .i64 (pickZ x.2.1 60), .int .i64 0, .int .i64 0] h (fun K lf1 => ?_) (fun gx w h => ?_)
 ·replace h := h.dr
  refine Dv_ad (by omega) (by omega) (diH h ‹_› (by omega) fun zb zo zk zv zc => ?_)
  refine diZ (by decide) (by decide) ?_
  refine dh1 h ‹_› ‹_› (by rfl) ?_
  refine diH h ‹_› (by omega) fun zb zo zk zv zc => ?_
  refine diZ (by decide) (by decide) ?_
  refine dh1 h ‹_› ‹_› (by rfl) ?_
  refine Dv_qt (by omega) (by omega) (by omega) (diH h ‹_› (by omega) fun zb zo zk zv zc => ?_)
  refine diZ (by decide) (by decide) ?_
  refine dh1 h ‹_› ‹_› (by rfl) ?_
  refine ⟨?_, ?_⟩
  refine cl1 h n_ref28_pick (cc1 h.ext) fun w h => ?_
  refine kh1 h ‹_› ‹_› (by rfl) ?_
  refine kh1 h ‹_› ‹_› (by rfl) ?_
  refine ⟨?_, ?_⟩
  refine cl1 h n_ref28_pick (cc2 h.ext) fun w h => ?_
  refine kh1 h ‹_› ‹_› (by rfl) ?_
  refine ⟨?_, ?_⟩
  refine cl1 h n_ref28_pick (cc3 h.ext) fun w h => ?_
  refine dbS (PC.cons (by rfl) (PC.cons (by rfl) (PC.cons (by rfl) (PC.cons (by rfl) (PC.cons (by rfl) PC.nil))))) (by rfl) ?_
  refine alS h fun g1 w h => ?_
  refine kh1 h ‹_› ‹_› (by rfl) ?_
  refine kh1 h ‹_› ‹_› (by rfl) ?_
  refine kh1 h ‹_› ‹_› (by rfl) ?_
  refine stA h 0 rfl rfl rfl rfl fun w h => ?_
  exact lf1 _ _ h
  refine alS h fun g1 w h => ?_
  refine kh1 h ‹_› ‹_› (by rfl) ?_
  refine kh1 h ‹_› ‹_› (by rfl) ?_
  refine kh1 h ‹_› ‹_› (by rfl) ?_
  refine cl1 h n_ref28_pick (cc3 h.ext) fun w h => ?_
  refine dbS (PC.cons (by rfl) (PC.cons (by rfl) (PC.cons (by rfl) (PC.cons (by rfl) (PC.cons (by rfl) PC.nil))))) (by rfl) ?_
  refine stA h 0 rfl rfl rfl rfl fun w h => ?_
  exact lf1 _ _ h
  refine alS h fun g1 w h => ?_
  refine kh1 h ‹_› ‹_› (by rfl) ?_
  refine kh1 h ‹_› ‹_› (by rfl) ?_
  refine kh1 h ‹_› ‹_› (by rfl) ?_
  refine cl1 h n_ref28_pick (cc2 h.ext) fun w h => ?_
  refine kh1 h ‹_› ‹_› (by rfl) ?_
  refine cl1 h n_ref28_pick (cc3 h.ext) fun w h => ?_
  refine dbS (PC.cons (by rfl) (PC.cons (by rfl) (PC.cons (by rfl) (PC.cons (by rfl) (PC.cons (by rfl) PC.nil))))) (by rfl) ?_
  refine stA h 0 rfl rfl rfl rfl fun w h => ?_
  exact lf1 _ _ h
  refine alS h fun g1 w h => ?_
  refine kh1 h ‹_› ‹_› (by rfl) ?_
  refine kh1 h ‹_› ‹_› (by rfl) ?_
  refine kh1 h ‹_› ‹_› (by rfl) ?_
  refine cl1 h n_ref28_pick (cc1 h.ext) fun w h => ?_
  refine kh1 h ‹_› ‹_› (by rfl) ?_
  refine kh1 h ‹_› ‹_› (by rfl) ?_
  refine cl1 h n_ref28_pick (cc2 h.ext) fun w h => ?_
  refine kh1 h ‹_› ‹_› (by rfl) ?_
  refine cl1 h n_ref28_pick (cc3 h.ext) fun w h => ?_
  refine dbS (PC.cons (by rfl) (PC.cons (by rfl) (PC.cons (by rfl) (PC.cons (by rfl) (PC.cons (by rfl) PC.nil))))) (by rfl) ?_
  refine stA h 0 rfl rfl rfl rfl fun w h => ?_
  exact lf1 _ _ h
 clear cc1 cc2 cc3
 replace h := h.dr
 refine dfS (dl1 h 0 rfl rfl (diH h ‹_› (by omega) fun zb zo zk zv zc => ?_))
 refine diZ (by decide) (by decide) ?_
 refine dh1 h ‹_› ‹_› (by rfl) ?_
 refine diH h ‹_› (by omega) fun zb zo zk zv zc => ?_
 refine diZ (by decide) (by decide) ?_
 refine dh1 h ‹_› ‹_› (by rfl) ?_
 refine Dv_qt (by omega) (by omega) (by omega) (cl1 h n_ref28_pick (cc4 h.ext) fun w h => ?_)
 refine kl1 h 0 rfl rfl (kh1 h ‹_› ‹_› (by rfl) ?_)
 refine cl1 h n_ref28_pick (cc5 h.ext) fun w h => ?_
 refine kl1 h 0 rfl rfl (Dv_mu (by omega) (by omega) (Dv_ad (by omega) (by omega) (dfS (st1 h 0 rfl rfl rfl rfl fun w h => ?_))))
 refine faS (Eng.ld1 h 0 rfl rfl (Bn_qu (by omega) (by omega) (by omega) (faS (st1 h 0 rfl rfl rfl rfl fun w h => ?_))))
 refine ldA h 0 rfl rfl ?_
 refine bs1A h (by rfl) (by decide) (by rfl) (by decide) fun v1 w h => ?_
 refine apR (by rfl) (by decide) h 2 rfl (qZ 0 h rfl) (by first | rfl | assumption) (by omega) fun v2 w h => ?_
 refine Bn_ad (by omega) (by omega) ?_
 dsimp only [List.set] at h
 refine ⟨⟨i + 1, by omega, by omega, rfl, ?_⟩, by show l.length - ((i : Int) + 1).toNat < l.length - (i : Int).toNat; omega⟩
 have h := h.drop 2
 rw [fcts_snoc hx, List.length_append, List.flatMap_append]
 have e : (0 : Int) + i = i := by omega
 rw [e] at h
 exact h
abbrev I6 := Fin 6 → Int
def alN (k : Int) : Int := if k = 0 then 2 else if k = 1 then 3 else if k = 2 then 4 else if k = 3 then 5 else if k = 4 then 10 else 20
def mkM (x : I6) : Int := 2 + pickZ (x 2) 3
def mkMu (x : I6) : Rat := ((1 : Int) : Rat) / ((mkM x : Int) : Rat)
def mkAl (x : I6) : Rat := ((1 : Int) : Rat) / ((alN (pickZ (x 3) 6) : Int) : Rat)
def mkBet (x : I6) : Rat := ((pickZ (x 4) (2 * mkM x + 1) : Int) : Rat) / ((2 : Int) : Rat)
def mkSt (x : I6) : Int := if pickZ (x 5) 6 = 0 then pickZ ((x 5).tdiv 6) 12 else -1
def mkWr (x : I6) : WR := ⟨pickZ (x 0) 2, pickZ ((x 0).tdiv 2) 2, pickZ (x 1) 40, tx (mkMu x), tx (mkAl x), tx (mkBet x), mkSt x, 0, 0, ([], []), false⟩
def vX (x : I6) : Value := .agg #[.int .i64 (x 0), .int .i64 (x 1), .int .i64 (x 2), .int .i64 (x 3), .int .i64 (x 4), .int .i64 (x 5)]
theorem alN_bd (k : Int) : 2 ≤ alN k ∧ alN k ≤ 20 := by unfold alN; repeat' split <;> omega
theorem seg_one {xs : List Value} {k : Nat} {v : Value} (h : xs[k * 1]? = some v) : Seg xs (k * 1) [v] := fun j u hj => by
 have h1 := (List.getElem?_eq_some_iff.1 hj).1
 have : j = 0 := by simpa using h1
 subst this
 cases hj
 exact h
set_option maxHeartbeats 8000000 in
theorem c_Watch {w0 : World} {x : I6} (hx : ∀ i, I64 (x i)) : Calls Tryz.prog 21 #[vX x] w0 (Ret fun r w' => Ext w0 w' ∧ r = vW (mkWr x)) := by
 have x0 := hx 0
 have x1 := hx 1
 have x2 := hx 2
 have x3 := hx 3
 have x4 := hx 4
 have x5 := hx 5
 have p2 := pickZ_bd (c := x 2) (n := 3) (by decide)
 have p3 := pickZ_bd (c := x 3) (n := 6) (by decide)
 have p4 := pickZ_bd (c := x 4) (n := 2 * (2 + pickZ (x 2) 3) + 1) (by omega)
 have cc1 := fun {W : World} (_ : Ext w0 W) => c_pickR (w := W) (n := 2) x0 (by decide)
 have cc2 := fun {W : World} (_ : Ext w0 W) => c_pickR (w := W) (c := (x 0).tdiv 2) (n := 2) (tdiv_I64 x0) (by decide)
 have cc3 := fun {W : World} (_ : Ext w0 W) => c_pickR (w := W) (n := 40) x1 (by decide)
 have cc4 := fun {W : World} (_ : Ext w0 W) => c_pickR (w := W) (n := 3) x2 (by decide)
 have cc5 := fun {W : World} (_ : Ext w0 W) => c_pickR (w := W) (n := 6) x3 (by decide)
 have cc6 := fun {W : World} (_ : Ext w0 W) => c_pickR (w := W) (n := 2 * (2 + pickZ (x 2) 3) + 1) x4 (by omega)
 have cc7 := fun {W : World} (_ : Ext w0 W) => c_pickR (w := W) (n := 6) x5 (by decide)
 have cc8 := fun {W : World} (_ : Ext w0 W) => c_pickR (w := W) (c := (x 5).tdiv 6) (n := 12) (tdiv_I64 x5) (by decide)
 have ccm := fun {W : World} (_ : Ext w0 W) => c_fofN (w := W) (n := 1) (d := 2 + pickZ (x 2) 3) (by decide) (by omega) (by omega)
 have hal := alN_bd (pickZ (x 3) 6)
 have cca := fun {W : World} (_ : Ext w0 W) => c_fofN (w := W) (n := 1) (d := alN (pickZ (x 3) 6)) (by decide) (by omega) (by omega)
 have ccb := fun {W : World} (_ : Ext w0 W) => c_fofN (w := W) (n := pickZ (x 4) (2 * (2 + pickZ (x 2) 3) + 1)) (d := 2) (by omega) (by decide) (by decide)
 have e : vW (mkWr x) = vC (pickZ (x 0) 2) (pickZ ((x 0).tdiv 2) 2) (pickZ (x 1) 40) (tx (((1 : Int) : Rat) / ((2 + pickZ (x 2) 3 : Int) : Rat))) (tx (((1 : Int) : Rat) / ((alN (pickZ (x 3) 6) : Int) : Rat))) (tx (((pickZ (x 4) (2 * (2 + pickZ (x 2) 3) + 1) : Int) : Rat) / ((2 : Int) : Rat))) (mkSt x) 0 0 ([], []) false := rfl
 obtain ⟨k, hk⟩ : ∃ k : Nat, pickZ (x 3) 6 = k := ⟨(pickZ (x 3) 6).toNat, by omega⟩
 have hk6 : k < 6 := by omega
 have sk : Seg [.int .i64 2, .int .i64 3, .int .i64 4, .int .i64 5, .int .i64 10, .int .i64 20] (k * 1) [.int .i64 (alN k)] := by
  rcases (show k = 0 ∨ k = 1 ∨ k = 2 ∨ k = 3 ∨ k = 4 ∨ k = 5 by omega) with rfl | rfl | rfl | rfl | rfl | rfl <;> exact seg_one rfl
 rw [hk] at cca cc5 e hal
 rw [e]
 apply e_ref28_Watch
 unfold s_ref28_Watch vX
 have h := Hp.init [] w0
 refine bxA h fun g1 w h => ?_
 refine alS h fun g2 w h => ?_
 refine Jn1.lfb tWc [.int .i64 (pickZ (x 0) 2), .int .i64 (pickZ ((x 0).tdiv 2) 2), .int .i64 (pickZ (x 1) 40), str [], str [], str [], str [], str [], str [], .int .i64 (-1), .int .i64 0, .int .i64 0, str [], str [], .bool false] h (fun K lf1 => ?_) (fun gx w h => ?_)
 ·replace h := h.dr
  refine diZ (by decide) (by decide) ?_
  refine dl1 h 1 rfl rfl (diZ (by decide) (by decide) ?_)
  refine dl1 h 1 rfl rfl (Dv_qt (by omega) (by omega) (by omega) (diZ (by decide) (by decide) ?_))
  refine dl1 h 1 rfl rfl ?_
  refine ⟨?_, ?_⟩
  refine cl1 h n_ref28_pick (cc1 h.ext) fun w h => ?_
  refine kl1 h 1 rfl rfl (kl1 h 1 rfl rfl ?_)
  refine ⟨?_, ?_⟩
  refine cl1 h n_ref28_pick (cc2 h.ext) fun w h => ?_
  refine kl1 h 1 rfl rfl ?_
  refine ⟨?_, ?_⟩
  refine cl1 h n_ref28_pick (cc3 h.ext) fun w h => ?_
  refine dbS (PC.cons (by rfl) (PC.cons (by rfl) (PC.cons (by rfl) (PC.cons (by rfl) PC.nil)))) (by rfl) ?_
  refine alS h fun g3 w h => ?_
  refine kl1 h 2 rfl rfl (kl1 h 2 rfl rfl (kl1 h 2 rfl rfl (stA h 0 rfl rfl rfl rfl fun w h => ?_)))
  exact lf1 _ _ h
  refine alS h fun g3 w h => ?_
  refine kl1 h 2 rfl rfl (kl1 h 2 rfl rfl (kl1 h 2 rfl rfl (cl1 h n_ref28_pick (cc3 h.ext) fun w h => ?_)))
  refine dbS (PC.cons (by rfl) (PC.cons (by rfl) (PC.cons (by rfl) (PC.cons (by rfl) PC.nil)))) (by rfl) ?_
  refine stA h 0 rfl rfl rfl rfl fun w h => ?_
  exact lf1 _ _ h
  refine alS h fun g3 w h => ?_
  refine kl1 h 2 rfl rfl (kl1 h 2 rfl rfl (kl1 h 2 rfl rfl (cl1 h n_ref28_pick (cc2 h.ext) fun w h => ?_)))
  refine kl1 h 2 rfl rfl (cl1 h n_ref28_pick (cc3 h.ext) fun w h => ?_)
  refine dbS (PC.cons (by rfl) (PC.cons (by rfl) (PC.cons (by rfl) (PC.cons (by rfl) PC.nil)))) (by rfl) ?_
  refine stA h 0 rfl rfl rfl rfl fun w h => ?_
  exact lf1 _ _ h
  refine alS h fun g3 w h => ?_
  refine kl1 h 2 rfl rfl (kl1 h 2 rfl rfl (kl1 h 2 rfl rfl (cl1 h n_ref28_pick (cc1 h.ext) fun w h => ?_)))
  refine kl1 h 2 rfl rfl (kl1 h 2 rfl rfl (cl1 h n_ref28_pick (cc2 h.ext) fun w h => ?_))
  refine kl1 h 2 rfl rfl (cl1 h n_ref28_pick (cc3 h.ext) fun w h => ?_)
  refine dbS (PC.cons (by rfl) (PC.cons (by rfl) (PC.cons (by rfl) (PC.cons (by rfl) PC.nil)))) (by rfl) ?_
  refine stA h 0 rfl rfl rfl rfl fun w h => ?_
  exact lf1 _ _ h
 clear cc1 cc2 cc3
 by_cases h6 : pickZ (x 5) 6 = 0
 ·have es : mkSt x = pickZ ((x 5).tdiv 6) 12 := by unfold mkSt; rw [if_pos h6]
  rw [es]
  refine iaZ (by decide) (by decide) ?_
  refine Eng.ld1 h 2 rfl rfl (cl1 h n_ref28_pick (cc4 h.ext) fun w h => ?_)
  refine Bn_ad (by omega) (by omega) (cl1 h n_ref28_of (ccm h.ext) fun w h => ?_)
  refine faS (stA h 0 rfl rfl rfl rfl fun w h => ?_)
  refine bsN (vs := [_, _, _, _, _, _]) h (.cons (by rfl) (by rfl) (.cons (by rfl) (by rfl) (.cons (by rfl) (by rfl) (.cons (by rfl) (by rfl) (.cons (by rfl) (by rfl) (.cons (by rfl) (by rfl) .nil)))))) (by rfl) (by rfl) (by decide) (by decide) (by decide) fun v1 w h => ?_
  refine iaZ (by decide) (by decide) ?_
  refine Eng.ld1 h 3 rfl rfl (cl1 h n_ref28_pick (cc5 h.ext) fun w h => ?_)
  refine iaR h 0 rfl (by omega) fun zg zk zv => ?_
  refine lr0 h 0 rfl ‹_› sk (by rfl) ?_
  refine cl1 h n_ref28_of (cca h.ext) fun w h => ?_
  refine faS (stA h 1 rfl rfl rfl rfl fun w h => ?_)
  refine iaZ (by decide) (by decide) ?_
  refine Eng.ld1 h 3 rfl rfl (Bn_mu (by omega) (by omega) (Bn_ad (by omega) (by omega) (cl1 h n_ref28_pick (cc6 h.ext) fun w h => ?_)))
  refine cl1 h n_ref28_of (ccb h.ext) fun w h => ?_
  refine faS (stA h 1 rfl rfl rfl rfl fun w h => ?_)
  refine iaZ (by decide) (by decide) ?_
  refine Eng.ld1 h 3 rfl rfl (cl1 h n_ref28_pick (cc7 h.ext) fun w h => ?_)
  refine Bn_eqT (by omega) (If_T (iaZ (by decide) (by decide) ?_))
  refine Eng.ld1 h 3 rfl rfl (Bn_qt (by omega) (by omega) (by omega) (cl1 h n_ref28_pick (cc8 h.ext) fun w h => ?_))
  refine faS (st1 h 1 rfl rfl rfl rfl fun w h => ?_)
  dsimp only [List.set] at h
  refine ldA h 1 rfl rfl ?_
  refine stA h 2 rfl rfl rfl rfl fun w h => ?_
  refine rcA h 2 rfl rfl ?_
  dsimp only [List.set] at h
  exact Ret.mk ⟨h.ext, rfl⟩
 ·have es : mkSt x = -1 := by unfold mkSt; rw [if_neg h6]
  rw [es]
  refine iaZ (by decide) (by decide) ?_
  refine Eng.ld1 h 2 rfl rfl (cl1 h n_ref28_pick (cc4 h.ext) fun w h => ?_)
  refine Bn_ad (by omega) (by omega) (cl1 h n_ref28_of (ccm h.ext) fun w h => ?_)
  refine faS (stA h 0 rfl rfl rfl rfl fun w h => ?_)
  refine bsN (vs := [_, _, _, _, _, _]) h (.cons (by rfl) (by rfl) (.cons (by rfl) (by rfl) (.cons (by rfl) (by rfl) (.cons (by rfl) (by rfl) (.cons (by rfl) (by rfl) (.cons (by rfl) (by rfl) .nil)))))) (by rfl) (by rfl) (by decide) (by decide) (by decide) fun v1 w h => ?_
  refine iaZ (by decide) (by decide) ?_
  refine Eng.ld1 h 3 rfl rfl (cl1 h n_ref28_pick (cc5 h.ext) fun w h => ?_)
  refine iaR h 0 rfl (by omega) fun zg zk zv => ?_
  refine lr0 h 0 rfl ‹_› sk (by rfl) ?_
  refine cl1 h n_ref28_of (cca h.ext) fun w h => ?_
  refine faS (stA h 1 rfl rfl rfl rfl fun w h => ?_)
  refine iaZ (by decide) (by decide) ?_
  refine Eng.ld1 h 3 rfl rfl (Bn_mu (by omega) (by omega) (Bn_ad (by omega) (by omega) (cl1 h n_ref28_pick (cc6 h.ext) fun w h => ?_)))
  refine cl1 h n_ref28_of (ccb h.ext) fun w h => ?_
  refine faS (stA h 1 rfl rfl rfl rfl fun w h => ?_)
  refine iaZ (by decide) (by decide) ?_
  refine Eng.ld1 h 3 rfl rfl (cl1 h n_ref28_pick (cc7 h.ext) fun w h => ?_)
  refine Bn_eqF (by omega) (If_F (ldA h 1 rfl rfl ?_))
  refine stA h 2 rfl rfl rfl rfl fun w h => ?_
  dsimp only [List.set] at h
  refine rcA h 2 rfl rfl ?_
  exact Ret.mk ⟨h.ext, rfl⟩
end Go.Proofs.YtnkmbjedcjcccaaGreatDoor
namespace Go.Proofs.YtnkmbjedcjcccaaGreatDoor
open Go Go.Eng Go.Proofs Go.Num Go.RowKit
open Go.Alm (Ft Wt Sm VW VA dn fct obs obs1 rungs obsN fresh sumW)
set_option maxRecDepth 100000
structure Reg (w : Wt) : Prop where
 op : 0 ≤ w.op ∧ w.op ≤ 11
 ve : 0 ≤ w.ve ∧ w.ve ≤ 9
 lim : 0 ≤ w.lim ∧ w.lim ≤ 4398046511104
 st : -1 ≤ w.st ∧ w.st ≤ 999
 mu : Sm 1 w.mu
 al : Sm 1 w.al
 bet : Sm 1000 w.bet
 mu0 : w.mu ≠ 0
 mu1 : w.mu ≠ 1
 al0 : w.al ≠ 0
 bm : w.bet * w.mu ≤ 1
abbrev rw0 (w : Wt) : WR := ⟨w.op, w.ve, w.lim, tx w.mu, tx w.al, tx w.bet, w.st, 0, 0, ([], []), false⟩
theorem tx_1 : tx 1 = ([49], [49]) := by decide +kernel
theorem nw_fresh (ws : List Wt) (w : Wt) : nw (ws.map wr) (rw0 w) = wr (fresh ws w) := by
 have e1 : stF w.st (ws.map wr) = ws.foldl (fun s v => max s v.th) w.st := by
  unfold stF; rw [List.foldl_map]
 have e2 : ((tx w.al).1 == [49] && (tx w.al).2 == [49]) = decide (w.al = 1) := by
  by_cases h : w.al = 1
  ·rw [h, tx_1]; decide
  ·rw [decide_eq_false h]
   cases hc : ((tx w.al).1 == [49] && (tx w.al).2 == [49])
   ·rfl
   ·rw [Bool.and_eq_true, beq_iff_eq, beq_iff_eq] at hc
    exact absurd (tx_inj (show tx w.al = tx 1 by rw [tx_1]; exact Prod.ext hc.1 hc.2)) h
 unfold nw
 show WR.mk w.op w.ve w.lim (tx w.mu) (tx w.al) (tx w.bet) (stF w.st (ws.map wr)) (stF w.st (ws.map wr)) 0 ([49], [49]) ((tx w.al).1 == [49] && (tx w.al).2 == [49]) = wr (fresh ws w)
 rw [e1, e2]
 show _ = WR.mk w.op w.ve w.lim (tx w.mu) (tx w.al) (tx w.bet) (ws.foldl (fun s v => max s v.th) w.st) (ws.foldl (fun s v => max s v.th) w.st) 0 (tx 1) (decide (w.al = 1))
 rw [tx_1]
theorem fresh_VW {ws : List Wt} {w : Wt} (h : Reg w) (hw : ∀ v ∈ ws, v.th ≤ 999) : VW 0 (fresh ws w) := by
 obtain ⟨h1, h2, h3⟩ := Alm.fold_th ws w.st
 have hs := h.st
 have h4 : ws.foldl (fun s v => max s v.th) w.st ≤ 999 := by
  rcases h3 with h3 | ⟨v, hv, h3⟩
  ·omega
  ·rw [h3]; exact hw v hv
 refine ⟨h.op, h.ve, h.lim, ⟨by show -1 ≤ ws.foldl (fun s v => max s v.th) w.st; omega, h4⟩, ⟨Int.le_refl _, h4⟩, ⟨Int.le_refl _, Int.le_refl _⟩, h.mu, h.al, h.bet, h.mu0, h.mu1, h.al0, by show (0 : Rat) ≤ 1; decide, by show (1 : Rat) ≤ _; decide +kernel, by show (1 : Rat).den ∣ _; exact ⟨_, (Nat.one_mul _).symm⟩, h.bm, ?_⟩
 have a1 : w.al ≤ 1 := by have := h.al.le; exact_mod_cast this
 show decide (w.al = 1) = decide ((1 : Rat) ≤ 1 * w.al)
 rw [Rat.one_mul]
 by_cases c : w.al = 1
 ·rw [decide_eq_true c, decide_eq_true (by rw [c]; decide)]
 ·rw [decide_eq_false c, decide_eq_false fun h => c (Rat.le_antisymm a1 h)]
theorem Sm.divq {k n d : Int} (h0 : 0 ≤ n) (hk : n ≤ k * d) (hd : 0 < d ∧ d ≤ 1000) : Sm k ((n : Rat) / (d : Rat)) := by
 have hd0 : (0 : Rat) < (d : Rat) := by exact_mod_cast hd.1
 have hn0 : (0 : Rat) ≤ (n : Rat) := by exact_mod_cast h0
 have hm : (n : Rat) / (d : Rat) * (d : Rat) = (n : Rat) := by
  have := Rat.div_def (n : Rat) (d : Rat)
  have h2 := Rat.mul_inv_cancel (d : Rat) (by grind)
  grind
 refine ⟨?_, ?_, ?_⟩
 ·refine Rat.le_of_mul_le_mul_right (c := (d : Rat)) ?_ hd0
  rw [hm]; grind
 ·refine Rat.le_of_mul_le_mul_right (c := (d : Rat)) ?_ hd0
  rw [hm]
  exact_mod_cast hk
 ·rw [← Rat.divInt_eq_div, Rat.den_divInt, if_neg (by omega)]
  have := Nat.div_le_self d.natAbs (Int.gcd d n)
  omega
theorem q_pos {n d : Int} (hn : 0 < n) (hd : 0 < d) : (n : Rat) / (d : Rat) ≠ 0 := by
 have hd0 : (0 : Rat) < (d : Rat) := by exact_mod_cast hd
 have hn0 : (0 : Rat) < (n : Rat) := by exact_mod_cast hn
 intro h
 have := Rat.div_def (n : Rat) (d : Rat)
 have h2 := Rat.mul_inv_cancel (d : Rat) (by grind)
 grind
theorem q_ne1 {n d : Int} (hd : 0 < d) (h : n ≠ d) : (n : Rat) / (d : Rat) ≠ 1 := by
 have hd0 : (0 : Rat) < (d : Rat) := by exact_mod_cast hd
 intro hc
 have := Rat.div_def (n : Rat) (d : Rat)
 have h2 := Rat.mul_inv_cancel (d : Rat) (by grind)
 have : (n : Rat) = (d : Rat) := by grind
 exact h (by exact_mod_cast this)
def mkW (x : I6) : Wt := ⟨pickZ (x 0) 2, pickZ ((x 0).tdiv 2) 2, pickZ (x 1) 40, mkMu x, mkAl x, mkBet x, mkSt x, 0, 0, 0, false⟩
theorem mkW_reg (x : I6) : Reg (mkW x) := by
 have h0 := pickZ_bd (c := x 0) (n := 2) (by decide)
 have h1 := pickZ_bd (c := (x 0).tdiv 2) (n := 2) (by decide)
 have h2 := pickZ_bd (c := x 1) (n := 40) (by decide)
 have h3 := pickZ_bd (c := x 2) (n := 3) (by decide)
 have h4 := alN_bd (pickZ (x 3) 6)
 have hm : 2 ≤ mkM x ∧ mkM x ≤ 4 := by unfold mkM; omega
 have h5 := pickZ_bd (c := x 4) (n := 2 * mkM x + 1) (by omega)
 have h6 := pickZ_bd (c := (x 5).tdiv 6) (n := 12) (by decide)
 refine ⟨by show 0 ≤ pickZ (x 0) 2 ∧ pickZ (x 0) 2 ≤ 11; omega, by show 0 ≤ pickZ ((x 0).tdiv 2) 2 ∧ pickZ ((x 0).tdiv 2) 2 ≤ 9; omega, by show 0 ≤ pickZ (x 1) 40 ∧ pickZ (x 1) 40 ≤ 4398046511104; omega, ?_, Sm.divq (by decide) (by omega) (by omega), Sm.divq (by decide) (by omega) (by omega), Sm.divq (by omega) (by omega) (by omega), q_pos (by decide) (by omega), q_ne1 (by omega) (by omega), q_pos (by decide) (by omega), ?_⟩
 ·show -1 ≤ mkSt x ∧ mkSt x ≤ 999
  unfold mkSt
  split <;> omega
 ·show mkBet x * mkMu x ≤ 1
  unfold mkBet mkMu
  have hd0 : (0 : Rat) < ((mkM x : Int) : Rat) := by exact_mod_cast (show 0 < mkM x by omega)
  have hb : ((pickZ (x 4) (2 * mkM x + 1) : Int) : Rat) ≤ ((2 * mkM x : Int) : Rat) := by exact_mod_cast (show pickZ (x 4) (2 * mkM x + 1) ≤ 2 * mkM x by omega)
  have e1 := Rat.div_def (((1 : Int)) : Rat) ((mkM x : Int) : Rat)
  have e2 := Rat.mul_inv_cancel ((mkM x : Int) : Rat) (by grind)
  refine Rat.le_of_mul_le_mul_right (c := ((mkM x : Int) : Rat)) ?_ hd0
  have e3 : ((pickZ (x 4) (2 * mkM x + 1) : Int) : Rat) / ((2 : Int) : Rat) * (((1 : Int) : Rat) / ((mkM x : Int) : Rat)) * ((mkM x : Int) : Rat) = ((pickZ (x 4) (2 * mkM x + 1) : Int) : Rat) / ((2 : Int) : Rat) := by grind
  rw [e3]
  rw [Rat.intCast_mul] at hb
  grind
structure VB (n : Int) (B : Rat) (ws : List Wt) : Prop where
 b : Sm 1 B
 len : ws.length ≤ 12
 ok : ∀ w ∈ ws, VW n w
 sp : sumW Alm.al ws ≤ B
theorem VB.va {n : Int} {B : Rat} {ws : List Wt} (h : VB n B ws) (hn : n ≤ 1000000) : VA B ws := ⟨h.b, h.len, fun w hw => (h.ok w hw).mono hn, h.sp⟩
theorem VB.mono {n m : Int} {B : Rat} {ws : List Wt} (h : VB n B ws) (hn : n ≤ m) : VB m B ws := ⟨h.b, h.len, fun w hw => (h.ok w hw).mono hn, h.sp⟩
theorem sum_obs (l : List Ft) : ∀ ws : List Wt, sumW Alm.al (obs ws l) = sumW Alm.al ws
 | [] => rfl
 | w :: ws => by
  show (obs1 w.th w l).al + sumW Alm.al (obs ws l) = w.al + sumW Alm.al ws
  rw [sum_obs l ws, (Alm.obs1_fix w w.th l).1]
theorem VB.obs {n : Int} {B : Rat} {ws : List Wt} (h : VB n B ws) {l : List Ft} (hl : VFs l) : VB (n + l.length) B (obs ws l) := by
 refine ⟨h.b, by rw [Alm.obs_len]; exact h.len, fun w hw => ?_, by rw [sum_obs]; exact h.sp⟩
 obtain ⟨v, hv, rfl⟩ := List.mem_map.1 hw
 exact VW.obs1 v.th (h.ok v hv) fun f hf => (hl.2.1 f hf).1.2
def Can (B : Rat) (ws : List Wt) (w : Wt) : Prop := ws.length + 1 ≤ 12 ∧ sumW Alm.al ws + w.al ≤ B
theorem sum_app1 (ws : List Wt) (w : Wt) : sumW Alm.al (ws ++ [w]) = sumW Alm.al ws + w.al := by
 rw [Alm.sumW_append]
 show _ + (w.al + 0) = _
 grind
theorem VB.reg {n : Int} {B : Rat} {ws : List Wt} {w : Wt} (h : VB n B ws) (hw : Reg w) (hn : 0 ≤ n) (hc : Can B ws w) : VB n B (ws ++ [fresh ws w]) := by
 refine ⟨h.b, by rw [List.length_append]; exact hc.1, fun v hv => ?_, by rw [sum_app1]; exact hc.2⟩
 rcases List.mem_append.1 hv with hv | hv
 ·exact h.ok v hv
 ·rw [List.mem_singleton.1 hv]
  exact (fresh_VW hw fun v hv => (h.ok v hv).th.2).mono hn
theorem can_of {B : Rat} {ws : List Wt} {w : Wt} (h : VA B (ws ++ [fresh ws w])) : Can B ws w := ⟨by have := h.len; rw [List.length_append] at this; exact this, by have := h.sp; rw [sum_app1] at this; exact this⟩
theorem rw0_k {w : Wt} (h : Reg w) : WRk (rw0 w) := by
 have h1 := h.op
 have h2 := h.ve
 have h3 := h.lim
 have h4 := h.st
 have a := Sm.rb h.mu (.inl rfl)
 have b := Sm.rb h.al (.inl rfl)
 have c := Sm.rb h.bet (.inr rfl)
 exact ⟨by show I64 w.op; omega, by show I64 w.ve; omega, by show I64 w.lim; omega, ⟨itoa_ok a.n, itoa_ok a.d⟩, ⟨itoa_ok b.n, itoa_ok b.d⟩, ⟨itoa_ok c.n, itoa_ok c.d⟩, by show I64 w.st; omega, by show I64 0; decide, by show I64 0; decide, ⟨Nat.zero_le _, Nat.zero_le _⟩⟩
theorem VB.ak {n : Int} {B : Rat} {ws : List Wt} (h : VB n B ws) (hn : n ≤ 1000000000) {w : World} {v : Value} (hv : SlC w 15 v ws.length ((ws.map wr).flatMap fW)) : Ak w (tx B) v (ws.map wr) := by
 have hb := Sm.rb h.b (.inl rfl)
 have hl := h.len
 refine ⟨⟨itoa_ok hb.n, itoa_ok hb.d⟩, by rw [List.length_map]; exact hv, fun r hr => ?_, by rw [List.length_map]; omega⟩
 obtain ⟨v, hv, rfl⟩ := List.mem_map.1 hr
 exact wrk_of (h.ok v hv) hn
section
variable {w0 : World} {n : Int} {B : Rat} {ws : List Wt} {v : Value} {w : Wt} (hE : En w0) (hB : VB n B ws) (hn : 0 ≤ n ∧ n ≤ 1000000) (hv : SlC w0 15 v ws.length ((ws.map wr).flatMap fW)) (hw : Reg w)
include hB hn hv hw
theorem c_RegT (hE : En w0) (hc : Can B ws w) : Calls Tryz.prog 22 #[vA (tx B) v, vW (rw0 w)] w0 (Ret fun o w' => ∃ u, o = .tuple #[vA (tx B) u, .int .i64 0] ∧ Hp [] w0 w' [ro tWc 15 u (ws ++ [fresh ws w]).length (((ws ++ [fresh ws w]).map wr).flatMap fW)]) := by
 have h1 : OkA (tx B) (ws.map wr) := ⟨B, ws, rfl, rfl, hB.va hn.2⟩
 have e : okA (tx B) (ws.map wr ++ [nw (ws.map wr) (rw0 w)]) = true := by
  rw [nw_fresh]
  exact okA_t ⟨B, ws ++ [fresh ws w], rfl, by rw [List.map_append]; rfl, (hB.reg hw hn.1 hc).va hn.2⟩
 refine (c_Register hE (hB.ak (by omega) hv) (rw0_k hw)).mono fun en W h => ?_
 obtain ⟨o, rfl, h⟩ := h
 rcases h with ⟨h, _⟩ | ⟨_, u, rfl, h⟩
 ·exact absurd h1 h
 ·refine ⟨_, rfl, u, by rw [e]; rfl, ?_⟩
  rw [nw_fresh, List.length_map] at h
  rw [List.length_append, List.map_append]
  exact h
theorem c_RegF (hE : En w0) (hc : ¬ Can B ws w) : Calls Tryz.prog 22 #[vA (tx B) v, vW (rw0 w)] w0 (Ret fun o w' => Ext w0 w' ∧ o = .tuple #[vA ([], []) (.slice none 0 0), .int .i64 280]) := by
 have h1 : OkA (tx B) (ws.map wr) := ⟨B, ws, rfl, rfl, hB.va hn.2⟩
 have e : okA (tx B) (ws.map wr ++ [nw (ws.map wr) (rw0 w)]) = false := by
  rw [nw_fresh]
  refine okA_f fun ⟨B', ws', e1, e2, h⟩ => hc ?_
  obtain rfl := tx_inj e1
  rw [show ws.map wr ++ [wr (fresh ws w)] = (ws ++ [fresh ws w]).map wr by rw [List.map_append]; rfl] at e2
  obtain rfl := wrs_inj e2
  exact can_of h
 refine (c_Register hE (hB.ak (by omega) hv) (rw0_k hw)).mono fun en W h => ?_
 obtain ⟨o, rfl, h⟩ := h
 rcases h with ⟨h, _⟩ | ⟨_, u, rfl, h⟩
 ·exact absurd h1 h
 ·exact ⟨_, rfl, h.ext, by rw [e]; rfl⟩
omit hw
theorem c_ObsB (hE : En w0) {fv : Value} {fl : List Ft} (hF : Fk w0 fv fl) (hfl : VFs fl) (hn2 : n + fl.length ≤ 1000000) : Calls Tryz.prog 24 #[vA (tx B) v, fv] w0
 (Ret fun o w' => ∃ u rv, o = .tuple #[vA (tx B) u, rv, .int .i64 0] ∧ Hp [] w0 w' [ro tWc 15 u (obs ws fl).length (((obs ws fl).map wr).flatMap fW), ro 3 1 rv (rungs ws (obs ws fl) 0).length ((rungs ws (obs ws fl) 0).flatMap fN)]) := by
 refine (c_ObsT hE (hB.ak (by omega) hv) hF (hB.va hn.2) hfl).mono fun en W h => ?_
 obtain ⟨o, rfl, h⟩ := h
 rcases h with ⟨h, _⟩ | ⟨_, u, rv, rfl, h⟩
 ·exact absurd ((hB.obs hfl).va hn2) h
 ·exact ⟨_, rfl, u, rv, rfl, by rw [Alm.obs_len]; exact h⟩
theorem c_LeftB (hE : En w0) : Calls Tryz.prog 19 #[vA (tx B) v] w0 (Ret fun r w' => Ext w0 w' ∧ r = .tuple #[vR (tx (B - sumW Alm.al ws)), .int .i64 0]) :=
 c_LeftT (hB.ak (by omega) hv) (hB.va hn.2) hE
theorem c_ValB (hE : En w0) : Calls Tryz.prog 13 #[vA (tx B) v] w0 (Ret fun r w' => Ext w0 w' ∧ r = .bool true) := by
 have := c_aValid hE (hB.ak (by omega) hv)
 rw [okA_t ⟨B, ws, rfl, rfl, hB.va hn.2⟩] at this
 exact this
end
abbrev tWd : TypeId := 35
abbrev tDd : TypeId := 41
abbrev tFc : TypeId := 65
abbrev sl2 (v : Value) (n : Nat) (xs : List Value) (rv : Value) (m : Nat) (ys : List Value) : Et := ⟨v.ownBlock.toList ++ rv.ownBlock.toList, fun w => SlC w 15 v n xs ∧ SlC w 1 rv m ys⟩
theorem sl2_at {B : Nat} {S : List Nat} {v rv : Value} {n m : Nat} {xs ys : List Value} {w : World} (h : SlC w 15 v n xs) (k : SlC w 1 rv m ys) : (sl2 v n xs rv m ys).At B S w :=
 fun w' _ hb => ⟨h.mv fun i hi hl => hb i hl (.inl (by simp [hi])), k.mv fun i hi hl => hb i hl (.inl (by simp [hi]))⟩
theorem _root_.Go.Eng.Hp.own {w0 w : World} {L : List Et} (h : Hp [] w0 w L) {i : Nat} {e : TypeId} {c n : Nat} {v : Value} {xs : List Value} (hi : L[i]? = some (ro e c v n xs)) {P : Nat → Prop} : ∀ k, v.ownBlock = some k → k < w.heap.size ∧ (P k ∨ w0.heap.size ≤ k) := fun k hk => by
 have h1 := h.ks _ (List.mem_of_getElem? hi) k (by simp [hk])
 exact ⟨h1.1, .inr (h1.2.resolve_right (by simp))⟩
section
variable {w0 : World} {n : Int} {B : Rat} {ws : List Wt} {v : Value} {w : Wt} (hB : VB n B ws) (hn : 0 ≤ n ∧ n ≤ 1000000) (hv : SlC w0 15 v ws.length ((ws.map wr).flatMap fW)) (hw : Reg w)
include hB hn hv hw
theorem c_RegK (hE : En w0) (hc : Can B ws w) : Calls Tryz.prog 22 #[vA (tx B) v, vW (rw0 w)] w0 (Ret fun o w' => ∃ a b c, o = .tuple #[vA (tx B) (.slice a b c), .int .i64 0] ∧ Hp [] w0 w' [ro tWc 15 (.slice a b c) (ws ++ [fresh ws w]).length (((ws ++ [fresh ws w]).map wr).flatMap fW)]) := by
 refine (c_RegT hB hn hv hw hE hc).mono fun en W h => ?_
 obtain ⟨o, rfl, u, rfl, h⟩ := h
 obtain ⟨a, b, c, rfl, _⟩ := (qZ 0 h rfl).key
 exact ⟨_, rfl, a, b, c, rfl, h⟩
omit hw
theorem c_ObsK (hE : En w0) {fv : Value} {fl : List Ft} (hF : Fk w0 fv fl) (hfl : VFs fl) (hn2 : n + fl.length ≤ 1000000) : Calls Tryz.prog 24 #[vA (tx B) v, fv] w0
 (Ret fun o w' => ∃ a b c a' b' c', o = .tuple #[vA (tx B) (.slice a b c), .slice a' b' c', .int .i64 0] ∧ Hp [] w0 w' [ro tWc 15 (.slice a b c) (obs ws fl).length (((obs ws fl).map wr).flatMap fW), ro 3 1 (.slice a' b' c') (rungs ws (obs ws fl) 0).length ((rungs ws (obs ws fl) 0).flatMap fN)]) := by
 refine (c_ObsB hB hn hv hE hF hfl hn2).mono fun en W h => ?_
 obtain ⟨o, rfl, u, rv, rfl, h⟩ := h
 obtain ⟨a, b, c, rfl, _⟩ := (qZ 0 h rfl).key
 obtain ⟨a', b', c', rfl, _⟩ := (qZ 1 h rfl).key
 exact ⟨_, rfl, a, b, c, a', b', c', rfl, h⟩
end
structure Dd where
 kind : Int
 x : I6
 many : Int
structure Ddk (d : Dd) : Prop where
 kind : I64 d.kind
 x : ∀ i, I64 (d.x i)
 many : I64 d.many
abbrev vD (d : Dd) : Value := .agg #[.int .i64 d.kind, .int .i64 (d.x 0), .int .i64 (d.x 1), .int .i64 (d.x 2), .int .i64 (d.x 3), .int .i64 (d.x 4), .int .i64 (d.x 5), .int .i64 d.many]
structure St where
 ws : List Wt
 at' : Nat
 rg : List Nat
abbrev vWd (B : Rat) (v lv : Value) (k : Nat) (rv : Value) : Value := .agg #[str (tx B).1, str (tx B).2, v, lv, .int .i64 (k : Int), rv]
def fromD (d : Dd) (k : Nat) : Nat := if pickZ d.kind 4 = 1 then (pickZ d.many (k + 1)).toNat else k
def toD (d : Dd) (k m : Nat) : Nat := if pickZ d.kind 4 = 1 then k else min m (k + (pickZ d.many 6).toNat)
def part (fl : List Ft) (i j : Nat) : List Ft := (fl.take j).drop i
open Classical in
noncomputable def doS (B : Rat) (fl : List Ft) (d : Dd) (s : St) : St :=
 if pickZ d.kind 4 = 0 then (if Can B s.ws (mkW d.x) then ⟨s.ws ++ [fresh s.ws (mkW d.x)], s.at', s.rg⟩ else s)
 else ⟨obs s.ws (part fl (fromD d s.at') (toD d s.at' fl.length)), max s.at' (toD d s.at' fl.length), s.rg ++ rungs s.ws (obs s.ws (part fl (fromD d s.at') (toD d s.at' fl.length))) 0⟩
theorem part_get {fl : List Ft} {i j k : Nat} : (part fl i j)[k]? = if i + k < j then fl[i + k]? else none := by
 unfold part
 rw [List.getElem?_drop, List.getElem?_take]
theorem part_VFs {fl : List Ft} (h : VFs fl) (i j : Nat) : VFs (part fl i j) := by
 refine ⟨by unfold part; rw [List.length_drop, List.length_take]; have := h.1; omega, fun f hf => h.2.1 f (List.mem_of_mem_take (List.mem_of_mem_drop hf)), fun k a b ha hb => ?_⟩
 rw [part_get] at ha hb
 split at ha
 ·split at hb
  ·exact h.2.2 (i + k) a b ha (by rw [show i + k + 1 = i + (k + 1) by omega]; exact hb)
  ·cases hb
 ·cases ha
theorem part_len (fl : List Ft) (i j : Nat) : (part fl i j).length ≤ fl.length := by
 unfold part; rw [List.length_drop, List.length_take]; omega
theorem part_n {fl : List Ft} {i j : Nat} (h1 : i ≤ j) (h2 : j ≤ fl.length) : (part fl i j).length = j - i := by
 unfold part; rw [List.length_drop, List.length_take]; omega
def DeP (w0 : World) (B : Rat) (s : St) (v lv rv : Value) (o : Value) (w' : World) : Prop :=
 ∃ u rv', o = .tuple #[vWd B u lv s.at' rv', .bool true] ∧ Ext w0 w' ∧ SlC w' 15 u s.ws.length ((s.ws.map wr).flatMap fW) ∧ SlC w' 1 rv' s.rg.length (s.rg.flatMap fN) ∧
  (∀ k, u.ownBlock = some k → k < w'.heap.size ∧ (v.ownBlock = some k ∨ w0.heap.size ≤ k)) ∧ (∀ k, rv'.ownBlock = some k → k < w'.heap.size ∧ (rv.ownBlock = some k ∨ w0.heap.size ≤ k))
section
variable {w0 : World} {n : Int} {B : Rat} {s : St} {v lv rv : Value} {fl : List Ft} {d : Dd} (hE : En w0) (hB : VB n B s.ws) (hn : 0 ≤ n ∧ n + fl.length ≤ 1000000) (hv : SlC w0 15 v s.ws.length ((s.ws.map wr).flatMap fW)) (hr : SlC w0 1 rv s.rg.length (s.rg.flatMap fN)) (hF : Fk w0 lv fl) (hfl : VFs fl) (ha : s.at' ≤ fl.length) (hrg : s.rg.length ≤ 1000000) (hd : Ddk d)
include hE hB hn hv hr hF hfl ha hrg hd
set_option maxHeartbeats 16000000 in
theorem c_does0 (hk : pickZ d.kind 4 = 0) (hsv : ∀ k, v.ownBlock = some k → k < w0.heap.size) (hsr : ∀ k, rv.ownBlock = some k → k < w0.heap.size) : Calls Tryz.prog 11 #[vWd B v lv s.at' rv, vD d] w0 (Ret (DeP w0 B (doS B fl d s) v lv rv)) := by
 have k0 := hd.kind
 have x0 := hd.x 0
 have x1 := hd.x 1
 have x2 := hd.x 2
 have x3 := hd.x 3
 have x4 := hd.x 4
 have x5 := hd.x 5
 have km := hd.many
 have hfll := hfl.1
 have cc1 : ∀ {W : World}, Ext w0 W → Calls Tryz.prog 27 #[.int .i64 d.kind, .int .i64 4] W (Ret fun r w' => Ext W w' ∧ r = .int .i64 0) := fun {W} _ => by
  have := c_pickL (w := W) (n := 4) k0 (by decide)
  rw [hk] at this
  exact this
 have cc2 : ∀ {W : World}, Ext w0 W → Calls Tryz.prog 21 #[.agg #[.int .i64 (d.x 0), .int .i64 (d.x 1), .int .i64 (d.x 2), .int .i64 (d.x 3), .int .i64 (d.x 4), .int .i64 (d.x 5)]] W (Ret fun r w' => Ext W w' ∧ r = vW (rw0 (mkW d.x))) := fun {W} _ => c_Watch (w0 := W) hd.x
 obtain ⟨va, vb, vc, rfl, _⟩ := hv.key
 obtain ⟨la, lb, lc, rfl, _⟩ := hF.hv.key
 obtain ⟨ra, rb, rc, rfl, _⟩ := hr.key
 have hreg := mkW_reg d.x
 obtain ⟨wn, hwn⟩ : ∃ wn, mkW d.x = wn := ⟨_, rfl⟩
 rw [hwn] at cc2 hreg
 by_cases hc : Can B s.ws wn
 ·have es : doS B fl d s = ⟨s.ws ++ [fresh s.ws wn], s.at', s.rg⟩ := by unfold doS; rw [if_pos hk, hwn, if_pos hc]
  rw [es]
  apply e_law28_world_does
  unfold s_law28_world_does
  have h := Hp.init [] w0
  refine bxA h fun g1 w h => ?_
  refine bxA h fun g2 w h => ?_
  refine alS h fun g3 w h => ?_
  refine faS (Eng.ld1 h 1 rfl rfl (cl1 h n_law28_pick (cc1 h.ext) fun w h => ?_))
  refine Bn_eqT (by omega) (If_T (Jn2.mk fun K lf => ?_))
  have lf1 : ∀ {W : World} {g : Nat} {a : Option Addr} {b c : Nat}, Hp [] w0 W [bx g tAl [str (tx B).1, str (tx B).2, .slice a b c], ro tWc 15 (.slice a b c) (s.ws ++ [fresh s.ws wn]).length (((s.ws ++ [fresh s.ws wn]).map wr).flatMap fW), bx g3 tWd [str [], str [], .slice none 0 0, .slice none 0 0, .int .i64 0, .slice none 0 0], bx g2 tDd [.int .i64 d.kind, .int .i64 (d.x 0), .int .i64 (d.x 1), .int .i64 (d.x 2), .int .i64 (d.x 3), .int .i64 (d.x 4), .int .i64 (d.x 5), .int .i64 d.many], bx g1 tWd [str (tx B).1, str (tx B).2, .slice va vb vc, .slice la lb lc, .int .i64 s.at', .slice ra rb rc]] → K (pr g 0) (.int .i64 0) W := fun {W} {g} {a} {b} {c} h => lf _ _ W (by
   refine Bn_eqT (by omega) (If_T (ldA h 0 rfl rfl ?_))
   refine faS (stA h 4 rfl rfl rfl rfl fun w h => ?_)
   refine ldA h 4 rfl rfl ?_
   refine stA h 2 rfl rfl rfl rfl fun w h => ?_
   refine rcA h 2 rfl rfl ?_
   dsimp only [List.set] at h
   exact Ret.mk ⟨_, _, rfl, h.ext, h.sl (i := 1) rfl, hr.hp h, h.own (i := 1) rfl, fun k hk => ⟨Nat.lt_of_lt_of_le (hsr k hk) h.mo.size, .inl hk⟩⟩)
  clear lf
  replace h := h.dr
  refine dfS (dlA h 2 rfl rfl ?_)
  refine dfS (dlA h 1 rfl rfl ?_)
  refine ⟨?_, ?_⟩
  refine cl1 h n_ref28_Watch (cc2 h.ext) fun w h => ?_
  refine klA h 2 rfl rfl ?_
  refine ⟨?_, ?_⟩
  ·refine Cl_i n_alarm_Register (c_RegK hB (by omega) (hv.ext h.ext) hreg (hE.ext h.ext) hc) ?_
   rintro _ W1 ⟨a, b, c, rfl, h1⟩
   have h := h.cat1 h1 ro_sm
   clear h1
   refine ExP2 (alS h fun g4 w h => ?_)
   refine klA h 4 rfl rfl ?_
   refine klA h 3 rfl rfl ?_
   refine stA h 0 rfl rfl rfl rfl fun w h => ?_
   exact lf1 h
  ·refine alS h fun g4 w h => ?_
   refine klA h 3 rfl rfl ?_
   refine klA h 2 rfl rfl ?_
   refine Cl_i n_alarm_Register (c_RegK hB (by omega) (hv.ext h.ext) hreg (hE.ext h.ext) hc) ?_
   rintro _ W1 ⟨a, b, c, rfl, h1⟩
   have h := h.cat1 h1 ro_sm
   clear h1
   refine ExP2 (stA h 1 rfl rfl rfl rfl fun w h => ?_)
   exact lf1 (h.pick [1, 0, 2, 3, 4] (by decide) rfl)
  ·refine alS h fun g4 w h => ?_
   refine klA h 3 rfl rfl ?_
   refine klA h 2 rfl rfl ?_
   refine cl1 h n_ref28_Watch (cc2 h.ext) fun w h => ?_
   refine klA h 3 rfl rfl ?_
   refine Cl_i n_alarm_Register (c_RegK hB (by omega) (hv.ext h.ext) hreg (hE.ext h.ext) hc) ?_
   rintro _ W1 ⟨a, b, c, rfl, h1⟩
   have h := h.cat1 h1 ro_sm
   clear h1
   refine ExP2 (stA h 1 rfl rfl rfl rfl fun w h => ?_)
   exact lf1 (h.pick [1, 0, 2, 3, 4] (by decide) rfl)
 ·have es : doS B fl d s = s := by unfold doS; rw [if_pos hk, hwn, if_neg hc]
  rw [es]
  have cc3 := fun {W : World} (e : Ext w0 W) => c_RegF (w0 := W) hB (by omega) (hv.ext e) hreg (hE.ext e) hc
  apply e_law28_world_does
  unfold s_law28_world_does
  have h := Hp.init [] w0
  refine bxA h fun g1 w h => ?_
  refine bxA h fun g2 w h => ?_
  refine alS h fun g3 w h => ?_
  refine faS (Eng.ld1 h 1 rfl rfl (cl1 h n_law28_pick (cc1 h.ext) fun w h => ?_))
  refine Bn_eqT (by omega) (If_T ?_)
  refine Jn2.lfb tAl [str [], str [], .slice none 0 0] (.int .i64 280) h (fun K lf1 => ?_) (fun gx w h => ?_)
  ·replace h := h.dr
   refine dfS (dlA h 2 rfl rfl ?_)
   refine dfS (dlA h 1 rfl rfl ?_)
   refine ⟨?_, ?_⟩
   refine cl1 h n_ref28_Watch (cc2 h.ext) fun w h => ?_
   refine klA h 2 rfl rfl ?_
   refine ⟨?_, ?_⟩
   refine cl1 h n_alarm_Register (cc3 h.ext) fun w h => ?_
   refine ExP2 (alS h fun g4 w h => ?_)
   refine klA h 3 rfl rfl ?_
   refine klA h 2 rfl rfl ?_
   refine stA h 0 rfl rfl rfl rfl fun w h => ?_
   exact lf1 _ _ h
   refine alS h fun g4 w h => ?_
   refine klA h 3 rfl rfl ?_
   refine klA h 2 rfl rfl ?_
   refine cl1 h n_alarm_Register (cc3 h.ext) fun w h => ?_
   refine ExP2 (stA h 0 rfl rfl rfl rfl fun w h => ?_)
   exact lf1 _ _ h
   refine alS h fun g4 w h => ?_
   refine klA h 3 rfl rfl ?_
   refine klA h 2 rfl rfl ?_
   refine cl1 h n_ref28_Watch (cc2 h.ext) fun w h => ?_
   refine klA h 3 rfl rfl ?_
   refine cl1 h n_alarm_Register (cc3 h.ext) fun w h => ?_
   refine ExP2 (stA h 0 rfl rfl rfl rfl fun w h => ?_)
   exact lf1 _ _ h
  refine Bn_eqF (by omega) (If_F (ldA h 3 rfl rfl ?_))
  refine stA h 1 rfl rfl rfl rfl fun w h => ?_
  refine rcA h 1 rfl rfl ?_
  dsimp only [List.set] at h
  exact Ret.mk ⟨_, _, rfl, h.ext, hv.hp h, hr.hp h, fun k hk => ⟨Nat.lt_of_lt_of_le (hsv k hk) h.mo.size, .inl hk⟩, fun k hk => ⟨Nat.lt_of_lt_of_le (hsr k hk) h.mo.size, .inl hk⟩⟩
end
theorem run_scB {P : Program} {t e : TypeId} {c n : Nat} {v : Value} {xs : List Value} {w : World} {k k' : IntKind} {lo hi : Nat} [hs : Slt P t e c] (h : SlC w c v n xs) (h1 : lo ≤ hi) (h2 : hi ≤ n) : ∃ v', (∀ W, (Instr.sliceAt t v (some (.int k (lo : Int))) (some (.int k' (hi : Int))) none).run P W = .ok v' W) ∧ Part c v n xs v' (hi - lo) ((xs.drop (lo * c)).take ((hi - lo) * c)) := by
 obtain ⟨a, l, m, hv, rfl, hm⟩ := h.key
 refine ⟨.slice (if m = lo then a else a.map (·.add (lo * c))) (hi - lo) (m - lo), fun W => ?_, ⟨by rw [hv]; exact part_key (l := l), fun W hW => hW.part h1 h2 hv⟩⟩
 subst hv
 have a1 : lo ≤ hi := h1
 have a2 : hi ≤ m := by omega
 simp [Instr.sliceAt, Instr.slice, Instr.sliceBounds, Instr.sliceBound, run_underlying hs.un, hs.sz, asIntOf, a1, a2]
theorem dscB {P : Program} {t e : TypeId} {c n : Nat} {v : Value} {xs : List Value} {w : World} {k k' : IntKind} {lo hi : Nat} {wi : Bool} {KP : Value → Prop} [Slt P t e c] (h : SlC w c v n xs) (h1 : lo ≤ hi) (h2 : hi ≤ n) (hk : ∀ v', Part c v n xs v' (hi - lo) ((xs.drop (lo * c)).take ((hi - lo) * c)) → KP v') : Dv P wi (Instr.sliceAt t v (some (.int k (lo : Int))) (some (.int k' (hi : Int))) none) w KP := by
 obtain ⟨v', h3, h4⟩ := run_scB (P := P) (t := t) (k := k) (k' := k') h h1 h2
 cases wi
 ·exact ⟨_, h3 w, hk v' h4⟩
 ·exact ⟨_, h3, hk v' h4⟩
theorem fN_one (l : List Nat) : ((l.flatMap fN).all fun x => x.oneCell') = true := by
 rw [List.all_eq_true]
 intro x hx
 obtain ⟨k, _, hk⟩ := List.mem_flatMap.1 hx
 rw [List.mem_singleton.1 hk]
 rfl
theorem drop_flat {α : Type} {f : α → List Value} {c : Nat} (hf : ∀ a, (f a).length = c) : ∀ (i : Nat) (l : List α), (l.flatMap f).drop (i * c) = (l.drop i).flatMap f
 | 0, l => by simp
 | i + 1, [] => by simp
 | i + 1, a :: l => by
  rw [List.flatMap_cons, List.drop_append, List.drop_of_length_le (by rw [hf]; rw [Nat.add_mul]; omega), List.nil_append, hf, show (i + 1) * c - c = i * c by rw [Nat.add_mul]; omega, drop_flat hf i l, List.drop_succ_cons]
theorem take_flat {α : Type} {f : α → List Value} {c : Nat} (hf : ∀ a, (f a).length = c) : ∀ (i : Nat) (l : List α), (l.flatMap f).take (i * c) = (l.take i).flatMap f
 | 0, l => by simp
 | i + 1, [] => by simp
 | i + 1, a :: l => by
  rw [List.flatMap_cons, List.take_append, List.take_of_length_le (by rw [hf]; rw [Nat.add_mul]; omega), hf, show (i + 1) * c - c = i * c by rw [Nat.add_mul]; omega, take_flat hf i l, List.take_succ_cons, List.flatMap_cons]
theorem part_flat (fl : List Ft) {i j : Nat} (h : i ≤ j) : ((fl.flatMap fF).drop (i * 10)).take ((j - i) * 10) = (part fl i j).flatMap fF := by
 rw [drop_flat (c := 10) (f := fF) (fun _ => rfl), take_flat (c := 10) (f := fF) (fun _ => rfl)]
 unfold part
 rw [List.drop_take]
section
variable {w0 : World} {n : Int} {B : Rat} {s : St} {v lv rv : Value} {fl : List Ft} {d : Dd} (hE : En w0) (hB : VB n B s.ws) (hn : 0 ≤ n ∧ n + fl.length ≤ 1000000) (hv : SlC w0 15 v s.ws.length ((s.ws.map wr).flatMap fW)) (hr : SlC w0 1 rv s.rg.length (s.rg.flatMap fN)) (hF : Fk w0 lv fl) (hfl : VFs fl) (ha : s.at' ≤ fl.length) (hrg : s.rg.length ≤ 1000000) (hd : Ddk d)
include hE hB hn hv hr hF hfl ha hrg hd
set_option maxHeartbeats 16000000 in
theorem c_does1 (hk : pickZ d.kind 4 ≠ 0) : Calls Tryz.prog 11 #[vWd B v lv s.at' rv, vD d] w0 (Ret (DeP w0 B (doS B fl d s) v lv rv)) := by
 have k0 := hd.kind
 have x0 := hd.x 0
 have x1 := hd.x 1
 have x2 := hd.x 2
 have x3 := hd.x 3
 have x4 := hd.x 4
 have x5 := hd.x 5
 have km := hd.many
 have hfll := hfl.1
 have kb := pickZ_bd (c := d.kind) (n := 4) (by decide)
 obtain ⟨kk, hkk⟩ : ∃ kk, pickZ d.kind 4 = kk := ⟨_, rfl⟩
 have cc1 : ∀ {W : World}, Ext w0 W → Calls Tryz.prog 27 #[.int .i64 d.kind, .int .i64 4] W (Ret fun r w' => Ext W w' ∧ r = .int .i64 kk) := fun {W} _ => by
  have := c_pickL (w := W) (n := 4) k0 (by decide)
  rw [hkk] at this
  exact this
 have pb := pickZ_bd (c := d.many) (n := 6) (by decide)
 have qb := pickZ_bd (c := d.many) (n := (s.at' : Int) + 1) (by omega)
 have cc2 := fun {W : World} (_ : Ext w0 W) => c_pickL (w := W) (n := 6) km (by decide)
 have cc3 := fun {W : World} (_ : Ext w0 W) => c_pickL (w := W) (n := (s.at' : Int) + 1) km (by omega)
 obtain ⟨va, vb, vc, rfl, _⟩ := hv.key
 obtain ⟨la, lb, lc, rfl, _⟩ := hF.hv.key
 obtain ⟨ra, rb, rc, rfl, _⟩ := hr.key
 have hlv := hF.hv
 obtain ⟨f, hf⟩ : ∃ f, fromD d s.at' = f := ⟨_, rfl⟩
 obtain ⟨t, ht⟩ : ∃ t, toD d s.at' fl.length = t := ⟨_, rfl⟩
 have hft : f ≤ t ∧ t ≤ fl.length := by
  rw [← hf, ← ht]; unfold fromD toD
  split <;> omega
 have es : doS B fl d s = ⟨obs s.ws (part fl f t), max s.at' t, s.rg ++ rungs s.ws (obs s.ws (part fl f t)) 0⟩ := by unfold doS; rw [if_neg hk, hf, ht]
 rw [es]
 have hpl := part_len fl f t
 have hpn := part_n (fl := fl) hft.1 hft.2
 have hpv := part_VFs hfl f t
 have hpf := part_flat fl hft.1
 have cc4 := fun {W : World} (e : Ext w0 W) {pv : Value} (hp : Fk W pv (part fl f t)) => c_ObsK (w0 := W) hB (by omega) (hv.ext e) (hE.ext e) hp hpv (by omega)
 rw [hkk] at hk kb
 apply e_law28_world_does
 unfold s_law28_world_does
 have h := Hp.init [] w0
 refine bxA h fun g1 w h => ?_
 refine bxA h fun g2 w h => ?_
 refine alS h fun g3 w h => ?_
 refine faS (Eng.ld1 h 1 rfl rfl (cl1 h n_law28_pick (cc1 h.ext) fun w h => ?_))
 refine Bn_eqF (by omega) (If_F (faS (Eng.ld1 h 2 rfl rfl ?_)))
 replace h := h.dr
 refine dfS (dl1 h 2 rfl rfl (dlS (hlv.hp h) ?_))
 refine dfS (dl1 h 2 rfl rfl (dfS (dl1 h 1 rfl rfl (cl1 h n_law28_pick (cc2 h.ext) fun w h => ?_))))
 refine kl1 h 2 rfl rfl (kl1 h 2 rfl rfl (Dv_ad (by omega) (by omega) (Dv_min ?_)))
 refine Jn2.lf (.int .i64 (f : Nat)) (.int .i64 (t : Nat)) h (fun K lf1 => ?_) (fun W1 h => ?_)
 ·by_cases h1 : kk = 1
  ·have e1 : ((f : Nat) : Int) = pickZ d.many ((s.at' : Int) + 1) := by
    rw [← hf]; unfold fromD; rw [hkk, if_pos h1]; omega
   have e2 : t = s.at' := by rw [← ht]; unfold toD; rw [hkk, if_pos h1]
   rw [e1, e2] at lf1
   refine faS (Eng.ld1 h 1 rfl rfl (cl1 h n_law28_pick (cc1 h.ext) fun w h => ?_))
   refine Bn_eqT (by omega) (If_T (faS (Eng.ld1 h 1 rfl rfl (faS (Eng.ld1 h 2 rfl rfl (Bn_ad (by omega) (by omega) (cl1 h n_law28_pick (cc3 h.ext) fun w h => ?_)))))))
   refine faS (Eng.ld1 h 2 rfl rfl ?_)
   exact lf1 _ h
  ·have e1 : f = s.at' := by rw [← hf]; unfold fromD; rw [hkk, if_neg h1]
   have e2 : ((t : Nat) : Int) = min (fl.length : Int) ((s.at' : Int) + pickZ d.many 6) := by
    rw [← ht]; unfold toD; rw [hkk, if_neg h1]; omega
   rw [e1, e2] at lf1
   refine faS (Eng.ld1 h 1 rfl rfl (cl1 h n_law28_pick (cc1 h.ext) fun w h => ?_))
   refine Bn_eqF (by omega) (If_F ?_)
   exact lf1 _ h
 clear cc1 cc2 cc3
 skip
 refine Jn3.mk fun K lf => ?_
 have lf1 : ∀ {W : World} {g : Nat} {a a' : Option Addr} {b c b' c' : Nat}, Hp [] w0 W [bx g tAl [str (tx B).1, str (tx B).2, .slice a b c], ro tWc 15 (.slice a b c) (obs s.ws (part fl f t)).length (((obs s.ws (part fl f t)).map wr).flatMap fW), ro 3 1 (.slice a' b' c') (rungs s.ws (obs s.ws (part fl f t)) 0).length ((rungs s.ws (obs s.ws (part fl f t)) 0).flatMap fN), bx g3 tWd [str [], str [], .slice none 0 0, .slice none 0 0, .int .i64 0, .slice none 0 0], bx g2 tDd [.int .i64 d.kind, .int .i64 (d.x 0), .int .i64 (d.x 1), .int .i64 (d.x 2), .int .i64 (d.x 3), .int .i64 (d.x 4), .int .i64 (d.x 5), .int .i64 d.many], bx g1 tWd [str (tx B).1, str (tx B).2, .slice va vb vc, .slice la lb lc, .int .i64 s.at', .slice ra rb rc]] → K (pr g 0) (.slice a' b' c') (.int .i64 0) W := fun {W} {g} {a} {a'} {b} {c} {b'} {c'} h => lf _ _ _ W (by
  have o1 := fN_one s.rg
  have o2 := fN_one (rungs s.ws (obs s.ws (part fl f t)) 0)
  have o3 := Alm.rungs_len s.ws (obs s.ws (part fl f t)) 0
  have o4 := hB.len
  refine Bn_neF (by omega) (If_F (ldA h 0 rfl rfl ?_))
  refine faS (stA h 5 rfl rfl rfl rfl fun w h => ?_)
  refine faS (Eng.ld1 h 5 rfl rfl (Bt_mx ?_))
  refine faS (st1 h 5 rfl rfl rfl rfl fun w h => ?_)
  refine bs0 h fun v1 w h => ?_
  refine faS (Eng.ld1 h 6 rfl rfl (apR (by rfl) (by decide) h 0 rfl (hr.hp h) (by first | rfl | assumption) (by omega) fun v2 w h => ?_))
  refine apR (by rfl) (by decide) h 0 rfl (qZ 3 h rfl) (by first | rfl | assumption) (by omega) fun v3 w h => ?_
  dsimp only [List.set] at h
  refine faS (st1w h 6 rfl (qZ 0 h rfl) rfl fun w h => ?_)
  refine ldA h 6 rfl rfl ?_
  refine stA h 4 rfl rfl (by exact oneC (a := [_, _, _, _, _]) (b := []) (qZ 0 h rfl) rfl rfl) rfl fun w h => ?_
  refine rcA h 4 rfl rfl ?_
  dsimp only [List.set] at h
  have em : ((max s.at' t : Nat) : Int) = max (s.at' : Int) (t : Int) := by omega
  have h0 := h.sl (i := 0) rfl
  rw [List.nil_append, ← List.flatMap_append, Nat.zero_add, ← List.length_append] at h0
  refine Ret.mk ⟨_, _, ?_, h.ext, h.sl (i := 2) rfl, h0, h.own (i := 2) rfl, h.own (i := 0) rfl⟩
  show _ = Value.tuple #[.agg #[_, _, _, _, .int .i64 ((max s.at' t : Nat) : Int), _], _]
  rw [em])
 clear lf
 replace h := h.dr
 refine dfS (dlA h 2 rfl rfl ?_)
 refine dfS (dl1 h 2 rfl rfl (dscB (hlv.hp h) hft.1 hft.2 fun v1 p1 => ?_))
 have hpF : ∀ {W : World}, Ext w0 W → Fk W v1 (part fl f t) := fun {W} e => ⟨by
  have := p1.2 _ (hlv.ext e)
  rw [hpf, ← hpn] at this
  exact this, fun f hf => (hpv.2.1 f hf).fi, by omega⟩
 clear p1
 refine ⟨?_, ?_⟩
 ·refine Cl_i n_alarm_Observe (cc4 h.ext (hpF h.ext)) ?_
  rintro _ W2 ⟨a, b, c, a', b', c', rfl, h1⟩
  have h := h.cat2 h1 ro_sm ro_sm
  clear h1 cc4
  refine ExP3x (alS h fun g4 w h => ?_)
  refine klA h 5 rfl rfl ?_
  refine kl1 h 5 rfl rfl (stA h 0 rfl rfl rfl rfl fun w h => ?_)
  exact lf1 h
 ·refine alS h fun g4 w h => ?_
  refine klA h 3 rfl rfl ?_
  refine kl1 h 3 rfl rfl (Cl_i n_alarm_Observe (cc4 h.ext (hpF h.ext)) ?_)
  rintro _ W2 ⟨a, b, c, a', b', c', rfl, h1⟩
  have h := h.cat2 h1 ro_sm ro_sm
  clear h1 cc4
  refine ExP3x (stA h 2 rfl rfl rfl rfl fun w h => ?_)
  exact lf1 (h.pick [2, 0, 1, 3, 4, 5] (by decide) rfl)
end
end Go.Proofs.YtnkmbjedcjcccaaGreatDoor
