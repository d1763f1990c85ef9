/-
  Contracts and plain lemmas. By an AI agent.
-/
import Derived.Test.YtjgjeccfhmlcnaaGreatDoorSmH
import Derived.Test.YtjgjeccfhmlcnaaGreatDoorPlain
import Derived.Test.YtjgjeccfhmlcnaaGreatDoorEngW
import Derived.Test.YtjgjeccfhmlcnaaGreatDoorSmT
import Derived.Test.YtjgjeccfhmlcnaaGreatDoorSmL
import Derived.Test.YtjgjeccfhmlcnaaGreatDoorSmA
set_option linter.unusedSimpArgs false
set_option linter.unusedVariables false
set_option linter.unusedSectionVars false
namespace Go.Proofs.YtjgjeccfhmlcnaaGreatDoor
open Go Go.Eng Go.Proofs Go.Num Go.RowKit
open Go.Smp (Gp run run_le run_in run_out trs trs_cons trs_nil)
set_option maxRecDepth 100000
abbrev kT (f : Ft) : Int := f.tr
abbrev tFs : TypeId := 34
theorem c_traces {w0 W : World} {L : List Et} {v : Value} {l : List Ft} (h : Hp [] w0 W L) (hv : SlC W 10 v l.length (l.flatMap fF)) : Calls Tryz.prog 56 #[v] W (Ret fun r w' => ∃ gs, r = .func (.func 85) #[] #[pr gs 0] ∧ Hp [] w0 w' (bx gs tFs [v] :: L)) := by
 apply e_sample_traces
 unfold s_sample_traces
 refine bx1w h hv fun g1 w h => ?_
 skip
 exact Ret.mk ⟨_, rfl, h⟩
def Yt (v : Value) (l : List Ft) (i : Nat) (vs : List Value) (_ : World) : Prop := ∃ u g, vs = [u] ∧ (trs kT l)[i]? = some g ∧ Part 10 v l.length (l.flatMap fF) u g.length (g.flatMap fF)
theorem drop_cons {α : Type} {l : List α} {p : Nat} {x : α} (h : l[p]? = some x) : l.drop p = x :: l.drop (p + 1) := by
 have hl := (List.getElem?_eq_some_iff.1 h)
 rw [List.drop_eq_getElem_cons hl.1, hl.2]
set_option maxHeartbeats 2000000 in
theorem it_traces {w0 : World} {v : Value} {l : List Ft} {gs : Nat} {J : Nat → World → Prop} (hl : l.length ≤ 1000000000)
 (hJ : ∀ i W, J i W → Blk W gs tFs [v] ∧ SlC W 10 v l.length (l.flatMap fF)) :
 IterG Tryz.prog 85 #[pr gs 0] (trs kT l).length (Yt v l) Ext w0 J := by
 intro li JJ XX W1 hb1 hJJ hst hsx hy h0
 show Calls Tryz.prog 85 #[.func (.yield li) #[] #[], pr gs 0] W1 _
 apply e_sample_traces_1
 unfold s_sample_traces_1
 refine Lp1.mkK (fun i W => ∃ (p k : Nat), p ≤ l.length ∧ (trs kT l).drop k = trs kT (l.drop p) ∧ k ≤ (trs kT l).length ∧ i = .int .i64 p ∧ JJ k W) (fun i _ => match i with | .int _ i' => l.length - i'.toNat | _ => 0) ⟨0, 0, by omega, rfl, by omega, rfl, h0⟩ ?_
 rintro _ W ⟨p, k, hp, hdr, hk, rfl, hjj⟩ K hK
 obtain ⟨b1, sv⟩ := hJ k W (hJJ k W hjj)
 have h := Hp.init [] W
 by_cases hpl : p < l.length
 rotate_left
 ·have e1 : l.drop p = [] := List.drop_of_length_le (by omega)
  rw [e1, trs_nil] at hdr
  have e2 : (trs kT l).length ≤ k := List.drop_eq_nil_iff.1 hdr
  have e3 : k = (trs kT l).length := by omega
  subst e3
  refine lg1 h ‹_› (by rfl) ?_
  refine leS (sv.hp h) ?_
  refine Bn_ltF (by omega) (If_F ?_)
  exact ⟨⟨_, rfl⟩, .inl hjj⟩
 obtain ⟨f, hf⟩ : ∃ f, l[p]? = some f := ⟨_, List.getElem?_eq_getElem hpl⟩
 have ed := drop_cons hf
 obtain ⟨r, hr⟩ : ∃ r, run kT f.tr (l.drop (p + 1)) = r := ⟨_, rfl⟩
 have hrl := run_le kT f.tr (l.drop (p + 1))
 rw [hr, List.length_drop] at hrl
 rw [ed, trs_cons] at hdr
 simp only [kT] at hdr
 rw [hr, List.drop_drop] at hdr
 have hg : (trs kT l)[k]? = some (f :: (l.drop (p + 1)).take r) := by
  have : ((trs kT l).drop k)[0]? = some (f :: (l.drop (p + 1)).take r) := by rw [hdr]; rfl
  rwa [List.getElem?_drop, Nat.add_zero] at this
 have hkl := (List.getElem?_eq_some_iff.1 hg).1
 have hdr2 : (trs kT l).drop (k + 1) = trs kT (l.drop (p + 1 + r)) := by
  have : (trs kT l).drop (k + 1) = ((trs kT l).drop k).drop 1 := by rw [List.drop_drop]
  rw [this, hdr, List.drop_succ_cons, List.drop_zero]
 have sf : Seg (l.flatMap fF) (p * 10) (fF f) := flat_seg (f := fF) (fun _ => rfl) hf
 refine lg1 h ‹_› (by rfl) ?_
 refine leS (sv.hp h) ?_
 refine Bn_ltT (by omega) (If_T (Bn_ad (by omega) (by omega) (Lp1.mkK (fun i w => ∃ j : Nat, j ≤ r ∧ i = .int .i64 ((p + 1 + j : Nat) : Int) ∧ Hp [] W w []) (fun i _ => match i with | .int _ i' => l.length - i'.toNat | _ => 0) ⟨0, by omega, by congr 1, h⟩ ?_)))
 clear h
 rintro _ w ⟨j, hj, rfl, h⟩ K2 hK2
 by_cases hjr : j < r
 ·obtain ⟨x, hx⟩ : ∃ x, l[p + 1 + j]? = some x := ⟨_, List.getElem?_eq_getElem (by omega)⟩
  have sx : Seg (l.flatMap fF) ((p + 1 + j) * 10) (fF x) := flat_seg (f := fF) (fun _ => rfl) hx
  have ek : x.tr = f.tr := run_in kT (t := f.tr) (l := l.drop (p + 1)) (i := j) (by omega) (by rw [List.getElem?_drop]; exact hx)
  replace h := h.dr
  refine dg1 h ‹_› (by rfl) ?_
  refine dlS (sv.hp h) ?_
  refine Dv_ltT (by omega) (GdP_T (dg1 h ‹_› (by rfl) ?_))
  refine GdP_T (GdP_T (diH h ‹_› (by omega) fun zb zo zk zv zc => ?_))
  refine GdP_T (dfS (GdP_T (dh1 h ‹_› ‹_› (by rfl) ?_)))
  refine GdP_T (dg1 h ‹_› (by rfl) ?_)
  refine GdP_T (GdP_T (diH h ‹_› (by omega) fun zb zo zk zv zc => ?_))
  refine GdP_T (dfS (GdP_T (dh1 h ‹_› ‹_› (by rfl) ?_)))
  refine GdP_T (Dv_eqT (by omega) (PickP_T (If_T (Bn_ad (by omega) (by omega) ?_))))
  exact hK2 _ _ ⟨j + 1, by omega, by congr 1, h⟩ (by show l.length - (((p + 1 + j : Nat) : Int) + 1).toNat < l.length - ((p + 1 + j : Nat) : Int).toNat; omega)
 obtain rfl : j = r := by omega
 by_cases hend : p + 1 + j < l.length
 ·obtain ⟨x, hx⟩ : ∃ x, l[p + 1 + j]? = some x := ⟨_, List.getElem?_eq_getElem hend⟩
  have sx : Seg (l.flatMap fF) ((p + 1 + j) * 10) (fF x) := flat_seg (f := fF) (fun _ => rfl) hx
  have ek : ¬ x.tr = f.tr := run_out kT (t := f.tr) (l := l.drop (p + 1)) (by rw [hr, List.getElem?_drop]; exact hx)
  replace h := h.dr
  refine dg1 h ‹_› (by rfl) ?_
  refine dlS (sv.hp h) ?_
  refine Dv_ltT (by omega) (GdP_T (dg1 h ‹_› (by rfl) ?_))
  refine GdP_T (GdP_T (diH h ‹_› (by omega) fun zb zo zk zv zc => ?_))
  refine GdP_T (dfS (GdP_T (dh1 h ‹_› ‹_› (by rfl) ?_)))
  refine GdP_T (dg1 h ‹_› (by rfl) ?_)
  refine GdP_T (GdP_T (diH h ‹_› (by omega) fun zb zo zk zv zc => ?_))
  refine GdP_T (dfS (GdP_T (dh1 h ‹_› ‹_› (by rfl) ?_)))
  refine GdP_T (Dv_eqF (by omega) (PickP_T (If_F (lg1 h ‹_› (by rfl) ?_))))
  refine scBp (sv.hp h) (by omega) (by omega) fun v1 p1 => ?_
  have e3 : p + 1 + j - p = (f :: (l.drop (p + 1)).take j).length := by rw [List.length_cons, List.length_take, List.length_drop]; omega
  have e4 : ((l.flatMap fF).drop (p * 10)).take ((p + 1 + j - p) * 10) = (f :: (l.drop (p + 1)).take j).flatMap fF := by
   rw [flat_drop (f := fF) (c := 10) (fun _ => rfl), flat_take (f := fF) (c := 10) (fun _ => rfl), ed, show p + 1 + j - p = j + 1 by omega, List.take_succ_cons]
  rw [e4, e3] at p1
  refine Cw_y (vs := [v1]) (hy k _ _ hkl ⟨v1, _, rfl, hg, p1⟩ (hst k W _ hjj h.ext)) ?_
  rintro b w' (⟨rfl, hjj'⟩ | ⟨rfl, hxx⟩)
  ·have h := Hp.init [] w'
   refine Un_T (If_F ?_)
   exact hK _ _ ⟨p + 1 + j, k + 1, by omega, hdr2, by omega, rfl, hjj'⟩ (by show l.length - ((p + 1 + j : Nat) : Int).toNat < l.length - ((p : Nat) : Int).toNat; omega)
  ·have h := Hp.init [] w'
   refine Un_F (If_T ?_)
   exact ⟨⟨_, rfl⟩, .inr hxx⟩
 ·replace h := h.dr
  refine dg1 h ‹_› (by rfl) ?_
  refine dlS (sv.hp h) ?_
  refine Dv_ltF (by omega) (GdP_FT (GdP_FT (GdP_FT (GdP_FT (GdP_FT (GdP_FT (GdP_FT (GdP_FT (GdP_FT (GdP_FT (GdP_FT (PickP_F (If_F (lg1 h ‹_› (by rfl) ?_))))))))))))))
  refine scBp (sv.hp h) (by omega) (by omega) fun v1 p1 => ?_
  have e3 : p + 1 + j - p = (f :: (l.drop (p + 1)).take j).length := by rw [List.length_cons, List.length_take, List.length_drop]; omega
  have e4 : ((l.flatMap fF).drop (p * 10)).take ((p + 1 + j - p) * 10) = (f :: (l.drop (p + 1)).take j).flatMap fF := by
   rw [flat_drop (f := fF) (c := 10) (fun _ => rfl), flat_take (f := fF) (c := 10) (fun _ => rfl), ed, show p + 1 + j - p = j + 1 by omega, List.take_succ_cons]
  rw [e4, e3] at p1
  refine Cw_y (vs := [v1]) (hy k _ _ hkl ⟨v1, _, rfl, hg, p1⟩ (hst k W _ hjj h.ext)) ?_
  rintro b w' (⟨rfl, hjj'⟩ | ⟨rfl, hxx⟩)
  ·have h := Hp.init [] w'
   refine Un_T (If_F ?_)
   exact hK _ _ ⟨p + 1 + j, k + 1, by omega, hdr2, by omega, rfl, hjj'⟩ (by show l.length - ((p + 1 + j : Nat) : Int).toNat < l.length - ((p : Nat) : Int).toNat; omega)
  ·have h := Hp.init [] w'
   refine Un_F (If_T ?_)
   exact ⟨⟨_, rfl⟩, .inr hxx⟩
end Go.Proofs.YtjgjeccfhmlcnaaGreatDoor
namespace Go.Proofs.YtjgjeccfhmlcnaaGreatDoor
open Go Go.Eng Go.Proofs Go.Num Go.RowKit
open Go.Smp (Gp trs hdK trs_mem trs_ne trs_len_le)
set_option maxRecDepth 100000
inductive Pl : List Et → Prop
 | nil : Pl []
 | bx {g : Nat} {ty : TypeId} {cs : List Value} {L : List Et} : Pl L → Pl (bx g ty cs :: L)
 | ro {ty : TypeId} {c n : Nat} {v : Value} {xs : List Value} {L : List Et} : Pl L → Pl (ro ty c v n xs :: L)
theorem ro_nrec {w : World} {e : TypeId} {c n : Nat} {v : Value} {xs : List Value} (h : w.ownsRow 0 e c v n xs) : ∀ k ∈ v.ownBlock.toList, isRec w.heap[k]? = false := by
 obtain ⟨h1, ⟨rfl, h⟩ | ⟨g, cap, cur, rfl, _, h3, _⟩⟩ := h
 ·intro k hk; simp [Value.ownBlock] at hk
 ·intro k hk
  simp [Value.ownBlock] at hk
  subst hk
  rw [h3]; rfl
theorem Pl.nr {L : List Et} (hp : Pl L) {w : World} (h : ∀ e ∈ L, e.Q w) : ∀ k ∈ L.flatMap Et.ks, isRec w.heap[k]? = false := by
 induction hp with
 | nil => intro k hk; simp at hk
 | bx hp ih =>
  intro k hk
  rw [List.flatMap_cons] at hk
  rcases List.mem_append.1 hk with hk | hk
  ·rw [List.mem_singleton.1 hk]
   exact Blk.nrec (h _ (List.mem_cons_self ..))
  ·exact ih (fun e he => h e (List.mem_cons_of_mem _ he)) k hk
 | ro hp ih =>
  intro k hk
  rw [List.flatMap_cons] at hk
  rcases List.mem_append.1 hk with hk | hk
  ·exact ro_nrec (h _ (List.mem_cons_self ..)) k hk
  ·exact ih (fun e he => h e (List.mem_cons_of_mem _ he)) k hk
theorem nrP {S : List Nat} {w0 w : World} {L : List Et} (h : Hp S w0 w L) (hp : Pl L) {B : Nat} : ∀ k ∈ L.flatMap Et.ks, k < B ∨ isRec w.heap[k]? = false :=
 fun k hk => .inr (hp.nr (fun e he => (h.ok e he).get) k hk)
def wOf (ws : List Int) (s : Int) : Int := ws.getD s.toNat 0
def gSz : List Ft → Int
 | [] => 0
 | f :: g => f.by' + gSz g
def gMx (ws : List Int) : List Ft → Int
 | [] => 0
 | f :: g => max (wOf ws f.sv) (gMx ws g)
theorem gSz_snoc (f : Ft) : ∀ g : List Ft, gSz (g ++ [f]) = gSz g + f.by'
 | [] => by show f.by' + 0 = 0 + f.by'; omega
 | a :: g => by show a.by' + gSz (g ++ [f]) = a.by' + gSz g + f.by'; rw [gSz_snoc f g]; omega
theorem gMx_snoc (ws : List Int) (f : Ft) : ∀ g : List Ft, gMx ws (g ++ [f]) = max (gMx ws g) (wOf ws f.sv)
 | [] => by show max _ 0 = max 0 _; exact Int.max_comm _ _
 | a :: g => by show max _ (gMx ws (g ++ [f])) = max (max _ (gMx ws g)) _; rw [gMx_snoc ws f g, Int.max_assoc]
theorem gSz_bd {m : Int} (h0 : 0 ≤ m) : ∀ {g : List Ft}, (∀ f ∈ g, 0 ≤ f.by' ∧ f.by' ≤ m) → 0 ≤ gSz g ∧ gSz g ≤ g.length * m
 | [], _ => by simp [gSz]
 | f :: g, h => by
  have h1 := h f (List.mem_cons_self ..)
  have h2 := gSz_bd h0 fun x hx => h x (List.mem_cons_of_mem _ hx)
  rw [gSz, List.length_cons]
  have e : ((g.length + 1 : Nat) : Int) * m = g.length * m + m := by rw [Int.natCast_add, Int.add_mul]; simp
  omega
theorem wOf_bd {ws : List Int} (hl : ws.length = 8) (hw : ∀ x ∈ ws, 1 ≤ x ∧ x ≤ 1000) {s : Int} (h0 : 0 ≤ s) (h1 : s ≤ 7) : ws[s.toNat]? = some (wOf ws s) ∧ 1 ≤ wOf ws s ∧ wOf ws s ≤ 1000 := by
 have hlt : s.toNat < ws.length := by omega
 have e : ws[s.toNat]? = some ws[s.toNat] := List.getElem?_eq_getElem hlt
 have e2 : wOf ws s = ws[s.toNat] := by unfold wOf; rw [List.getD_eq_getElem?_getD, e]; rfl
 rw [e2]
 exact ⟨e, hw _ (List.getElem_mem hlt)⟩
theorem gMx_bd {ws : List Int} (hl : ws.length = 8) (hw : ∀ x ∈ ws, 1 ≤ x ∧ x ≤ 1000) : ∀ {g : List Ft}, (∀ f ∈ g, 0 ≤ f.sv ∧ f.sv ≤ 7) → 0 ≤ gMx ws g ∧ gMx ws g ≤ 1000 ∧ (g ≠ [] → 1 ≤ gMx ws g)
 | [], _ => by simp [gMx]
 | f :: g, h => by
  have h1 := h f (List.mem_cons_self ..)
  have h2 := gMx_bd hl hw fun x hx => h x (List.mem_cons_of_mem _ hx)
  have h3 := wOf_bd hl hw h1.1 h1.2
  refine ⟨?_, ?_, fun _ => ?_⟩
  ·show 0 ≤ max (wOf ws f.sv) (gMx ws g); omega
  ·show max (wOf ws f.sv) (gMx ws g) ≤ 1000; omega
  ·show 1 ≤ max (wOf ws f.sv) (gMx ws g); omega
abbrev fId (g : List Ft) : List Value := [.int .i64 (hdK kT g)]
abbrev fSz (g : List Ft) : List Value := [.int .i64 (gSz g)]
abbrev fMx (ws : List Int) (g : List Ft) : List Value := [.int .i64 (gMx ws g)]
abbrev DD (gs g4 g3 g2 g1 : Nat) (v wv v8 v9 v10 : Value) (ws : List Int) (A : List (List Ft)) : List Et :=
 [bx gs tFs [v], ro tI 1 v10 A.length (A.flatMap (fMx ws)), bx g4 tIs [v10], ro tI 1 v9 A.length (A.flatMap fSz), bx g3 tIs [v9], ro tI 1 v8 A.length (A.flatMap fId), bx g2 tIs [v8], bx g1 tIs [wv]]
abbrev glO (ws : List Int) (A : List (List Ft)) : List Gp := A.map fun g => (gSz g, gMx ws g)
def zipK (A : List (List Ft)) (ks : List Int) : List (Int × Value) := List.zipWith (fun g k => (hdK kT g, Value.int .i64 k)) A ks
def DvR (w0 : World) (b : Int) (ws : List Int) (l : List Ft) (r : Value) (w' : World) : Prop := ∃ f, Go.Smp.Stb b (glO ws (trs kT l)) f ∧
 (Go.Smp.okAll b (glO ws (trs kT l)) f = true ∧ (∃ g, r = .tuple #[.map (some g), .int .i64 0] ∧ Hp [] w0 w' [mf kvI g (zipK (trs kT l) (Go.Smp.kAll b (glO ws (trs kT l)) f))]) ∨
  Go.Smp.okAll b (glO ws (trs kT l)) f = false ∧ r = .tuple #[.map none, .int .i64 150] ∧ Ext w0 w')
instance : MapF Tryz.prog 73 Int kvI 3 3 := mapFI Tryz.underlying73 Tryz.underlying3
theorem asc_of {l : List Ft} (h : OrdF l) : Go.Smp.Asc kT l := by
 have hs : ∀ (d i : Nat) (a b : Ft), l[i]? = some a → l[i + d]? = some b → a.tr ≤ b.tr := by
  intro d
  induction d with
  | zero => intro i a b h1 h2; rw [Nat.add_zero, h1] at h2; rw [Option.some.inj h2]; exact Int.le_refl _
  | succ d ih =>
   intro i a b h1 h2
   have hl := (List.getElem?_eq_some_iff.1 h2).1
   have h3 : l[i + d]? = some (l[i + d]'(by omega)) := List.getElem?_eq_getElem _
   have h4 := ih i a _ h1 h3
   have h5 := h (i + d) _ b h3 h2
   omega
 refine List.pairwise_iff_getElem.2 fun i j hi hj hij => ?_
 exact hs (j - i) i _ _ (List.getElem?_eq_getElem hi) (by rw [show i + (j - i) = j by omega]; exact List.getElem?_eq_getElem hj)
theorem gl_rng {l : List Ft} {ws : List Int} (hV : VFs l) (hl : l.length ≤ 40) (hwl : ws.length = 8) (hwb : ∀ x ∈ ws, 1 ≤ x ∧ x ≤ 1000) : Rng (glO ws (trs kT l)) := by
 have hn := trs_len_le kT l
 refine ⟨by rw [List.length_map]; omega, fun x hx => ?_, fun x hx => ?_⟩
 ·obtain ⟨g, hg, rfl⟩ := List.mem_map.1 hx
  have h1 := gSz_bd (m := 24000) (by decide) (g := g) fun f hf => (hV.2.1 f (trs_mem kT hg hf)).2.2.2.2.2.2.2.2.2
  have h2 : g.length ≤ 40 := by
   have h1 : g.Sublist (trs kT l).flatten := List.sublist_flatten_of_mem hg
   rw [Go.Smp.trs_flat] at h1
   exact Nat.le_trans h1.length_le hl
  show 0 ≤ gSz g ∧ gSz g ≤ 1000000
  omega
 ·obtain ⟨g, hg, rfl⟩ := List.mem_map.1 hx
  have h1 := gMx_bd hwl hwb (g := g) fun f hf => (hV.2.1 f (trs_mem kT hg hf)).2.2.1
  exact ⟨h1.2.2 (trs_ne kT l g hg), h1.2.1⟩
theorem zipK_snoc {A : List (List Ft)} {ks : List Int} {j : Nat} {g : List Ft} {k : Int} (h1 : A[j]? = some g) (h2 : ks[j]? = some k) : zipK (A.take (j + 1)) (ks.take (j + 1)) = zipK (A.take j) (ks.take j) ++ [(hdK kT g, .int .i64 k)] := by
 have l1 := (List.getElem?_eq_some_iff.1 h1).1
 have l2 := (List.getElem?_eq_some_iff.1 h2).1
 unfold zipK
 rw [take_snoc h1, take_snoc h2, List.zipWith_append (by rw [List.length_take, List.length_take]; omega)]
 rfl
theorem zipK_keys {A : List (List Ft)} {ks : List Int} (h : A.length = ks.length) : (zipK A ks).map (·.1) = A.map (hdK kT) := by
 induction A generalizing ks with
 | nil => rfl
 | cons a A ih => cases ks with
  | nil => simp at h
  | cons k ks => show hdK kT a :: _ = hdK kT a :: _; rw [← ih (ks := ks) (by simpa using h)]; rfl
section
variable {w0 : World} {v wv : Value} {l : List Ft} {ws : List Int} {b : Int} (hF : Fk w0 v l) (hV : VFs l) (hl : l.length ≤ 40) (hw : SlC w0 1 wv 8 (ws.flatMap fZ)) (hwl : ws.length = 8) (hwb : ∀ x ∈ ws, 1 ≤ x ∧ x ≤ 1000) (hb : 0 ≤ b ∧ b ≤ 1000000000)
include hF hV hl hw hwl hwb hb
set_option maxHeartbeats 8000000 in
theorem c_divisors : Calls Tryz.prog 34 #[v, .int .i64 b, wv] w0 (Ret (DvR w0 b ws l)) := by
 have cc1 : ∀ {W : World}, Ext w0 W → Calls Tryz.prog 40 #[v] W (Ret fun r w' => Ext W w' ∧ r = .bool true) := fun e => by
  have := c_VFs (hF.ext e)
  rwa [okF_t hV] at this
 have cc2 : ∀ {W : World}, Ext w0 W → Calls Tryz.prog 30 #[wv, .int .i64 1, .int .i64 1000] W (Ret fun r w' => Ext W w' ∧ r = .bool true) := fun e => by
  have h := hw.ext e
  exact c_areIn (l := ws) (by rw [hwl]; exact h) (by omega) hwb
 have hfv := hF.hv
 apply e_sample_divisors
 unfold s_sample_divisors
 have h := Hp.init [] w0
 refine bx1w h hw fun g1 w h => ?_
 refine cl1 h n_trace_ValidFacts (cc1 h.ext) fun w h => ?_
 refine Un_T (Gd_F (Eng.ld1 h 0 rfl rfl (Gd_F (leS (hw.hp h) ?_))))
 refine Gd_F (Bn_neF (by omega) (Pick_F (Gd_F (Eng.ld1 h 0 rfl rfl (Gd_F (cl1 h n_sample_areIn (cc2 h.ext) fun w h => ?_))))))
 refine Gd_F (Un_T (Pick_F (If_F (alS h fun g2 w h => ?_))))
 refine alS h fun g3 w h => ?_
 refine alS h fun g4 w h => ?_
 refine Cl_i n_sample_traces (c_traces h (hfv.ext h.ext)) ?_
 clear h
 rintro _ w2 ⟨gs, rfl, h⟩
 have h := ((h.nil tI 1).nil tI 1).nil tI 1
 have h : Hp [] w0 w2 (DD gs g4 g3 g2 g1 v wv (.slice none 0 0) (.slice none 0 0) (.slice none 0 0) ws ((trs kT l).take 0)) := h.pick [3, 0, 4, 1, 5, 2, 6, 7] (by decide) rfl
 have hw1 := h.size
 have hpl : ∀ {v8 v9 v10 : Value} {A : List (List Ft)}, Pl (DD gs g4 g3 g2 g1 v wv v8 v9 v10 ws A) := fun {v8 v9 v10 A} => .bx (.ro (.bx (.ro (.bx (.ro (.bx (.bx .nil)))))))
 have ok : IterOk w2 (Yt v l) Ext (fun i W => ∃ v8 v9 v10, Hp [] w0 W (DD gs g4 g3 g2 g1 v wv v8 v9 v10 ws ((trs kT l).take i))) (fun _ _ => False) :=
  ⟨fun i W W' ⟨v8, v9, v10, h⟩ b => ⟨v8, v9, v10, h.bk2 (nrP h hpl) hw1 b⟩, fun _ _ _ h _ => h, fun _ _ _ _ h _ => h, fun i W W' ⟨v8, v9, v10, h⟩ x => ⟨v8, v9, v10, h.x x⟩, fun _ _ _ h _ => h, fun W W' x => ⟨x.size, fun k _ hk _ => x.block k hk⟩⟩
 refine ⟨85, #[pr gs 0], (trs kT l).length, Yt v l, Ext, _, _, rfl, n_sample_traces_1, fun i vs W ⟨u, g, e, _⟩ => by rw [e]; rfl, it_traces (by omega) (fun i W ⟨v8, v9, v10, h⟩ => ⟨h.get (i := 0) rfl, hfv.ext h.ext⟩), ok, ⟨_, _, _, h⟩, ?_, ?_, fun _ _ _ _ h => h.elim, by simp⟩
 ·clear h
  rintro a0 i W hi ⟨u, g, hu, hg, hp⟩ ⟨v8, v9, v10, h⟩ hsz
  obtain rfl : a0 = u := by simpa using hu
  replace h := h.fr w2.heap.size (by omega) (nrP h hpl)
  generalize hNX : (fun W' => (∃ v8 v9 v10, Hp [] w0 W' (DD gs g4 g3 g2 g1 v wv v8 v9 v10 ws ((trs kT l).take (i + 1)))) ∧ Kf w2.heap.size W W') = NX
  have su : SlC w0 10 a0 g.length (g.flatMap fF) := hp.2 w0 hfv
  have ggl : ∀ x ∈ g, x ∈ l := fun x hx => trs_mem kT (List.mem_of_getElem? hg) hx
  have glen : g.length ≤ 40 := by
   have h1 : g.Sublist (trs kT l).flatten := List.sublist_flatten_of_mem (List.mem_of_getElem? hg)
   rw [Go.Smp.trs_flat] at h1
   exact Nat.le_trans h1.length_le hl
  have gne := trs_ne kT l g (List.mem_of_getElem? hg)
  have bS : ∀ j, 0 ≤ gSz (g.take j) ∧ gSz (g.take j) ≤ 960000 := fun j => by
   have h1 := gSz_bd (m := 24000) (by decide) (g := g.take j) fun f hf => (hV.2.1 f (ggl f (List.mem_of_mem_take hf))).2.2.2.2.2.2.2.2.2
   have h2 : (g.take j).length ≤ 40 := by rw [List.length_take]; omega
   omega
  have bM : ∀ j, 0 ≤ gMx ws (g.take j) ∧ gMx ws (g.take j) ≤ 1000 := fun j => by
   have h1 := gMx_bd hwl hwb (g := g.take j) fun f hf => (hV.2.1 f (ggl f (List.mem_of_mem_take hf))).2.2.1
   exact ⟨h1.1, h1.2.1⟩
  refine leS (hp.2 _ (hfv.hp h)) ?_
  refine Lp3.mkK (fun a c q W' => ∃ j : Nat, j ≤ g.length ∧ q = .int .i64 j ∧ a = .int .i64 (gSz (g.take j)) ∧ c = .int .i64 (gMx ws (g.take j)) ∧ Hp [] w0 W' (frE w2.heap.size W :: DD gs g4 g3 g2 g1 v wv v8 v9 v10 ws (List.take i (trs kT l))))
   (fun _ _ i _ => match i with | .int _ x => g.length - x.toNat | _ => 0) ⟨0, by omega, rfl, rfl, rfl, h⟩ ?_
  clear h
  rintro _ _ _ W' ⟨j, hj, rfl, rfl, rfl, h⟩ K hK
  by_cases hjl : j < g.length
  ·obtain ⟨f, hf⟩ : ∃ f, g[j]? = some f := ⟨_, List.getElem?_eq_getElem hjl⟩
   have sf : Seg (g.flatMap fF) (j * 10) (fF f) := flat_seg (f := fF) (fun _ => rfl) hf
   have vf := hV.2.1 f (ggl f (List.mem_of_getElem? hf))
   have v1 := vf.2.2.1
   have v2 := vf.2.2.2.2.2.2.2.2.2
   have wb := wOf_bd hwl hwb v1.1 v1.2
   have sw : Seg (ws.flatMap fZ) (f.sv.toNat * 1) (fZ (wOf ws f.sv)) := flat_seg (f := fZ) (fun _ => rfl) wb.1
   have b1 := bS j
   have b2 := bM j
   have e1 := gSz_snoc f (g.take j)
   have e2 := gMx_snoc ws f (g.take j)
   rw [← take_snoc hf] at e1 e2
   refine Bn_ltT (by omega) (If_T (iaH h ‹_› (by omega) fun zb zo zk zv zc => ?_))
   refine lhA h ‹_› ‹_› (by rfl) ?_
   refine alS h fun g5 w h => ?_
   refine stA h 0 rfl rfl rfl rfl fun w h => ?_
   replace h := h.dr
   refine dfS (dl1 h 0 rfl rfl (Dv_ad (by omega) (by omega) (dl1 h 9 rfl rfl (dfS (dl1 h 0 rfl rfl (diHz h ‹_› (by omega) (by omega) fun zb zo zk zv zc => ?_))))))
   refine dh0 h ‹_› ‹_› (by rfl) ?_
   refine Dv_max (Bn_ad (by omega) (by omega) ?_)
   dsimp only [List.set] at h
   rw [← e1, ← e2]
   exact hK _ _ _ _ ⟨j + 1, by omega, rfl, rfl, rfl, h.drop 1⟩ (by show g.length - ((j : Int) + 1).toNat < g.length - (j : Int).toNat; omega)
  obtain rfl : j = g.length := by omega
  rw [take_all (l := g) (Nat.le_refl _)]
  obtain ⟨f, hf⟩ : ∃ f, g[0]? = some f := ⟨_, List.getElem?_eq_getElem (List.length_pos_iff.2 gne)⟩
  have sf : Seg (g.flatMap fF) (0 * 10) (fF f) := flat_seg (f := fF) (fun _ => rfl) hf
  have ef : f.tr = hdK kT g := by
   rcases g with _ | ⟨x, g⟩
   ·simp at hf
   ·have : x = f := by simpa using hf
    rw [← this]; rfl
  have eA := take_snoc hg
  obtain ⟨A, hA⟩ : ∃ A, (trs kT l).take i = A := ⟨_, rfl⟩
  have hAl : A.length = i := by rw [← hA, List.length_take]; omega
  have h400 := trs_len_le kT l
  rw [hA] at h eA
  have g0 : 0 < g.length := List.length_pos_iff.2 gne
  have lfN : ∀ {w : World} {u8 u9 u10 : Value}, Hp [] w0 w (frE w2.heap.size W :: [bx gs tFs [v], ro tI 1 u10 (A.length + 1) (A.flatMap (fMx ws) ++ [.int .i64 (gMx ws g)]), bx g4 tIs [u10], ro tI 1 u9 (A.length + 1) (A.flatMap fSz ++ [.int .i64 (gSz g)]), bx g3 tIs [u9], ro tI 1 u8 (A.length + 1) (A.flatMap fId ++ [.int .i64 f.tr]), bx g2 tIs [u8], bx g1 tIs [wv]]) →
   NX w := fun {w u8 u9 u10} h => by
   rw [← hNX]
   refine ⟨⟨u8, u9, u10, ?_⟩, h.get (i := 0) rfl⟩
   rw [eA]
   have h := h.drop 1
   rw [ef] at h
   simpa [DD] using h
  clear hK
  refine Bn_ltF (by omega) (If_F ?_)
  replace h := h.dr
  refine dl1 h 7 rfl rfl (diH h ‹_› (by omega) fun zb zo zk zv zc => ?_)
  refine dfS (dh1 h ‹_› ‹_› (by rfl) ?_)
  refine dl1 h 5 rfl rfl (dl1 h 3 rfl rfl ?_)
  refine ⟨?_, ?_⟩
  refine bs1A h (by rfl) (by decide) (by rfl) (by decide) fun v1 w h => ?_
  refine kl1 h 8 rfl rfl (kl1 h 6 rfl rfl (kl1 h 4 rfl rfl ?_))
  refine ⟨?_, ?_⟩
  refine apR (by rfl) (by decide) h 7 rfl (qZ 0 h rfl) (by first | rfl | assumption) (by omega) fun v2 w h => ?_
  refine kl1 h 6 rfl rfl (kl1 h 4 rfl rfl ?_)
  refine ⟨?_, ?_⟩
  refine bs1A h (by rfl) (by decide) (by rfl) (by decide) fun v3 w h => ?_
  refine kl1 h 9 rfl rfl (kh1 h ‹_› ‹_› (by rfl) ?_)
  refine kl1 h 7 rfl rfl (kl1 h 5 rfl rfl ?_)
  refine ⟨?_, ?_⟩
  refine apR (by rfl) (by decide) h 6 rfl (qZ 0 h rfl) (by first | rfl | assumption) (by omega) fun v4 w h => ?_
  refine kl1 h 5 rfl rfl (bs1A h (by rfl) (by decide) (by rfl) (by decide) fun v5 w h => ?_)
  refine kl1 h 10 rfl rfl (kh1 h ‹_› ‹_› (by rfl) ?_)
  refine kl1 h 8 rfl rfl (kl1 h 6 rfl rfl (apR (by rfl) (by decide) h 5 rfl (qZ 0 h rfl) (by first | rfl | assumption) (by omega) fun v6 w h => ?_))
  refine st1w h 10 rfl (qZ 9 h rfl) rfl fun w h => ?_
  dsimp only [List.set] at h
  refine st1w h 8 rfl (qZ 7 h rfl) rfl fun w h => ?_
  refine st1w h 6 rfl (qZ 5 h rfl) rfl fun w h => ?_
  exact lfN (h.pick [3, 4, 5, 6, 7, 8, 9, 10, 11] (by decide) rfl)
  refine bs1A h (by rfl) (by decide) (by rfl) (by decide) fun v4 w h => ?_
  refine kl1 h 10 rfl rfl (kh1 h ‹_› ‹_› (by rfl) ?_)
  refine kl1 h 8 rfl rfl (kl1 h 6 rfl rfl (apR (by rfl) (by decide) h 7 rfl (qZ 1 h rfl) (by first | rfl | assumption) (by omega) fun v5 w h => ?_))
  refine kl1 h 6 rfl rfl (apR (by rfl) (by decide) h 5 rfl (qZ 0 h rfl) (by first | rfl | assumption) (by omega) fun v6 w h => ?_)
  refine st1w h 10 rfl (qZ 9 h rfl) rfl fun w h => ?_
  dsimp only [List.set] at h
  refine st1w h 8 rfl (qZ 7 h rfl) rfl fun w h => ?_
  refine st1w h 6 rfl (qZ 5 h rfl) rfl fun w h => ?_
  exact lfN (h.pick [3, 4, 5, 6, 7, 8, 9, 10, 11] (by decide) rfl)
  refine bs1A h (by rfl) (by decide) (by rfl) (by decide) fun v3 w h => ?_
  refine kl1 h 9 rfl rfl (kh1 h ‹_› ‹_› (by rfl) ?_)
  refine kl1 h 7 rfl rfl (kl1 h 5 rfl rfl (bs1A h (by rfl) (by decide) (by rfl) (by decide) fun v4 w h => ?_))
  refine kl1 h 10 rfl rfl (kh1 h ‹_› ‹_› (by rfl) ?_)
  refine kl1 h 8 rfl rfl (kl1 h 6 rfl rfl (apR (by rfl) (by decide) h 7 rfl (qZ 0 h rfl) (by first | rfl | assumption) (by omega) fun v5 w h => ?_))
  refine kl1 h 6 rfl rfl (apR (by rfl) (by decide) h 5 rfl (qZ 1 h rfl) (by first | rfl | assumption) (by omega) fun v6 w h => ?_)
  refine st1w h 10 rfl (qZ 9 h rfl) rfl fun w h => ?_
  dsimp only [List.set] at h
  refine st1w h 8 rfl (qZ 7 h rfl) rfl fun w h => ?_
  refine st1w h 6 rfl (qZ 5 h rfl) rfl fun w h => ?_
  exact lfN (h.pick [3, 4, 5, 6, 7, 8, 9, 10, 11] (by decide) rfl)
  refine ⟨?_, ?_⟩
  refine bs1A h (by rfl) (by decide) (by rfl) (by decide) fun v2 w h => ?_
  refine kl1 h 9 rfl rfl (kh1 h ‹_› ‹_› (by rfl) ?_)
  refine kl1 h 7 rfl rfl (kl1 h 5 rfl rfl ?_)
  refine ⟨?_, ?_⟩
  refine apR (by rfl) (by decide) h 8 rfl (qZ 1 h rfl) (by first | rfl | assumption) (by omega) fun v3 w h => ?_
  refine kl1 h 7 rfl rfl (kl1 h 5 rfl rfl ?_)
  refine ⟨?_, ?_⟩
  refine apR (by rfl) (by decide) h 6 rfl (qZ 0 h rfl) (by first | rfl | assumption) (by omega) fun v4 w h => ?_
  refine kl1 h 5 rfl rfl (bs1A h (by rfl) (by decide) (by rfl) (by decide) fun v5 w h => ?_)
  refine kl1 h 10 rfl rfl (kh1 h ‹_› ‹_› (by rfl) ?_)
  refine kl1 h 8 rfl rfl (kl1 h 6 rfl rfl (apR (by rfl) (by decide) h 5 rfl (qZ 0 h rfl) (by first | rfl | assumption) (by omega) fun v6 w h => ?_))
  refine st1w h 10 rfl (qZ 9 h rfl) rfl fun w h => ?_
  dsimp only [List.set] at h
  refine st1w h 8 rfl (qZ 7 h rfl) rfl fun w h => ?_
  refine st1w h 6 rfl (qZ 5 h rfl) rfl fun w h => ?_
  exact lfN (h.pick [3, 4, 5, 6, 7, 8, 9, 10, 11] (by decide) rfl)
  refine bs1A h (by rfl) (by decide) (by rfl) (by decide) fun v4 w h => ?_
  refine kl1 h 10 rfl rfl (kh1 h ‹_› ‹_› (by rfl) ?_)
  refine kl1 h 8 rfl rfl (kl1 h 6 rfl rfl (apR (by rfl) (by decide) h 7 rfl (qZ 1 h rfl) (by first | rfl | assumption) (by omega) fun v5 w h => ?_))
  refine kl1 h 6 rfl rfl (apR (by rfl) (by decide) h 5 rfl (qZ 0 h rfl) (by first | rfl | assumption) (by omega) fun v6 w h => ?_)
  refine st1w h 10 rfl (qZ 9 h rfl) rfl fun w h => ?_
  dsimp only [List.set] at h
  refine st1w h 8 rfl (qZ 7 h rfl) rfl fun w h => ?_
  refine st1w h 6 rfl (qZ 5 h rfl) rfl fun w h => ?_
  exact lfN (h.pick [3, 4, 5, 6, 7, 8, 9, 10, 11] (by decide) rfl)
  refine bs1A h (by rfl) (by decide) (by rfl) (by decide) fun v3 w h => ?_
  refine kl1 h 10 rfl rfl (kh1 h ‹_› ‹_› (by rfl) ?_)
  refine kl1 h 8 rfl rfl (kl1 h 6 rfl rfl (apR (by rfl) (by decide) h 9 rfl (qZ 2 h rfl) (by first | rfl | assumption) (by omega) fun v4 w h => ?_))
  refine kl1 h 8 rfl rfl (kl1 h 6 rfl rfl (apR (by rfl) (by decide) h 7 rfl (qZ 1 h rfl) (by first | rfl | assumption) (by omega) fun v5 w h => ?_))
  refine kl1 h 6 rfl rfl (apR (by rfl) (by decide) h 5 rfl (qZ 0 h rfl) (by first | rfl | assumption) (by omega) fun v6 w h => ?_)
  refine st1w h 10 rfl (qZ 9 h rfl) rfl fun w h => ?_
  dsimp only [List.set] at h
  refine st1w h 8 rfl (qZ 7 h rfl) rfl fun w h => ?_
  refine st1w h 6 rfl (qZ 5 h rfl) rfl fun w h => ?_
  exact lfN (h.pick [3, 4, 5, 6, 7, 8, 9, 10, 11] (by decide) rfl)
  refine bs1A h (by rfl) (by decide) (by rfl) (by decide) fun v2 w h => ?_
  refine kl1 h 9 rfl rfl (kh1 h ‹_› ‹_› (by rfl) ?_)
  refine kl1 h 7 rfl rfl (kl1 h 5 rfl rfl ?_)
  refine ⟨?_, ?_⟩
  refine apR (by rfl) (by decide) h 8 rfl (qZ 1 h rfl) (by first | rfl | assumption) (by omega) fun v3 w h => ?_
  refine kl1 h 7 rfl rfl (kl1 h 5 rfl rfl (bs1A h (by rfl) (by decide) (by rfl) (by decide) fun v4 w h => ?_))
  refine kl1 h 10 rfl rfl (kh1 h ‹_› ‹_› (by rfl) ?_)
  refine kl1 h 8 rfl rfl (kl1 h 6 rfl rfl (apR (by rfl) (by decide) h 7 rfl (qZ 0 h rfl) (by first | rfl | assumption) (by omega) fun v5 w h => ?_))
  refine kl1 h 6 rfl rfl (apR (by rfl) (by decide) h 5 rfl (qZ 1 h rfl) (by first | rfl | assumption) (by omega) fun v6 w h => ?_)
  refine st1w h 10 rfl (qZ 9 h rfl) rfl fun w h => ?_
  dsimp only [List.set] at h
  refine st1w h 8 rfl (qZ 7 h rfl) rfl fun w h => ?_
  refine st1w h 6 rfl (qZ 5 h rfl) rfl fun w h => ?_
  exact lfN (h.pick [3, 4, 5, 6, 7, 8, 9, 10, 11] (by decide) rfl)
  refine bs1A h (by rfl) (by decide) (by rfl) (by decide) fun v3 w h => ?_
  refine kl1 h 10 rfl rfl (kh1 h ‹_› ‹_› (by rfl) ?_)
  refine kl1 h 8 rfl rfl (kl1 h 6 rfl rfl (apR (by rfl) (by decide) h 9 rfl (qZ 2 h rfl) (by first | rfl | assumption) (by omega) fun v4 w h => ?_))
  refine kl1 h 8 rfl rfl (kl1 h 6 rfl rfl (apR (by rfl) (by decide) h 7 rfl (qZ 0 h rfl) (by first | rfl | assumption) (by omega) fun v5 w h => ?_))
  refine kl1 h 6 rfl rfl (apR (by rfl) (by decide) h 5 rfl (qZ 1 h rfl) (by first | rfl | assumption) (by omega) fun v6 w h => ?_)
  refine st1w h 10 rfl (qZ 9 h rfl) rfl fun w h => ?_
  dsimp only [List.set] at h
  refine st1w h 8 rfl (qZ 7 h rfl) rfl fun w h => ?_
  refine st1w h 6 rfl (qZ 5 h rfl) rfl fun w h => ?_
  exact lfN (h.pick [3, 4, 5, 6, 7, 8, 9, 10, 11] (by decide) rfl)
  refine ⟨?_, ?_⟩
  refine bs1A h (by rfl) (by decide) (by rfl) (by decide) fun v1 w h => ?_
  refine kl1 h 8 rfl rfl (kh1 h ‹_› ‹_› (by rfl) ?_)
  refine kl1 h 6 rfl rfl (kl1 h 4 rfl rfl ?_)
  refine ⟨?_, ?_⟩
  refine bs1A h (by rfl) (by decide) (by rfl) (by decide) fun v2 w h => ?_
  refine kl1 h 9 rfl rfl (kl1 h 7 rfl rfl (kl1 h 5 rfl rfl ?_))
  refine ⟨?_, ?_⟩
  refine apR (by rfl) (by decide) h 8 rfl (qZ 0 h rfl) (by first | rfl | assumption) (by omega) fun v3 w h => ?_
  refine kl1 h 7 rfl rfl (kl1 h 5 rfl rfl ?_)
  refine ⟨?_, ?_⟩
  refine apR (by rfl) (by decide) h 6 rfl (qZ 1 h rfl) (by first | rfl | assumption) (by omega) fun v4 w h => ?_
  refine kl1 h 5 rfl rfl (bs1A h (by rfl) (by decide) (by rfl) (by decide) fun v5 w h => ?_)
  refine kl1 h 10 rfl rfl (kh1 h ‹_› ‹_› (by rfl) ?_)
  refine kl1 h 8 rfl rfl (kl1 h 6 rfl rfl (apR (by rfl) (by decide) h 5 rfl (qZ 0 h rfl) (by first | rfl | assumption) (by omega) fun v6 w h => ?_))
  refine st1w h 10 rfl (qZ 9 h rfl) rfl fun w h => ?_
  dsimp only [List.set] at h
  refine st1w h 8 rfl (qZ 7 h rfl) rfl fun w h => ?_
  refine st1w h 6 rfl (qZ 5 h rfl) rfl fun w h => ?_
  exact lfN (h.pick [3, 4, 5, 6, 7, 8, 9, 10, 11] (by decide) rfl)
  refine bs1A h (by rfl) (by decide) (by rfl) (by decide) fun v4 w h => ?_
  refine kl1 h 10 rfl rfl (kh1 h ‹_› ‹_› (by rfl) ?_)
  refine kl1 h 8 rfl rfl (kl1 h 6 rfl rfl (apR (by rfl) (by decide) h 7 rfl (qZ 2 h rfl) (by first | rfl | assumption) (by omega) fun v5 w h => ?_))
  refine kl1 h 6 rfl rfl (apR (by rfl) (by decide) h 5 rfl (qZ 0 h rfl) (by first | rfl | assumption) (by omega) fun v6 w h => ?_)
  refine st1w h 10 rfl (qZ 9 h rfl) rfl fun w h => ?_
  dsimp only [List.set] at h
  refine st1w h 8 rfl (qZ 7 h rfl) rfl fun w h => ?_
  refine st1w h 6 rfl (qZ 5 h rfl) rfl fun w h => ?_
  exact lfN (h.pick [3, 4, 5, 6, 7, 8, 9, 10, 11] (by decide) rfl)
  refine bs1A h (by rfl) (by decide) (by rfl) (by decide) fun v3 w h => ?_
  refine kl1 h 10 rfl rfl (kh1 h ‹_› ‹_› (by rfl) ?_)
  refine kl1 h 8 rfl rfl (kl1 h 6 rfl rfl (apR (by rfl) (by decide) h 9 rfl (qZ 1 h rfl) (by first | rfl | assumption) (by omega) fun v4 w h => ?_))
  refine kl1 h 8 rfl rfl (kl1 h 6 rfl rfl (apR (by rfl) (by decide) h 7 rfl (qZ 2 h rfl) (by first | rfl | assumption) (by omega) fun v5 w h => ?_))
  refine kl1 h 6 rfl rfl (apR (by rfl) (by decide) h 5 rfl (qZ 0 h rfl) (by first | rfl | assumption) (by omega) fun v6 w h => ?_)
  refine st1w h 10 rfl (qZ 9 h rfl) rfl fun w h => ?_
  dsimp only [List.set] at h
  refine st1w h 8 rfl (qZ 7 h rfl) rfl fun w h => ?_
  refine st1w h 6 rfl (qZ 5 h rfl) rfl fun w h => ?_
  exact lfN (h.pick [3, 4, 5, 6, 7, 8, 9, 10, 11] (by decide) rfl)
  refine bs1A h (by rfl) (by decide) (by rfl) (by decide) fun v2 w h => ?_
  refine kl1 h 9 rfl rfl (kh1 h ‹_› ‹_› (by rfl) ?_)
  refine kl1 h 7 rfl rfl (kl1 h 5 rfl rfl (bs1A h (by rfl) (by decide) (by rfl) (by decide) fun v3 w h => ?_))
  refine kl1 h 10 rfl rfl (kl1 h 8 rfl rfl (kl1 h 6 rfl rfl (apR (by rfl) (by decide) h 9 rfl (qZ 0 h rfl) (by first | rfl | assumption) (by omega) fun v4 w h => ?_)))
  refine kl1 h 8 rfl rfl (kl1 h 6 rfl rfl (apR (by rfl) (by decide) h 7 rfl (qZ 2 h rfl) (by first | rfl | assumption) (by omega) fun v5 w h => ?_))
  refine kl1 h 6 rfl rfl (apR (by rfl) (by decide) h 5 rfl (qZ 1 h rfl) (by first | rfl | assumption) (by omega) fun v6 w h => ?_)
  refine st1w h 10 rfl (qZ 9 h rfl) rfl fun w h => ?_
  dsimp only [List.set] at h
  refine st1w h 8 rfl (qZ 7 h rfl) rfl fun w h => ?_
  refine st1w h 6 rfl (qZ 5 h rfl) rfl fun w h => ?_
  exact lfN (h.pick [3, 4, 5, 6, 7, 8, 9, 10, 11] (by decide) rfl)
  refine bs1A h (by rfl) (by decide) (by rfl) (by decide) fun v1 w h => ?_
  refine kl1 h 8 rfl rfl (kh1 h ‹_› ‹_› (by rfl) ?_)
  refine kl1 h 6 rfl rfl (kl1 h 4 rfl rfl ?_)
  refine ⟨?_, ?_⟩
  refine bs1A h (by rfl) (by decide) (by rfl) (by decide) fun v2 w h => ?_
  refine kl1 h 9 rfl rfl (kl1 h 7 rfl rfl (kl1 h 5 rfl rfl ?_))
  refine ⟨?_, ?_⟩
  refine apR (by rfl) (by decide) h 8 rfl (qZ 0 h rfl) (by first | rfl | assumption) (by omega) fun v3 w h => ?_
  refine kl1 h 7 rfl rfl (kl1 h 5 rfl rfl (bs1A h (by rfl) (by decide) (by rfl) (by decide) fun v4 w h => ?_))
  refine kl1 h 10 rfl rfl (kh1 h ‹_› ‹_› (by rfl) ?_)
  refine kl1 h 8 rfl rfl (kl1 h 6 rfl rfl (apR (by rfl) (by decide) h 7 rfl (qZ 0 h rfl) (by first | rfl | assumption) (by omega) fun v5 w h => ?_))
  refine kl1 h 6 rfl rfl (apR (by rfl) (by decide) h 5 rfl (qZ 2 h rfl) (by first | rfl | assumption) (by omega) fun v6 w h => ?_)
  refine st1w h 10 rfl (qZ 9 h rfl) rfl fun w h => ?_
  dsimp only [List.set] at h
  refine st1w h 8 rfl (qZ 7 h rfl) rfl fun w h => ?_
  refine st1w h 6 rfl (qZ 5 h rfl) rfl fun w h => ?_
  exact lfN (h.pick [3, 4, 5, 6, 7, 8, 9, 10, 11] (by decide) rfl)
  refine bs1A h (by rfl) (by decide) (by rfl) (by decide) fun v3 w h => ?_
  refine kl1 h 10 rfl rfl (kh1 h ‹_› ‹_› (by rfl) ?_)
  refine kl1 h 8 rfl rfl (kl1 h 6 rfl rfl (apR (by rfl) (by decide) h 9 rfl (qZ 1 h rfl) (by first | rfl | assumption) (by omega) fun v4 w h => ?_))
  refine kl1 h 8 rfl rfl (kl1 h 6 rfl rfl (apR (by rfl) (by decide) h 7 rfl (qZ 0 h rfl) (by first | rfl | assumption) (by omega) fun v5 w h => ?_))
  refine kl1 h 6 rfl rfl (apR (by rfl) (by decide) h 5 rfl (qZ 2 h rfl) (by first | rfl | assumption) (by omega) fun v6 w h => ?_)
  refine st1w h 10 rfl (qZ 9 h rfl) rfl fun w h => ?_
  dsimp only [List.set] at h
  refine st1w h 8 rfl (qZ 7 h rfl) rfl fun w h => ?_
  refine st1w h 6 rfl (qZ 5 h rfl) rfl fun w h => ?_
  exact lfN (h.pick [3, 4, 5, 6, 7, 8, 9, 10, 11] (by decide) rfl)
  refine bs1A h (by rfl) (by decide) (by rfl) (by decide) fun v2 w h => ?_
  refine kl1 h 9 rfl rfl (kh1 h ‹_› ‹_› (by rfl) ?_)
  refine kl1 h 7 rfl rfl (kl1 h 5 rfl rfl (bs1A h (by rfl) (by decide) (by rfl) (by decide) fun v3 w h => ?_))
  refine kl1 h 10 rfl rfl (kl1 h 8 rfl rfl (kl1 h 6 rfl rfl (apR (by rfl) (by decide) h 9 rfl (qZ 0 h rfl) (by first | rfl | assumption) (by omega) fun v4 w h => ?_)))
  refine kl1 h 8 rfl rfl (kl1 h 6 rfl rfl (apR (by rfl) (by decide) h 7 rfl (qZ 1 h rfl) (by first | rfl | assumption) (by omega) fun v5 w h => ?_))
  refine kl1 h 6 rfl rfl (apR (by rfl) (by decide) h 5 rfl (qZ 2 h rfl) (by first | rfl | assumption) (by omega) fun v6 w h => ?_)
  refine st1w h 10 rfl (qZ 9 h rfl) rfl fun w h => ?_
  dsimp only [List.set] at h
  refine st1w h 8 rfl (qZ 7 h rfl) rfl fun w h => ?_
  refine st1w h 6 rfl (qZ 5 h rfl) rfl fun w h => ?_
  exact lfN (h.pick [3, 4, 5, 6, 7, 8, 9, 10, 11] (by decide) rfl)
 ·clear h
  rintro D W hD' hd ⟨v8, v9, v10, h⟩
  have eA : (trs kT l).take (trs kT l).length = trs kT l := take_all (Nat.le_refl _)
  rw [eA] at h
  have hnr := nrP h hpl (B := 0)
  replace h := h.df hd (by omega) (fun hc => by
   rcases hnr D hc with h1 | h1
   ·omega
   ·rw [hd] at h1; cases h1)
  clear hnr
  have hn := trs_len_le kT l
  have m1 : (glO ws (trs kT l)).flatMap fS = (trs kT l).flatMap fSz := by rw [List.flatMap_map]
  have m2 : (glO ws (trs kT l)).flatMap fH = (trs kT l).flatMap (fMx ws) := by rw [List.flatMap_map]
  have gll : (glO ws (trs kT l)).length = (trs kT l).length := List.length_map _
  have s9 : SlC W 1 v9 (glO ws (trs kT l)).length ((glO ws (trs kT l)).flatMap fS) := by rw [m1, gll]; exact h.sl (i := 4) rfl
  have s10 : SlC W 1 v10 (glO ws (trs kT l)).length ((glO ws (trs kT l)).flatMap fH) := by rw [m2, gll]; exact h.sl (i := 2) rfl
  have hr : Rng (glO ws (trs kT l)) := gl_rng hV hl hwl hwb
  refine Eng.ld1 h 5 rfl rfl (Eng.ld1 h 3 rfl rfl (Cl_i n_sample_Allocate (c_Alloc s9 s10 hr hb) ?_))
  rintro _ w3 ⟨f, hS, ⟨ho, u, rfl, h3⟩ | ⟨ho, rfl, x3⟩⟩
  rotate_left
  ·have h := h.x x3
   refine Ex2 (Bn_neT (by omega) (If_T (tkE h 0 rfl fun w h => ?_)))
   dsimp only [List.set] at h
   exact Ret.mk ⟨f, hS, .inr ⟨ho, rfl, h.ext⟩⟩
  rw [gll] at h3
  have h := h.cat1 h3 ro_sm
  obtain ⟨ks, hks⟩ : ∃ ks, Go.Smp.kAll b (glO ws (trs kT l)) f = ks := ⟨_, rfl⟩
  have hkl : ks.length = (trs kT l).length := by rw [← hks, Go.Smp.kAll_len hS.inv.len, gll]
  obtain ⟨A, hA⟩ : ∃ A, trs kT l = A := ⟨_, rfl⟩
  have hasc := Go.Smp.trs_asc kT l (asc_of hV.2.2)
  have res : ∀ {w' : World} {g : Nat}, Hp [] w0 w' [mf kvI g (zipK A ks)] → DvR w0 b ws l (.tuple #[.map (some g), .int .i64 0]) w' := fun h => ⟨f, hS, .inl ⟨ho, _, rfl, by rw [hks, hA]; exact h⟩⟩
  rw [hks, hA] at h
  rw [hA] at hkl hasc hn
  clear s9 s10 m1 m2 gll hr h3 hks
  refine Ex2 (Bn_neF (by omega) (If_F (mfS h fun gm w h => ?_)))
  refine Eng.ld1 h 9 rfl rfl (leS (qZ 8 h rfl) ?_)
  refine Lp1.mkK (fun i w => ∃ j : Nat, j ≤ A.length ∧ i = .int .i64 j ∧ Hp [] w0 w (mf kvI gm (zipK (A.take j) (ks.take j)) :: ro tI 1 u A.length (ks.flatMap fZ) :: dfE D :: DD gs g4 g3 g2 g1 v wv v8 v9 v10 ws A))
   (fun i _ => match i with | .int _ x => A.length - x.toNat | _ => 0) ⟨0, by omega, rfl, h⟩ ?_
  clear h
  rintro _ w4 ⟨j, hj, rfl, h⟩ K hK
  by_cases hjl : j < A.length
  ·obtain ⟨g, hg⟩ : ∃ g, A[j]? = some g := ⟨_, List.getElem?_eq_getElem hjl⟩
   obtain ⟨k, hk⟩ : ∃ k, ks[j]? = some k := ⟨_, List.getElem?_eq_getElem (by omega)⟩
   have s1 : Seg (A.flatMap fId) (j * 1) (fId g) := flat_seg (f := fId) (fun _ => rfl) hg
   have s2 : Seg (ks.flatMap fZ) (j * 1) (fZ k) := flat_seg (f := fZ) (fun _ => rfl) hk
   have ez := zipK_snoc hg hk
   have hnew : hdK kT g ∉ (zipK (A.take j) (ks.take j)).map (·.1) := by
    rw [zipK_keys (by rw [List.length_take, List.length_take]; omega)]
    intro hc
    obtain ⟨g', hg', e⟩ := List.mem_map.1 hc
    obtain ⟨i, hi, e2⟩ := List.getElem_of_mem hg'
    have hi' : i < j := by rw [List.length_take] at hi; omega
    rw [List.getElem_take] at e2
    have hp := List.pairwise_iff_getElem.1 hasc i j (by rw [List.length_map]; omega) (by rw [List.length_map]; exact hjl) hi'
    rw [List.getElem_map, List.getElem_map, e2, (List.getElem?_eq_some_iff.1 hg).2] at hp
    omega
   refine Bn_ltT (by omega) (If_T (iaR h 8 rfl (by omega) fun zg zk zv => ?_))
   refine lr0 h 8 rfl ‹_› ‹_› (by rfl) ?_
   refine iaR h 1 rfl (by omega) fun zg zk zv => ?_
   refine lr0 h 1 rfl ‹_› ‹_› (by rfl) ?_
   refine mfN h 0 rfl hnew fun w h => ?_
   have h := h.cst (L' := mf kvI gm (zipK (A.take (j + 1)) (ks.take (j + 1))) :: ro tI 1 u A.length (ks.flatMap fZ) :: dfE D :: DD gs g4 g3 g2 g1 v wv v8 v9 v10 ws A) (by rw [ez]; rfl)
   refine Bn_ad (by omega) (by omega) ?_
   exact hK _ _ ⟨j + 1, by omega, rfl, h⟩ (by show A.length - ((j : Int) + 1).toNat < A.length - (j : Int).toNat; omega)
  ·obtain rfl : j = A.length := by omega
   rw [take_all (l := A) (Nat.le_refl _), take_all (l := ks) (by omega)] at h
   refine Bn_ltF (by omega) (If_F (tkE h 2 rfl fun w h => ?_))
   dsimp only [List.set] at h
   exact Ret.mk (res (h.sub (by simp)))
end
end Go.Proofs.YtjgjeccfhmlcnaaGreatDoor
namespace Go.Proofs.YtjgjeccfhmlcnaaGreatDoor
open Go Go.Eng Go.Proofs Go.Num Go.RowKit
open Go.Smp (Gp trs hdK trs_mem trs_ne trs_len_le trs_key trs_flat)
set_option maxRecDepth 100000
abbrev tMp : TypeId := 73
def kOf (A : List (List Ft)) (ks : List Int) (t : Int) : Int := match Eng.look t (zipK A ks) 0 with
 | some (_, .int _ k) => k
 | _ => 0
def dvs (l : List Ft) (ks : List Int) : List Int := l.map fun f => kOf (trs kT l) ks f.tr
theorem hdK_mem {l : List Ft} {g : List Ft} (hg : g ∈ trs kT l) {x : Ft} (hx : x ∈ g) : hdK kT g = x.tr := by
 rcases g with _ | ⟨y, g⟩
 ·cases hx
 ·exact trs_key kT l _ hg y (List.mem_cons_self ..) x hx
theorem kOf_at {l : List Ft} {ks : List Int} (ho : OrdF l) (hk : ks.length = (trs kT l).length) {f : Ft} (hf : f ∈ l) : ∃ (j : Nat) (k : Int) (g : List Ft), (trs kT l)[j]? = some g ∧ f ∈ g ∧ ks[j]? = some k ∧ (zipK (trs kT l) ks)[j]? = some (f.tr, Value.int .i64 k) ∧ kOf (trs kT l) ks f.tr = k := by
 have h1 : f ∈ (trs kT l).flatten := by rw [trs_flat]; exact hf
 obtain ⟨g, hg, hfg⟩ := List.mem_flatten.1 h1
 obtain ⟨j, hj, e⟩ := List.getElem_of_mem hg
 have hgj : (trs kT l)[j]? = some g := by rw [List.getElem?_eq_getElem hj, e]
 have hkj : ks[j]? = some (ks[j]'(by omega)) := List.getElem?_eq_getElem _
 have hz : (zipK (trs kT l) ks)[j]? = some (f.tr, Value.int .i64 (ks[j]'(by omega))) := by
  unfold zipK
  rw [List.getElem?_zipWith, hgj, hkj, ← hdK_mem hg hfg]
 have hn : ((zipK (trs kT l) ks).map (·.1)).Nodup := by
  rw [zipK_keys hk.symm]
  exact (Go.Smp.trs_asc kT l (asc_of ho)).imp fun h => by omega
 obtain ⟨q, hq⟩ := look_get (i := 0) hn hz
 exact ⟨j, _, g, hgj, hfg, hkj, hz, by unfold kOf; rw [hq]⟩
theorem c_Div1 {w0 : World} {gb gm i : Nat} {m : List (Int × Value)} {f : Ft} {j : Nat} {k : Int} (b1 : Blk w0 gb tMp [.map (some gm)]) (b2 : FBlk kvI w0 gm m) (hn : (m.map (·.1)).Nodup) (hj : m[j]? = some (f.tr, Value.int .i64 k)) :
 Calls Tryz.prog 36 ((#[] : Array Value) ++ #[.int .i64 (i : Int), vF f] ++ #[pr gb 0]) w0 (Ret fun r w' => Ext w0 w' ∧ r = .tuple #[.int .i64 k, .bool true]) := by
 rw [show ((#[] : Array Value) ++ #[.int .i64 (i : Int), vF f] ++ #[pr gb 0]) = #[.int .i64 (i : Int), vF f, pr gb 0] from rfl]
 apply e_sample_Divisors_1
 unfold s_sample_Divisors_1
 have h := Hp.init [] w0
 refine bxA h fun g1 w h => ?_
 refine lg1 h ‹_› (by rfl) ?_
 refine faS (Eng.ld1 h 0 rfl rfl ?_)
 refine lfG ?_ hn hj ?_
 ·exact (h.mo.block gm b2.lt (by simp)).trans b2
 exact Ret.mk ⟨h.ext, rfl⟩
section
variable {w0 : World} {v : Value} {l : List Ft} {gb gm : Nat} {ks : List Int} (hv : SlC w0 10 v l.length (l.flatMap fF)) (hl : l.length ≤ 400) (ho : OrdF l) (hk : ks.length = (trs kT l).length)
 (b1 : Blk w0 gb tMp [.map (some gm)]) (b2 : FBlk kvI w0 gm (zipK (trs kT l) ks))
include hv hl ho hk b1 b2
set_option maxHeartbeats 4000000 in
theorem c_filtD : Calls Tryz.prog 35 #[v, .func (.func 36) #[] #[pr gb 0]] w0 (Ret fun r w' => Hp [] w0 w' [ro tI 1 r l.length ((dvs l ks).flatMap fZ)]) := by
 have hdl : (dvs l ks).length = l.length := List.length_map _
 have hn : ((zipK (trs kT l) ks).map (·.1)).Nodup := by
  rw [zipK_keys hk.symm]
  exact (Go.Smp.trs_asc kT l (asc_of ho)).imp fun h => by omega
 apply e_sample_filtered_api_Fact_int
 unfold s_sample_filtered_api_Fact_int
 have h := Hp.init [] w0
 refine leS (hv.hp h) ?_
 have h := h.nil tI 1
 refine Lp2.mkK (fun a i W => ∃ (j : Nat), j ≤ l.length ∧ i = .int .i64 j ∧ Hp [] w0 W [ro tI 1 a j (((dvs l ks).take j).flatMap fZ)])
  (fun _ i _ => match i with | .int _ x => l.length - x.toNat | _ => 0) ⟨0, by omega, rfl, h⟩ ?_
 clear h
 rintro a _ W ⟨j, hj, rfl, h⟩ K hK
 by_cases hjl : j < l.length
 rotate_left
 ·rw [List.take_of_length_le (by omega), show j = l.length by omega] at h
  have ej : j = l.length := by omega
  refine Bn_ltF (by omega) (If_F ?_)
  exact Ret.mk h
 ·refine Exists.elim (p := fun x => l[j]? = some x) ⟨_, List.getElem?_eq_getElem hjl⟩ fun x hx => ?_
  have s1 : Seg (l.flatMap fF) (j * 10) (fF x) := flat_seg (f := fF) (fun _ => rfl) hx
  obtain ⟨q, k, g, _, _, _, hz, ek⟩ := kOf_at ho hk (List.mem_of_getElem? hx)
  have hd : (dvs l ks)[j]? = some k := by unfold dvs; rw [List.getElem?_map, hx, ← ek]; rfl
  refine Bn_ltT (by omega) (If_T (iaH h ‹_› (by omega) fun zb zo zk zv zc => ?_))
  refine lhA h ‹_› ‹_› (by rfl) ?_
  refine alS h fun g1 w h => ?_
  refine stA h 0 rfl rfl rfl rfl fun w h => ?_
  refine ldA h 0 rfl rfl ?_
  dsimp only [List.set] at h
  refine cw1 h n_sample_Divisors_1 (c_Div1 (b1.ext h.ext) ((h.mo.block gm b2.lt (by simp)).trans b2) hn hz) fun w h => ?_
  refine Ex2 (If_T (bs1A h (by rfl) (by decide) (by rfl) (by decide) fun v1 w h => ?_))
  refine apR (by rfl) (by decide) h 2 rfl (qZ 0 h rfl) (by first | rfl | assumption) (by omega) fun v2 w h => ?_
  refine Bn_ad (by omega) (by omega) ?_
  dsimp only [List.set] at h
  exact hK _ _ _ ⟨j + 1, by omega, rfl, by rw [take_snoc hd, List.flatMap_append]; exact h.sub (by simp)⟩ (by show l.length - ((j : Int) + 1).toNat < l.length - (j : Int).toNat; omega)
end
def DvsR (w0 : World) (b : Int) (ws : List Int) (l : List Ft) (r : Value) (w' : World) : Prop := ∃ f, Go.Smp.Stb b (glO ws (trs kT l)) f ∧
 (Go.Smp.okAll b (glO ws (trs kT l)) f = true ∧ (∃ u, r = .tuple #[u, .int .i64 0] ∧ Hp [] w0 w' [ro tI 1 u l.length ((dvs l (Go.Smp.kAll b (glO ws (trs kT l)) f)).flatMap fZ)]) ∨
  Go.Smp.okAll b (glO ws (trs kT l)) f = false ∧ r = .tuple #[.slice none 0 0, .int .i64 150] ∧ Ext w0 w')
section
variable {w0 : World} {v wv : Value} {l : List Ft} {ws : List Int} {b : Int} (hF : Fk w0 v l) (hV : VFs l) (hl : l.length ≤ 40) (hw : SlC w0 1 wv 8 (ws.flatMap fZ)) (hwl : ws.length = 8) (hwb : ∀ x ∈ ws, 1 ≤ x ∧ x ≤ 1000) (hb : 0 ≤ b ∧ b ≤ 1000000000)
include hF hV hl hw hwl hwb hb
set_option maxHeartbeats 4000000 in
theorem c_Divisors : Calls Tryz.prog 15 #[v, .int .i64 b, wv] w0 (Ret (DvsR w0 b ws l)) := by
 apply e_sample_Divisors
 unfold s_sample_Divisors
 refine Cl_i n_sample_divisors (c_divisors hF hV hl hw hwl hwb hb) ?_
 rintro _ w2 ⟨f, hS, ⟨ho, g, rfl, h⟩ | ⟨ho, rfl, x2⟩⟩
 rotate_left
 ·have h := (Hp.init [] w0).x x2
  refine Ex2 (alS h fun g1 w h => ?_)
  refine st1 h 0 rfl rfl rfl rfl fun w h => ?_
  refine Bn_neT (by omega) (If_T ?_)
  dsimp only [List.set] at h
  exact Ret.mk ⟨f, hS, .inr ⟨ho, rfl, h.ext⟩⟩
 have gll : (glO ws (trs kT l)).length = (trs kT l).length := List.length_map _
 have hkl : (Go.Smp.kAll b (glO ws (trs kT l)) f).length = (trs kT l).length := by rw [Go.Smp.kAll_len hS.inv.len, gll]
 refine Ex2 (alS h fun g1 w h => ?_)
 refine st1 h 0 rfl rfl rfl rfl fun w h => ?_
 refine Bn_neF (by omega) (If_F ?_)
 dsimp only [List.set] at h
 refine Cl_i n_sample_filtered_api_Fact_int (c_filtD (hF.hv.ext h.ext) (by omega) hV.2.2 hkl (h.get (i := 0) rfl) (h.get (i := 1) rfl)) ?_
 intro u w3 h3
 have h := h.cat1 h3 ro_sm
 skip
 exact Ret.mk ⟨f, hS, .inl ⟨ho, _, rfl, h.sub (by simp)⟩⟩
end
end Go.Proofs.YtjgjeccfhmlcnaaGreatDoor
namespace Go.Proofs.YtjgjeccfhmlcnaaGreatDoor
open Go Go.Eng Go.Proofs Go.Num Go.RowKit
open Go.Smp (Gp trs Stb okAll kAll stb_eq stb_of inv0 pass)
set_option maxRecDepth 100000
def it (b : Int) (l : List Gp) : Nat → List Bool
 | 0 => List.replicate l.length false
 | n + 1 => pass b l (it b l n)
theorem it_inv {b : Int} {l : List Gp} (hl : Go.Smp.Gok l) (hb : 0 ≤ b) : ∀ n, Go.Smp.Inv b l (it b l n)
 | 0 => inv0 hb
 | n + 1 => (it_inv hl hb n).pass hl
theorem it_stb {b : Int} {l : List Gp} (hl : Go.Smp.Gok l) (hb : 0 ≤ b) (n : Nat) (e : pass b l (it b l n) = it b l n) : Stb b l (it b l n) := stb_of (it_inv hl hb n) e
theorem al_ok {w0 w' : World} {b : Int} {l : List Gp} {r : Value} {ks : List Int} (hl : Go.Smp.Gok l) (hb : 0 ≤ b) (n : Nat) (e : pass b l (it b l n) = it b l n) (h1 : okAll b l (it b l n) = true) (h2 : kAll b l (it b l n) = ks) (h : AlR w0 b l r w') :
 ∃ v, r = .tuple #[v, .int .i64 0] ∧ Hp [] w0 w' [ro tI 1 v l.length (ks.flatMap fZ)] := by
 obtain ⟨f, hS, h⟩ := h
 obtain rfl := stb_eq hl hS (it_stb hl hb n e)
 rcases h with ⟨_, v, rfl, h⟩ | ⟨h, _⟩
 ·exact ⟨v, rfl, by rw [← h2]; exact h⟩
 ·rw [h1] at h; cases h
theorem al_no {w0 w' : World} {b : Int} {l : List Gp} {r : Value} (hl : Go.Smp.Gok l) (hb : 0 ≤ b) (n : Nat) (e : pass b l (it b l n) = it b l n) (h1 : okAll b l (it b l n) = false) (h : AlR w0 b l r w') :
 Ext w0 w' ∧ r = .tuple #[.slice none 0 0, .int .i64 150] := by
 obtain ⟨f, hS, h⟩ := h
 obtain rfl := stb_eq hl hS (it_stb hl hb n e)
 rcases h with ⟨h, _⟩ | ⟨_, rfl, x⟩
 ·rw [h1] at h; cases h
 ·exact ⟨x, rfl⟩
theorem dv_ok {w0 w' : World} {b : Int} {ws : List Int} {l : List Ft} {r : Value} {gl : List Gp} {ds : List Int} (hgl : glO ws (trs kT l) = gl) (hl : Go.Smp.Gok gl) (hb : 0 ≤ b) (n : Nat) (e : pass b gl (it b gl n) = it b gl n) (h1 : okAll b gl (it b gl n) = true) (h2 : dvs l (kAll b gl (it b gl n)) = ds) (h : DvsR w0 b ws l r w') :
 ∃ v, r = .tuple #[v, .int .i64 0] ∧ Hp [] w0 w' [ro tI 1 v l.length (ds.flatMap fZ)] := by
 obtain ⟨f, hS, h⟩ := h
 rw [hgl] at hS h
 obtain rfl := stb_eq hl hS (it_stb hl hb n e)
 rcases h with ⟨_, v, rfl, h⟩ | ⟨h, _⟩
 ·exact ⟨v, rfl, by rw [← h2]; exact h⟩
 ·rw [h1] at h; cases h
abbrev f1 : Ft := ⟨3, 0, 0, 0, 0, -1, 0, 0, 0, 50⟩
abbrev f2 : Ft := ⟨3, 1, 0, 0, 0, -1, 0, 0, 0, 10⟩
abbrev f3 : Ft := ⟨12, 0, 0, 0, 0, -1, 1, 0, 0, 40⟩
abbrev ls : List Ft := [f1, f2, f3]
abbrev w8 : List Int := [1, 1, 1, 1, 1, 1, 1, 1]
theorem ls_gl : glO w8 (trs kT ls) = [(60, 1), (40, 1)] := by decide
theorem ls_VF : VFs ls := by
 refine ⟨by decide, by decide, ?_⟩
 intro i a b h1 h2
 rcases i with _ | _ | i
 ·have e1 : f1 = a := by simpa using h1
  have e2 : f2 = b := by simpa using h2
  subst e1; subst e2; decide
 ·have e1 : f2 = a := by simpa using h1
  have e2 : f3 = b := by simpa using h2
  subst e1; subst e2; decide
 ·simp at h2
theorem ls_FI : ∀ f ∈ ls, FI f := by
 intro f hf
 simp only [ls, List.mem_cons, List.not_mem_nil, or_false] at hf
 rcases hf with rfl | rfl | rfl <;> exact ⟨by decide, by decide, by decide, by decide, by decide, by decide, by decide, by decide, by decide, by decide⟩
theorem gok2 {a b c d : Int} (h1 : 0 ≤ a ∧ 1 ≤ b) (h2 : 0 ≤ c ∧ 1 ≤ d) : Go.Smp.Gok [(a, b), (c, d)] := by
 intro g hg
 simp only [List.mem_cons, List.not_mem_nil, or_false] at hg
 rcases hg with rfl | rfl
 ·exact h1
 ·exact h2
example : dvs ls (kAll 50 [(60, 1), (40, 1)] (it 50 [(60, 1), (40, 1)] 0)) = [2, 2, 2] := by decide +kernel
example : pass 60 [(50, 5), (50, 1)] (it 60 [(50, 5), (50, 1)] 1) = it 60 [(50, 5), (50, 1)] 1 := by decide +kernel
example : kAll 60 [(50, 5), (50, 1)] (it 60 [(50, 5), (50, 1)] 1) = [1, 5] := by decide +kernel
example : okAll 60 [(50, 5), (50, 1)] (it 60 [(50, 5), (50, 1)] 1) = true := by decide +kernel
example : pass 40 [(60, 2), (60, 1)] (it 40 [(60, 2), (60, 1)] 0) = it 40 [(60, 2), (60, 1)] 0 := by decide +kernel
example : pass 0 [(1, 1)] (it 0 [(1, 1)] 0) = it 0 [(1, 1)] 0 := by decide +kernel
example : pass 0 [(0, 1)] (it 0 [(0, 1)] 1) = it 0 [(0, 1)] 1 := by decide +kernel
example : pass 100 [(60, 1), (40, 1)] (it 100 [(60, 1), (40, 1)] 1) = it 100 [(60, 1), (40, 1)] 1 := by decide +kernel
theorem rng2 {l : List Gp} (h0 : l.length ≤ 400) (h1 : ∀ g ∈ l, (0 ≤ g.1 ∧ g.1 ≤ 1000000) ∧ (1 ≤ g.2 ∧ g.2 ≤ 1000)) : Rng l := ⟨h0, fun g hg => (h1 g hg).1, fun g hg => (h1 g hg).2⟩
theorem gok1 {a b : Int} (h1 : 0 ≤ a ∧ 1 ≤ b) : Go.Smp.Gok [(a, b)] := by
 intro g hg
 rw [List.mem_singleton.1 hg]
 exact h1
theorem c_ones2 {w0 : World} : Calls Tryz.prog 29 #[] w0 (Ret fun r w' => ∃ v, r = v ∧ Hp [] w0 w' [ro tI 1 v 8 (w8.flatMap fZ)]) := by
 apply e_law15_ones
 unfold s_law15_ones
 have h := Hp.init [] w0
 refine bsN (vs := [_, _, _, _, _, _, _, _]) h (.cons (by rfl) (by rfl) (.cons (by rfl) (by rfl) (.cons (by rfl) (by rfl) (.cons (by rfl) (by rfl) (.cons (by rfl) (by rfl) (.cons (by rfl) (by rfl) (.cons (by rfl) (by rfl) (.cons (by rfl) (by rfl) .nil)))))))) (by rfl) (by rfl) (by decide) (by decide) (by decide) fun v1 w h => ?_
 exact Ret.mk ⟨_, rfl, h⟩
abbrev kf (f : Ft) : KF := (f, 1)
set_option maxHeartbeats 16000000 in
theorem c_sane {w0 : World} (hE : En w0) (hR : Rnd w0) : Calls Tryz.prog 8 #[] w0 (Ret fun r w' => Ext w0 w' ∧ r = .bool true) := by
 have cr1 : ∀ {W : World}, Ext w0 W → ∀ {v u : Value}, SlC W 1 v 2 [.int .i64 50, .int .i64 50] → SlC W 1 u 2 [.int .i64 5, .int .i64 1] → Calls Tryz.prog 11 #[.int .i64 60, v, u] W (Ret fun r w' => ∃ v, r = .tuple #[v, .int .i64 0] ∧ Hp [] W w' [ro tI 1 v 2 (([1, 5] : List Int).flatMap fZ)]) := fun _ _ _ h1 h2 =>
  (c_Alloc (l := [(50, 5), (50, 1)]) h1 h2 (rng2 (by decide) (by decide)) (by decide)).mono (Ret.imp fun _ _ h => al_ok (gok2 (by decide) (by decide)) (by decide) 1 (by decide +kernel) (by decide +kernel) (by decide +kernel) h)
 have cr2 : ∀ {W : World}, Ext w0 W → ∀ {v u : Value}, SlC W 1 v 2 [.int .i64 60, .int .i64 60] → SlC W 1 u 2 [.int .i64 2, .int .i64 1] → Calls Tryz.prog 11 #[.int .i64 40, v, u] W (Ret fun r w' => ∃ v, r = .tuple #[v, .int .i64 0] ∧ Hp [] W w' [ro tI 1 v 2 (([3, 5] : List Int).flatMap fZ)]) := fun _ _ _ h1 h2 =>
  (c_Alloc (l := [(60, 2), (60, 1)]) h1 h2 (rng2 (by decide) (by decide)) (by decide)).mono (Ret.imp fun _ _ h => al_ok (gok2 (by decide) (by decide)) (by decide) 0 (by decide +kernel) (by decide +kernel) (by decide +kernel) h)
 have cc3 : ∀ {W : World}, Ext w0 W → ∀ {v u : Value}, SlC W 1 v 1 [.int .i64 1] → SlC W 1 u 1 [.int .i64 1] → Calls Tryz.prog 11 #[.int .i64 0, v, u] W (Ret fun r w' => Ext W w' ∧ r = .tuple #[.slice none 0 0, .int .i64 150]) := fun _ _ _ h1 h2 =>
  (c_Alloc (l := [(1, 1)]) h1 h2 (rng2 (by decide) (by decide)) (by decide)).mono (Ret.imp fun _ _ h => al_no (gok1 (by decide)) (by decide) 0 (by decide +kernel) (by decide +kernel) h)
 have cr4 : ∀ {W : World}, Ext w0 W → ∀ {v u : Value}, SlC W 1 v 1 [.int .i64 0] → SlC W 1 u 1 [.int .i64 1] → Calls Tryz.prog 11 #[.int .i64 0, v, u] W (Ret fun r w' => ∃ v, r = .tuple #[v, .int .i64 0] ∧ Hp [] W w' [ro tI 1 v 1 (([1] : List Int).flatMap fZ)]) := fun _ _ _ h1 h2 =>
  (c_Alloc (l := [(0, 1)]) h1 h2 (rng2 (by decide) (by decide)) (by decide)).mono (Ret.imp fun _ _ h => al_ok (gok1 (by decide)) (by decide) 1 (by decide +kernel) (by decide +kernel) (by decide +kernel) h)
 have cr6 : ∀ {W : World}, Ext w0 W → ∀ {v u : Value}, SlC W 10 v 3 (ls.flatMap fF) → SlC W 1 u 8 (w8.flatMap fZ) → Calls Tryz.prog 15 #[v, .int .i64 50, u] W (Ret fun r w' => ∃ v, r = .tuple #[v, .int .i64 0] ∧ Hp [] W w' [ro tI 1 v 3 (([2, 2, 2] : List Int).flatMap fZ)]) := fun _ _ _ h1 h2 =>
  (c_Divisors (l := ls) (ws := w8) ⟨h1, ls_FI, by decide⟩ ls_VF (by decide) h2 rfl (by decide) (by decide)).mono (Ret.imp fun _ _ h => dv_ok ls_gl (gok2 (by decide) (by decide)) (by decide) 0 (by decide +kernel) (by decide +kernel) (by decide +kernel) h)
 have cr5 : ∀ {W : World}, Ext w0 W → Calls Tryz.prog 29 #[] W (Ret fun r w' => ∃ v, r = v ∧ Hp [] W w' [ro tI 1 v 8 (w8.flatMap fZ)]) := fun _ => c_ones2
 apply e_law15_sane
 unfold s_law15_sane
 have h := Hp.init [] w0
 refine bsN (vs := [_, _]) h (.cons (by rfl) (by rfl) (.cons (by rfl) (by rfl) .nil)) (by rfl) (by rfl) (by decide) (by decide) (by decide) fun v1 w h => ?_
 refine bsN (vs := [_, _]) h (.cons (by rfl) (by rfl) (.cons (by rfl) (by rfl) .nil)) (by rfl) (by rfl) (by decide) (by decide) (by decide) fun v2 w h => ?_
 refine clR h n_sample_Allocate (cr1 h.ext (by first | exact (qZ 1 h rfl) | assumption) (by first | exact (qZ 0 h rfl) | assumption)) fun v3 w h => ?_
 refine Ex2 (bsN (vs := [_, _]) h (.cons (by rfl) (by rfl) (.cons (by rfl) (by rfl) .nil)) (by rfl) (by rfl) (by decide) (by decide) (by decide) fun v4 w h => ?_)
 refine bsN (vs := [_, _]) h (.cons (by rfl) (by rfl) (.cons (by rfl) (by rfl) .nil)) (by rfl) (by rfl) (by decide) (by decide) (by decide) fun v5 w h => ?_
 refine clR h n_sample_Allocate (cr2 h.ext (by first | exact (qZ 1 h rfl) | assumption) (by first | exact (qZ 0 h rfl) | assumption)) fun v6 w h => ?_
 refine Ex2 (bs1A h (by rfl) (by decide) (by rfl) (by decide) fun v7 w h => ?_)
 refine bs1A h (by rfl) (by decide) (by rfl) (by decide) fun v8 w h => ?_
 refine cl1 h n_sample_Allocate (cc3 h.ext (by first | exact (qZ 1 h rfl) | assumption) (by first | exact (qZ 0 h rfl) | assumption)) fun w h => ?_
 refine Ex2 (bs1A h (by rfl) (by decide) (by rfl) (by decide) fun v9 w h => ?_)
 refine bs1A h (by rfl) (by decide) (by rfl) (by decide) fun v10 w h => ?_
 refine clR h n_sample_Allocate (cr4 h.ext (by first | exact (qZ 1 h rfl) | assumption) (by first | exact (qZ 0 h rfl) | assumption)) fun v11 w h => ?_
 refine Ex2 (bdS (PC.cons (by rfl) (PC.cons (by rfl) (PC.cons (by rfl) PC.nil))) (by rfl) ?_)
 refine bdS (PC.cons (by rfl) (PC.cons (by rfl) (PC.cons (by rfl) (PC.cons (by rfl) PC.nil)))) (by rfl) ?_
 refine bdS (PC.cons (by rfl) (PC.cons (by rfl) (PC.cons (by rfl) (PC.cons (by rfl) PC.nil)))) (by rfl) ?_
 refine bsN (vs := [_, _, _]) h (.cons (by rfl) (by rfl) (.cons (by rfl) (by rfl) (.cons (by rfl) (by rfl) .nil))) (by rfl) (by rfl) (by decide) (by decide) (by decide) fun v12 w h => ?_
 refine clR h n_law15_ones (cr5 h.ext) fun v13 w h => ?_
 refine clR h n_sample_Divisors (cr6 h.ext (by first | exact (qZ 1 h rfl) | assumption) (by first | exact (qZ 0 h rfl) | assumption)) fun v14 w h => ?_
 refine Ex2 (clR h n_law15_ones (cr5 h.ext) fun v15 w h => ?_)
 have hdv : ∀ {W' : World}, Ext w W' → Calls Tryz.prog 15 #[v12, .int .i64 100, v15] W' (Ret fun r w' => ∃ u, r = .tuple #[u, .int .i64 0] ∧ Ext W' w' ∧ SlC w' 1 u 3 (([kf f1, kf f2, kf f3] : List KF).flatMap fKk)) := fun {W'} x =>
  (c_Divisors (l := ls) (ws := w8) ⟨(qZ 3 h rfl).ext x, ls_FI, by decide⟩ ls_VF (by decide) ((qZ 0 h rfl).ext x) rfl (by decide) (by decide)).mono (Ret.imp fun _ _ h => by
   obtain ⟨u, e, h⟩ := dv_ok ls_gl (gok2 (by decide) (by decide)) (by decide) 1 (by decide +kernel) (by decide +kernel) (ds := [1, 1, 1]) (by decide +kernel) h
   exact ⟨u, e, h.ext, h.sl (i := 0) rfl⟩)
 have sm := c_Sample (w0 := w) (s := [120]) (l := [kf f1, kf f2, kf f3]) (n := 100) (wv := v15) (hE.ext h.ext) rfl (dig_of (hR.ext h.ext)) (qZ 3 h rfl) (by decide) (by decide) (by decide) hdv
 refine Cl_i n_sample_Sample sm ?_
 rintro _ w2 ⟨us, rfl, x2, ss⟩
 have x0 := h.ext.tr x2
 have s3 := (qZ 12 h rfl).ext x2
 have s6 := (qZ 9 h rfl).ext x2
 have s11 := (qZ 4 h rfl).ext x2
 have s12 : SlC w2 10 v12 3 (ls.flatMap fF) := (qZ 3 h rfl).ext x2
 have s14 := (qZ 1 h rfl).ext x2
 have hE2 := hE.ext x0
 have hD2 : Dig w2 := dig_of (hR.ext x0)
 clear cr1 cr2 cc3 cr4 cr5 cr6 hdv sm
 have h := Hp.init [] w2
 have cc7 : ∀ {W : World}, Ext w2 W → Calls Tryz.prog 20 #[str [120], .int .i64 3, .int .i64 1] W (Ret fun r w' => Ext W w' ∧ r = .tuple #[.bool true, .int .i64 0]) := fun x =>
  (c_Keep (s := [120]) rfl (by decide) (by decide) (hD2.ext x)).mono (Ret.imp fun _ _ ⟨x, b, e, h1, h2⟩ => ⟨x, by rw [h1, (h2 rfl).1, (h2 rfl).2]⟩)
 have cc8 : ∀ {W : World}, Ext w2 W → Calls Tryz.prog 21 #[.int .i64 1, .int .i64 3] W (Ret fun r w' => Ext W w' ∧ r = .tuple #[.agg #[str (tq (inv1 3)).1, str (tq (inv1 3)).2], .int .i64 0]) := fun e => k_of (hE2.hT.ext e) (by decide) (by decide) (by decide)
 have sf : Seg (ls.flatMap fF) (0 * 10) (fF f1) := flat_seg (f := fF) (fun _ => rfl) rfl
 refine Ex2 (cl1 h n_sample_Keep (cc7 h.ext) fun w h => ?_)
 refine Ex2 (cl1 h n_rational_Of (cc8 h.ext) fun w h => ?_)
 refine Ex2 (alS h fun g1 w h => ?_)
 refine stA h 0 rfl rfl rfl rfl fun w h => ?_
 replace h := h.dr
 refine diHz h ‹_› (by omega) (by omega) fun zb zo zk zv zc => ?_
 refine dhA h ‹_› ‹_› (by rfl) ?_
 refine dlA h 0 rfl rfl ?_
 refine dbS (PC.cons (by rfl) (PC.cons (by rfl) PC.nil)) (by rfl) ?_
 refine bs1A h (by rfl) (by decide) (by rfl) (by decide) fun v16 w h => ?_
 dsimp only [List.set] at h
 refine Cl_i n_sample_Thin (c_Thin1 (s := [120]) (x := (f1, 3)) (hE2.ext h.ext) rfl (hD2.ext h.ext) (qZ 0 h rfl) (by decide) (by decide) (ls_FI f1 (List.mem_cons_self ..)) (by decide)) ?_
 rintro _ w4 ⟨ut, rfl, x4, st⟩
 have x5 := h.ext.tr x4
 have s16 : SlC w4 12 v16 1 (fK (f1, 3)) := (qZ 0 h rfl).ext x4
 have hE4 := hE2.ext x5
 have hD4 : Dig w4 := hD2.ext x5
 replace s3 := s3.ext x5
 replace s6 := s6.ext x5
 replace s11 := s11.ext x5
 replace s14 := s14.ext x5
 replace ss : SlC w4 12 us 3 ([kf f1, kf f2, kf f3].flatMap fK) := ss.ext x5
 have x6 := x0.tr x5
 clear cc7 cc8 sf s12
 have h := Hp.init [] w4
 have ci : ∀ {v : Value} {xs : List Int}, SlC w4 1 v xs.length (xs.flatMap fZ) → xs.length ≤ 1000000 → ∀ {W : World}, Ext w4 W → ∀ {u : Value}, SlC W 1 u xs.length (xs.flatMap fZ) → Calls Tryz.prog 12 #[v, u] W (Ret fun r w' => Ext W w' ∧ r = .bool true) := fun hs hl _ x _ hu =>
  (c_Ints (hs.ext x) hu hl hl).mono (Ret.imp fun _ _ ⟨x, h⟩ => ⟨x, by rw [h, decide_eq_true rfl]⟩)
 have cc1 := fun {W : World} (x : Ext w4 W) {u : Value} (hu : SlC W 1 u 2 [.int .i64 1, .int .i64 5]) => ci (xs := [1, 5]) s3 (by decide) x hu
 have cc2 := fun {W : World} (x : Ext w4 W) {u : Value} (hu : SlC W 1 u 2 [.int .i64 3, .int .i64 5]) => ci (xs := [3, 5]) s6 (by decide) x hu
 have cc3 := fun {W : World} (x : Ext w4 W) {u : Value} (hu : SlC W 1 u 1 [.int .i64 1]) => ci (xs := [1]) s11 (by decide) x hu
 have cc4 := fun {W : World} (x : Ext w4 W) {u : Value} (hu : SlC W 1 u 3 [.int .i64 2, .int .i64 2, .int .i64 2]) => ci (xs := [2, 2, 2]) s14 (by decide) x hu
 have cc5 : ∀ {W : World}, Ext w4 W → Calls Tryz.prog 24 #[str [120], v16, .int .i64 334] W (Ret fun r w' => Ext W w' ∧ r = .tuple #[.slice none 0 0, .int .i64 150]) := fun x =>
  c_ThinB (s := [120]) (x := (f1, 3)) (hE4.ext x) rfl (hD4.ext x) (s16.ext x) (by decide) (by decide) (ls_FI f1 (List.mem_cons_self ..)) (by decide) (by decide) (by decide)
 have cc6 : ∀ {W : World}, Ext w4 W → Calls Tryz.prog 25 #[ut, v16] W (Ret fun r w' => Ext W w' ∧ r = .bool true) := fun x =>
  c_same1 (x := (f1, 3)) (hE4.ext x) (st.ext x) (s16.ext x) (by decide) (by decide) (ls_FI f1 (List.mem_cons_self ..))
 have cc7 : ∀ {W : World}, Ext w4 W → Calls Tryz.prog 18 #[v16] W (Ret fun r w' => Ext W w' ∧ r = .bool true) := fun x =>
  c_acc1 (x := (f1, 3)) (hE4.ext x) (s16.ext x) (by decide) (by decide) (ls_FI f1 (List.mem_cons_self ..))
 clear ci
 refine Ex2 (cl1 h n_sample_Thin (cc5 h.ext) fun w h => ?_)
 refine Ex2 (Bn_eqT (by omega) (Gd_T (Gd_T (Bn_eqT (by omega) (Pick_T (Gd_T (Gd_T (Bn_eqT (by omega) (Pick_T (Gd_T (Gd_T (Bn_eqT (by omega) (Pick_T (Gd_T (Gd_T (bsN (vs := [_, _]) h (.cons (by rfl) (by rfl) (.cons (by rfl) (by rfl) .nil)) (by rfl) (by rfl) (by decide) (by decide) (by decide) fun v17 w h => ?_))))))))))))))))
 refine Gd_T (cl1 h n_ref15_Ints (cc1 h.ext (by first | exact (qZ 0 h rfl) | assumption)) fun w h => ?_)
 refine Pick_T (Gd_T (Gd_T (bsN (vs := [_, _]) h (.cons (by rfl) (by rfl) (.cons (by rfl) (by rfl) .nil)) (by rfl) (by rfl) (by decide) (by decide) (by decide) fun v18 w h => ?_)))
 refine Gd_T (cl1 h n_ref15_Ints (cc2 h.ext (by first | exact (qZ 0 h rfl) | assumption)) fun w h => ?_)
 refine Pick_T (Gd_T (Gd_T (bs1A h (by rfl) (by decide) (by rfl) (by decide) fun v19 w h => ?_)))
 refine Gd_T (cl1 h n_ref15_Ints (cc3 h.ext (by first | exact (qZ 0 h rfl) | assumption)) fun w h => ?_)
 refine Pick_T (Bn_eqT (by omega) (Gd_T (Gd_T (Bn_eqT (by omega) (Pick_T (Gd_T (Gd_T (Bn_eqT (by omega) (Pick_T (Gd_T (Pick_T (Gd_T (Gd_T (bsN (vs := [_, _, _]) h (.cons (by rfl) (by rfl) (.cons (by rfl) (by rfl) (.cons (by rfl) (by rfl) .nil))) (by rfl) (by rfl) (by decide) (by decide) (by decide) fun v20 w h => ?_))))))))))))))
 refine Gd_T (cl1 h n_ref15_Ints (cc4 h.ext (by first | exact (qZ 0 h rfl) | assumption)) fun w h => ?_)
 refine Pick_T (Gd_T (Gd_T (leS (ss.hp h) ?_)))
 refine Gd_T (Bn_eqT (by omega) (Pick_T (Gd_T (Gd_T (Bn_eqT (by omega) (Pick_T (Gd_T (Pick_T (Gd_T (Gd_T (Bn_eqT (by omega) (Pick_T (Gd_T (Gd_T (Bn_eqT (by omega) (Pick_T (Gd_T (Gd_T (Gd_T (cl1 h n_ref15_Same (cc6 h.ext) fun w h => ?_))))))))))))))))))))
 refine Pick_T (Gd_T (Gd_T (cl1 h n_sample_Accepts (cc7 h.ext) fun w h => ?_)))
 refine Pick_T (Gd_T (bdS PC.nil (by rfl) ?_))
 refine Gd_T (bs1A h (by rfl) (by decide) (by rfl) (by decide) fun v21 w h => ?_)
 refine Gd_T (cl1 h n_sample_Accepts (c_acc0 (hE4.ext h.ext) (qZ 0 h rfl)) fun w h => ?_)
 refine Gd_T (Un_F (Pick_T ?_))
 exact Ret.mk ⟨x6.tr h.ext, rfl⟩
end Go.Proofs.YtjgjeccfhmlcnaaGreatDoor
