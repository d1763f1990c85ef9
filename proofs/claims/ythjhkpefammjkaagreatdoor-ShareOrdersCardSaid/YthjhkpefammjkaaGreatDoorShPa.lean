/-
  Contracts and plain lemmas. By an AI agent.
-/
import Derived.Test.YthjhkpefammjkaaGreatDoorShH
import Derived.Test.YthjhkpefammjkaaGreatDoorEngW
import Derived.Test.YthjhkpefammjkaaGreatDoorPlain
import Derived.Lib.AppendZeros
import Derived.Shelf.SlIterI.Sorted
set_option linter.unusedSimpArgs false
set_option linter.unusedVariables false
set_option linter.unusedSectionVars false
namespace Go.Proofs.YthjhkpefammjkaaGreatDoor
open Go Go.Eng Go.Proofs Go.Num Go.RowKit Go.Shr
set_option maxRecDepth 100000
theorem fN_all (l : List Nat) : ((l.flatMap fN).all fun x => x.oneCell') = true := by
 rw [List.all_eq_true]
 intro x hx
 obtain ⟨a, _, h⟩ := List.mem_flatMap.1 hx
 rw [List.mem_singleton] at h
 rw [h]; rfl
theorem fN_cast (l : List Nat) : l.flatMap fN = (l.map fun (x : Nat) => (x : Int)).flatMap fI := by
 induction l with
 | nil => rfl
 | cons a l ih => rw [List.flatMap_cons, ih, List.map_cons, List.flatMap_cons]
theorem fI_map (l : List Int) : l.flatMap fI = l.map (Value.int .i64) := by
 induction l with
 | nil => rfl
 | cons a l ih => rw [List.flatMap_cons, ih]; rfl
theorem seg_one {xs : List Value} {j : Nat} {v : Value} (h : xs[j]? = some v) : Seg xs (j * 1) [v] := fun k u hk => by
 rcases k with _ | k
 ·cases hk; rw [Nat.mul_one]; exact h
 ·simp at hk
abbrev SlN (w : World) (v : Value) (l : List Nat) : Prop := SlC w 1 v l.length (l.flatMap fN)
theorem SlN.int {w : World} {v : Value} {l : List Nat} (h : SlN w v l) : SlC w 1 v (l.map fun (x : Nat) => (x : Int)).length ((l.map fun (x : Nat) => (x : Int)).flatMap fI) := by
 rw [← fN_cast, List.length_map]; exact h
section
variable {w0 w : World} {L : List Et} {K : Value → World → Prop} {a : Option Addr} {n c : Nat}
theorem capIs {T : TypeId} (hk : K (.int .i64 (c : Int)) w) : Bt Tryz.prog .cap #[22] T #[.slice a n c] w K := by
 refine V_of (v := .int .i64 (c : Int)) (w' := w) ?_ hk
 simp [bV, Builtin.cap_, run_underlying Tryz.underlying22, goInt]
theorem sc0 (hk : K (.slice a 0 c) w) (hc : 0 < c ∨ a = none) : Sc Tryz.prog 22 (.slice a n c) none (some (.int .i64 0)) none w K := by
 refine V_of (v := .slice a 0 c) (w' := w) ?_ hk
 have h1 : (Go.sizeOf 3).run Tryz.prog w = .ok 1 w := One.sz w
 simp [Instr.sliceAt, Instr.slice, Instr.sliceBounds, Instr.sliceBound, run_underlying Tryz.underlying22, h1, asIntOf]
 intro _
 cases a with
 | none => rfl
 | some a => simp [Addr.add]
end
theorem c_Grow {w0 : World} {n : Nat} (hn : n ≤ 100) : Calls Tryz.prog 75 #[.slice none 0 0, .int .i64 n] w0 (Ret fun r w' => ∃ u, r = u ∧ Hp [] w0 w' [ro tI 1 u 0 []]) := by
 apply e_slices_Grow_int_int
 unfold s_slices_Grow_int_int
 have h := Hp.init [] w0
 have h := h.nil tI 1
 refine Jn0.mk fun K lf => ?_
 refine Bn_ltF (by omega) (If_F (lf _ ?_))
 clear lf
 refine capIs ?_
 by_cases h0 : n = 0
 ·subst h0
  refine leS (qZ 0 h rfl) ?_
  refine Bn_su (by omega) (by omega) (Bn_su (by omega) (by omega) (Bn_gtF (by omega) (If_F ?_)))
  exact Ret.mk ⟨_, rfl, h⟩
 ·refine leS (qZ 0 h rfl) ?_
  refine Bn_su (by omega) (by omega) (Bn_su (by omega) (by omega) (Bn_gtT (by omega) (If_T (capIs ?_))))
  refine sc0 ?_ (.inr rfl)
  obtain ⟨ti, z, hi, hz, hc, hs, hb⟩ := Slm.inf (P := Tryz.prog) (t := 22)
  have hzs : z.cells.size = 1 := by rw [hc]; rfl
  have hr := Lib.run_append_nil_zeros (P := Tryz.prog) w0 22 3 22 3 ti z .i64 .i64 Tryz.underlying22 Tryz.underlying3 hi hz n (by omega) (by rw [hs]; decide) (by omega) (by have := Nat.mul_le_mul (show n ≤ 100 by omega) hb; omega)
  refine V_of (P := Tryz.prog) (w := w0) (show (bV .append #[22, 3] 22 _).run _ _ = _ from hr) ?_
  have hge := grownCap_ge w0 n 0 3
  have hl := grownCap_le_maxLen w0 n 0 3 (by unfold maxLen; omega)
  have hg := heap_alloc_new w0.drew (.cells (Builtin.zeroCells z.cells n ++ Builtin.zeroCells z.cells (grownCap w0 n 0 3 - n)) 3)
  have hx : Ext w0 (w0.drew.alloc (.cells (Builtin.zeroCells z.cells n ++ Builtin.zeroCells z.cells (grownCap w0 n 0 3 - n)) 3)) := ((Ext.refl w0).dr).al _
  have hrow : (w0.drew.alloc (.cells (Builtin.zeroCells z.cells n ++ Builtin.zeroCells z.cells (grownCap w0 n 0 3 - n)) 3)).ownsRow w0.heap.size tI 1 (.slice (some ⟨w0.heap.size, 0, none⟩) 0 (grownCap w0 n 0 3)) 0 [] := by
   refine ⟨rfl, .inr ⟨w0.heap.size, _, _, rfl, Nat.le_refl _, hg, Nat.zero_le _, hl, ?_, by simp⟩⟩
   simp only [Array.size_append, size_zeroCells, hzs]
   omega
  have h := h.row hx hrow
  refine leS (qZ 1 h rfl) ?_
  refine sc0 ?_ (.inl (by omega))
  exact Ret.mk ⟨_, rfl, h.pick [0] (by decide) rfl⟩
theorem c_Concat {w0 : World} {v va vb : Value} {a b : List Nat} (hv : SlC w0 1 v 2 [va, vb]) (ha : SlN w0 va a) (hb : SlN w0 vb b) (hla : a.length ≤ 40) (hlb : b.length ≤ 40) :
 Calls Tryz.prog 45 #[v] w0 (Ret fun r w' => ∃ u, r = u ∧ Hp [] w0 w' [ro tI 1 u (a ++ b).length ((a ++ b).flatMap fN)]) := by
 have s0 : Seg [va, vb] (0 * 1) [va] := seg_one rfl
 have s1 : Seg [va, vb] (1 * 1) [vb] := seg_one rfl
 apply e_slices_Concat_int_int
 unfold s_slices_Concat_int_int
 have h := Hp.init [] w0
 refine leS (hv.hp h) ?_
 refine Lp2.mk (fun s i W => ∃ (x : Nat) (j : Nat), s = .int .i64 x ∧ i = .int .i64 j ∧ ((j = 0 ∧ x = 0) ∨ (j = 1 ∧ x = a.length) ∨ (j = 2 ∧ x = a.length + b.length)) ∧ Hp [] w0 W []) (fun _ i _ => match i with | .int _ i' => 2 - i'.toNat | _ => 0) ⟨0, 0, rfl, rfl, .inl ⟨rfl, rfl⟩, h⟩ ?_
 clear h
 rintro _ _ W ⟨x, j, rfl, rfl, hj, h⟩
 rcases hj with ⟨rfl, rfl⟩ | ⟨rfl, rfl⟩ | ⟨rfl, rfl⟩
 ·refine Bn_ltT (by omega) (If_T (iaH h ‹_› (by omega) fun zb zo zk zv zc => ?_))
  refine lh0 h ‹_› ‹_› (by rfl) ?_
  refine leH h ‹_› ?_
  refine Bn_ad (by omega) (by omega) (Bn_ltF (by omega) (If_F (Bn_ad (by omega) (by omega) ?_)))
  exact ⟨⟨a.length, 1, by congr 1; omega, rfl, .inr (.inl ⟨rfl, rfl⟩), h⟩, by decide⟩
 ·refine Bn_ltT (by omega) (If_T (iaH h ‹_› (by omega) fun zb zo zk zv zc => ?_))
  refine lh0 h ‹_› ‹_› (by rfl) ?_
  refine leH h ‹_› ?_
  refine Bn_ad (by omega) (by omega) (Bn_ltF (by omega) (If_F (Bn_ad (by omega) (by omega) ?_)))
  exact ⟨⟨a.length + b.length, 2, by congr 1, rfl, .inr (.inr ⟨rfl, rfl⟩), h⟩, by decide⟩
 ·have cr1 := fun {W : World} (_ : Ext w0 W) => c_Grow (w0 := W) (n := a.length + b.length) (by omega)
  refine Bn_ltF (by omega) (If_F (clR h n_slices_Grow_int_int (cr1 h.ext) fun v1 w h => ?_))
  refine leS (hv.hp h) ?_
  refine Lp2.mk (fun u i W => ∃ (j : Nat) (l : List Nat), i = .int .i64 j ∧ ((j = 0 ∧ l = []) ∨ (j = 1 ∧ l = a) ∨ (j = 2 ∧ l = a ++ b)) ∧ Hp [] w0 W [ro tI 1 u l.length (l.flatMap fN)]) (fun _ i _ => match i with | .int _ i' => 2 - i'.toNat | _ => 0) ⟨0, [], rfl, .inl ⟨rfl, rfl⟩, h⟩ ?_
  clear h cr1
  rintro u _ W ⟨j, l, rfl, hj, h⟩
  rcases hj with ⟨rfl, rfl⟩ | ⟨rfl, rfl⟩ | ⟨rfl, rfl⟩
  ·refine Bn_ltT (by omega) (If_T (iaH h ‹_› (by omega) fun zb zo zk zv zc => ?_))
   refine lh0 h ‹_› ‹_› (by rfl) ?_
   refine apR (by rfl) (by decide) h 0 rfl (ha.ext h.ext) (fN_all _) (by simp; omega) fun v1 w h => ?_
   refine Bn_ad (by omega) (by omega) ?_
   dsimp only [List.set] at h
   exact ⟨⟨1, a, rfl, .inr (.inl ⟨rfl, rfl⟩), h.cst (by simp)⟩, by decide⟩
  ·refine Bn_ltT (by omega) (If_T (iaH h ‹_› (by omega) fun zb zo zk zv zc => ?_))
   refine lh0 h ‹_› ‹_› (by rfl) ?_
   refine apR (by rfl) (by decide) h 0 rfl (hb.ext h.ext) (fN_all _) (by omega) fun v1 w h => ?_
   refine Bn_ad (by omega) (by omega) ?_
   dsimp only [List.set] at h
   exact ⟨⟨2, l ++ b, rfl, .inr (.inr ⟨rfl, rfl⟩), h.cst (by simp)⟩, by decide⟩
  ·refine Bn_ltF (by omega) (If_F ?_)
   exact Ret.mk ⟨_, rfl, h⟩
theorem Rf1.mk {P : Program} {gv : Value} {w : World} {B : Value → World → (World → Prop) → (Exit → World → Prop) → Prop} {After Rt : Nat → World → Prop} {Exs : List (Nat × (Nat → World → Prop))}
 (gf : FuncId) (lb : Array Value) (xs : List Value) (J : Nat → World → Prop) (X : Exit → World → Prop)
 (hg : gv = .func (.func gf) #[] lb) (hn : Enters P gf) (hit : Iter P gf lb (xs.map fun p => [p]) w J)
 (hJ : ∀ i W W', J i W → Bk w.heap.size W W' → J i W') (hX : ∀ e W W', X e W → Bk w.heap.size W W' → X e W') (h0 : J 0 w)
 (hB : ∀ (a0 : Value), ∀ i W, xs[i]? = some a0 → J i W → w.heap.size ≤ W.heap.size → B a0 W (fun W' => J (i + 1) W' ∧ Kf w.heap.size W W') (fun e W' => X e W' ∧ Kf w.heap.size W W'))
 (hA : ∀ D W, w.heap.size ≤ D → W.heap[D]? = some (.deferred (some [])) → J xs.length W → After D W)
 (hR : ∀ D W, w.heap.size ≤ D → W.heap[D]? = some (.deferred (some [])) → X .ret W → Rt D W)
 (hE : ∀ p ∈ Exs, ∀ D W, w.heap.size ≤ D → W.heap[D]? = some (.deferred (some [])) → X (.exit p.1) W → p.2 D W) : Rf1 P gv w B After Rt Exs := by
 refine ⟨gf, lb, _, _, _, J, X, hg, hn, ?_, hit.toG, Iter.ok hJ hX, h0, ?_, ?_, hR, hE⟩
 ·intro i vs W hvs
  obtain ⟨p, _, rfl⟩ := List.mem_map.1 (List.mem_of_getElem? hvs)
  rfl
 ·intro a0 i W _ hi
  refine hB a0 i W ?_
  rw [List.getElem?_map, Option.map_eq_some_iff] at hi
  obtain ⟨p, h1, h2⟩ := hi
  simp at h2
  rw [h1, h2]
 ·intro D W h1 h2 h3
  exact hA D W h1 h2 (by simpa using h3)
section
variable {w0 w W W' : World} {L : List Et} {B : Nat}
theorem Hp.bkr (h : Hp [] w0 W L) (hc : ∀ k ∈ L.flatMap Et.ks, k < B ∨ isRec W.heap[k]? = false) (hw : w0.heap.size ≤ B) (b : Bk B W W') : Hp [] w0 W' L where
 mo := ⟨b.os.trans h.mo.os, b.tape.trans h.mo.tape, b.output.trans h.mo.output, Nat.le_trans h.mo.size b.size, fun k hk _ => by
  rcases b.block k (Nat.lt_of_lt_of_le hk h.mo.size) with h1 | ⟨h1, _⟩
  ·exact h1.trans (h.mo.block k hk (by simp))
  ·omega⟩
 ok := fun e he => (h.ok e he).mv b.size fun k hk hc' => by
  rcases b.block k hk with h1 | ⟨h1, r, r', h2, _⟩
  ·exact h1
  ·rcases hc' with hc' | ⟨hc', _⟩
   ·rcases hc k (List.mem_flatMap.2 ⟨e, he, hc'⟩) with h3 | h3
    ·omega
    ·rw [h2] at h3; cases h3
   ·omega
 ks := fun e he k hk => ⟨Nat.lt_of_lt_of_le (h.ks e he k hk).1 b.size, (h.ks e he k hk).2⟩
 nd := h.nd
theorem row_rec {e : TypeId} {c n : Nat} {v : Value} {xs : List Value} (h : W.ownsRow 0 e c v n xs) : ∀ k, v.ownBlock = some k → isRec W.heap[k]? = false := by
 intro k hk
 obtain ⟨_, ⟨rfl, _⟩ | ⟨g, cap, cur, rfl, _, h2, _⟩⟩ := h
 ·simp [Value.ownBlock] at hk
 ·simp [Value.ownBlock] at hk
  subst hk
  rw [h2]; rfl
end
theorem it_vals {w : World} {gv : Nat} {v : Value} {l : List Int} {J : Nat → World → Prop} (hl : l.length ≤ 1000)
 (hJ : ∀ k W, J k W → W.cell? ⟨gv, 0, none⟩ = some v ∧ SlC W 1 v l.length (l.flatMap fI)) :
 Iter Tryz.prog 79 #[pr gv 0] ((l.map fun x => Value.int .i64 x).map fun p => [p]) w J := by
 intro lx JJ XX W1 hW1 hJJ hst hXst hround h0
 have f0 := hJ 0 W1 (hJJ _ _ h0)
 have hv := f0.2
 apply e_slices_Values_int_int_1
 unfold s_slices_Values_int_int_1
 have h := Hp.init [] W1
 refine ldBx f0.1 ?_
 refine leS (hv.hp h) ?_
 refine Lp1.mk (fun a W => ∃ s : Nat, s ≤ l.length ∧ a = .int .i64 s ∧ JJ s W) (fun a _ => match a with | .int _ x => l.length - x.toNat | _ => 0) ⟨0, by omega, rfl, h0⟩ ?_
 clear h hv f0
 rintro _ W ⟨s, hs, rfl, hj⟩
 have f := hJ _ W (hJJ _ _ hj)
 have hv := f.2
 have h := Hp.init [] W
 by_cases hsl : s < l.length
 ·have s1 : Seg (l.flatMap fI) (s * 1) (fI l[s]) := flat_seg (f := fI) (fun _ => rfl) (List.getElem?_eq_getElem hsl)
  have hr := hround s [.int .i64 l[s]] W (by rw [List.getElem?_map, List.getElem?_map, List.getElem?_eq_getElem hsl]; rfl) hj
  refine Bn_ltT (by omega) (If_T (iaH h ‹_› (by omega) fun zb zo zk zv zc => ?_))
  refine lh0 h ‹_› ‹_› (by rfl) ?_
  refine Cw_y hr ?_
  rintro bb W' (⟨rfl, hj'⟩ | ⟨rfl, hx⟩)
  ·have h := Hp.init [] W'
   refine Un_T (If_F (Bn_ad (by omega) (by omega) ?_))
   exact ⟨⟨s + 1, by omega, rfl, hj'⟩, by show l.length - ((s : Int) + 1).toNat < l.length - (s : Int).toNat; omega⟩
  ·have h := Hp.init [] W'
   refine Un_F (If_T ?_)
   exact ⟨⟨_, rfl⟩, .inr hx⟩
 ·refine Bn_ltF (by omega) (If_F ?_)
  refine ⟨⟨_, rfl⟩, .inl ?_⟩
  rw [List.length_map, List.length_map, show l.length = s by omega]
  exact hj
theorem c_Values {w0 : World} {v : Value} (hs : ∃ a m c, v = .slice a m c) : Calls Tryz.prog 48 #[v] w0 (Ret fun r w' => Ext w0 w' ∧ ∃ gv : Nat, r = .func (.func 79) #[] #[pr gv 0] ∧ Blk w' gv tIs [v]) := by
 obtain ⟨a, m, c, rfl⟩ := hs
 apply e_slices_Values_int_int
 unfold s_slices_Values_int_int
 have h := Hp.init [] w0
 refine bxA h fun g1 w h => ?_
 exact Ret.mk ⟨h.ext, g1, rfl, h.get (i := 0) rfl⟩
section
variable {w0 : World} {gf : FuncId} (hg : Enters Tryz.prog gf) {lb : Array Value} {l : List Int} (hl : l.length ≤ 1000)
 (hit : ∀ {w : World} {J : Nat → World → Prop}, (∀ i W, J i W → Ext w0 W) → Iter Tryz.prog gf lb ((l.map fun x => Value.int .i64 x).map fun p => [p]) w J)
include hg hl hit
set_option maxHeartbeats 4000000 in
theorem c_AppendSeq : Calls Tryz.prog 109 #[.slice none 0 0, .func (.func gf) #[] lb] w0 (Ret fun r w' => ∃ u, r = u ∧ Hp [] w0 w' [ro tI 1 u l.length (l.flatMap fI)]) := by
 apply e_slices_AppendSeq_int_int
 unfold s_slices_AppendSeq_int_int
 have h := Hp.init [] w0
 refine bxA h fun g1 w h => ?_
 have hw1 := h.size
 have kg := h.lt 0 rfl
 have h := h.nil tI 1
 refine Rf1.mk gf lb (l.map fun x => Value.int .i64 x) (fun i W => ∃ u, Hp [] w0 W [ro tI 1 u i ((l.take i).flatMap fI), bx g1 tIs [u]]) (fun _ _ => False) rfl hg
  (hit ?_) ?_ ?_ ⟨_, h⟩ ?_ ?_ ?_ (by simp)
 ·exact fun i W ⟨_, h⟩ => h.ext
 ·rintro i W W' ⟨u, h⟩ b
  refine ⟨u, Hp.bkr h (fun k hk => ?_) hw1 b⟩
  simp at hk
  rcases hk with hk | hk
  ·exact .inr (row_rec (h.get (i := 0) rfl) k hk)
  ·exact .inl (by omega)
 ·exact fun _ _ _ h _ => h
 ·rintro a0 i W hi ⟨u, h⟩ hs
  rw [List.getElem?_map, Option.map_eq_some_iff] at hi
  obtain ⟨a, hi, rfl⟩ := hi
  have hil := (List.getElem?_eq_some_iff.1 hi).1
  replace h := h.fr w.heap.size (by omega) (fun k hk => by
   simp at hk
   rcases hk with hk | hk
   ·exact .inr (row_rec (h.get (i := 0) rfl) k hk)
   ·exact .inl (by omega))
  refine Eng.ld1 h 2 rfl rfl (bs1A h (by rfl) (by decide) (by rfl) (by decide) fun v1 w h => ?_)
  refine apR (by rfl) (by decide) h 2 rfl (qZ 0 h rfl) (by first | rfl | assumption) (by omega) fun v2 w h => ?_
  refine st1w h 3 rfl (qZ 2 h rfl) rfl fun w h => ?_
  dsimp only [List.set] at h
  refine ⟨⟨v2, ?_⟩, h.get (i := 1) rfl⟩
  rw [take_snoc hi, List.flatMap_append]
  exact h.pick [2, 3] (by decide) rfl
 ·rintro D W hD hd ⟨u, h⟩
  replace h := h.df hd (by omega) (fun hc => by
   simp at hc
   rcases hc with hc | hc
   ·have := row_rec (h.get (i := 0) rfl) D hc
    rw [hd] at this; cases this
   ·omega)
  rw [List.length_map, List.take_of_length_le (Nat.le_refl _)] at h
  refine Eng.ld1 h 2 rfl rfl (tkE h 0 rfl fun w h => ?_)
  dsimp only [List.set] at h
  exact Ret.mk ⟨_, rfl, h.pick [1] (by decide) rfl⟩
 ·exact fun _ _ _ _ h => h.elim
end
end Go.Proofs.YthjhkpefammjkaaGreatDoor
namespace Go.Proofs.YthjhkpefammjkaaGreatDoor
open Go Go.Eng Go.Proofs Go.Num Go.RowKit Go.Shr Go.Sort Go.Maps
set_option maxRecDepth 100000
theorem c_SortI {w0 w : World} {u : Value} {l : List Int} (hl : l.length ≤ 1000) (h : Hp [] w0 w [ro tI 1 u l.length (l.flatMap fI)]) :
 Calls Tryz.prog 77 #[u] w (Ret fun r w' => Hp [] w0 w' [ro tI 1 u l.length ((l.mergeSort leI).flatMap fI)]) := by
 have hrow : w.ownsRow 0 tI 1 u l.length (l.flatMap fI) := h.get (i := 0) rfl
 rcases hrow.2 with ⟨rfl, hz⟩ | ⟨g, cap, cur, rfl, h0, hb, h1, h2, h3, h4⟩
 ·have : l = [] := List.eq_nil_of_length_eq_zero hz
  subst this
  refine (Tryz.slices_Sort_int_none none 0 w).mono ?_
  rintro _ _ ⟨rfl, rfl⟩
  have e : ([] : List Int).mergeSort leI = [] := by simp
  rw [e]
  exact Ret.mk h
 ·have h4' : cur.toList.take l.length = l.map encZ := by rw [Nat.mul_one] at h4; rw [h4, fI_map]
  have hH := holds_of_block_i hb h4'
  refine (Tryz.slices_Sort_int g 0 cap l w hH (Array.getElem?_eq_some_iff.1 hb).1 (by omega)).mono ?_
  rintro _ _ ⟨rfl, n, os, rfl⟩
  refine Ret.mk ?_
  have hr := ownsRow_sorted_i (n := n) (os := os) (ss := l) (ts := l.mergeSort leI) (by simp) h0 hb h1 h2 h3
  refine h.up (i := 0) rfl (Mo.grown (grownBy_sorted_i _) fun k hk => .inl ?_) (ro_at (by rw [fI_map]; exact hr)) fun k hk => .inl hk
  cases hk
  simp [Value.ownBlock]
section
variable {w0 : World} {gf : FuncId} (hg : Enters Tryz.prog gf) {lb : Array Value} {l : List Int} (hl : l.length ≤ 1000)
 (hit : ∀ {w : World} {J : Nat → World → Prop}, (∀ i W, J i W → Ext w0 W) → Iter Tryz.prog gf lb ((l.map fun x => Value.int .i64 x).map fun p => [p]) w J)
include hg hl hit
theorem c_SortedI : Calls Tryz.prog 46 #[.func (.func gf) #[] lb] w0 (Ret fun r w' => ∃ u, r = u ∧ Hp [] w0 w' [ro tI 1 u l.length ((l.mergeSort leI).flatMap fI)]) := by
 apply e_slices_Sorted_int
 unfold s_slices_Sorted_int
 refine Cl_i n_slices_Collect_int (S := fun r w' => ∃ u, r = u ∧ Hp [] w0 w' [ro tI 1 u l.length (l.flatMap fI)]) ?_ ?_
 ·apply e_slices_Collect_int
  unfold s_slices_Collect_int
  refine Cl_i n_slices_AppendSeq_int_int (c_AppendSeq hg hl hit) ?_
  rintro _ w ⟨u, rfl, h⟩
  exact Ret.mk ⟨_, rfl, h⟩
 rintro _ w ⟨u, rfl, h⟩
 refine Cl_i n_slices_Sort_int_int (c_SortI hl h) ?_
 rintro _ w' h
 exact Ret.mk ⟨_, rfl, h⟩
end
abbrev tM : TypeId := 73
instance : MapI Tryz.prog tM 3 22 := ⟨Tryz.underlying73, Tryz.underlying3, by
 obtain ⟨z, h, _⟩ := (mkZer (P := Tryz.prog) (t := 22) (ti := Tryz.t22) (by kernel_rfl) rfl rfl).zr
 exact ⟨z, h⟩⟩
theorem c_Keys {w0 : World} {b : Nat} : Calls Tryz.prog 47 #[.map (some b)] w0 (Ret fun r w' => Ext w0 w' ∧ ∃ gv : Nat, r = .func (.func 78) #[] #[pr gv 0] ∧ Blk w' gv tM [.map (some b)]) := by
 apply e_maps_Keys_map_int_int_int_int
 unfold s_maps_Keys_map_int_int_int_int
 have h := Hp.init [] w0
 refine bxA h fun g1 w h => ?_
 exact Ret.mk ⟨h.ext, g1, rfl, h.get (i := 0) rfl⟩
def Rtr (v : Value) : Option (DataW Unit × List MemPlace) := some (.nil, [])
theorem insert_perm {H : Type} (x : Lit × DataW H) : ∀ l : List (Lit × DataW H), (DataW.insert x l).Perm (x :: l)
 | [] => .refl _
 | y :: r => by
  unfold DataW.insert
  split
  ·exact .refl _
  ·exact ((insert_perm x r).cons y).trans (.swap x y r)
theorem foldr_perm {H : Type} : ∀ l : List (Lit × DataW H), (l.foldr DataW.insert []).Perm l
 | [] => .refl _
 | x :: l => (insert_perm x _).trans ((foldr_perm l).cons x)
theorem keyI {x : Nat} (hx : x ≤ 1000) : keyOf Tryz.prog 3 (.int .i64 (x : Int)) = some (.int .i64 (x : Int)) := by
 have h : (Lit.int .i64 (x : Int)).wf = true := by
  have h1 : IntKind.i64.min = -9223372036854775808 := by decide
  have h2 : IntKind.i64.max = 9223372036854775807 := by decide
  simp only [Lit.wf, h1, h2, Bool.and_eq_true, decide_eq_true_eq]
  omega
 simp [keyOf, Tryz.underlying3, mapKey, h]
theorem own_map {w : World} {b c : Nat} {ks : List Nat} {val : Nat → Value} (hb : MBlk w b ks val c) (hnd : ks.Nodup) (hlt : ∀ k ∈ ks, k < c ∧ k ≤ 1000) (hk : ks.length ≤ 1000) :
 ∃ D0 : DataW Unit, w.ownsMap Tryz.prog 3 Rtr b ks.length D0 ∧ (intKeys D0).Perm (ks.map fun (x : Nat) => (x : Int)) ∧ Maps.size D0 = ks.length := by
 have hrg : ∀ k ∈ ks, Go.WideElems.rd Tryz.prog 3 Rtr (mEn val k) = some (.int .i64 (k : Int), .nil) := fun k hk => by
  simp [Go.WideElems.rd, mEn, keyI (hlt k hk).2, Rtr]
 refine ⟨_, ⟨_, _, hb, ⟨?_, ⟨?_, ?_, ?_⟩, ?_⟩, by simp, rfl⟩, ?_, ?_⟩
 ·simp [maxLen]; omega
 ·intro x hx
  simp at hx
  obtain ⟨k, hk, rfl⟩ := hx
  exact (hlt k hk).1
 ·simpa [mEn, Function.comp_def] using hnd
 ·simp only [List.toList_toArray, List.map_map]
  refine List.pairwise_map.2 (hnd.imp fun {a b} hab e => hab ?_)
  have e : (a : Int) = b := by simpa [mEn] using e
  omega
 ·intro x hx
  simp at hx
  obtain ⟨k, hk, rfl⟩ := hx
  exact ⟨_, hrg k hk⟩
 ·refine ((foldr_perm _).map _).trans ?_
  rw [List.toList_toArray, List.map_map, List.map_map]
  refine .of_eq (List.map_congr_left fun k hk => ?_)
  simp [Go.WideElems.rg, hrg k hk]
  rfl
 ·rw [Maps.size_eq, length_sorted]; simp
theorem Tryz.sortsI (m : Nat) : AnyZI.SortsIn Tryz.prog Tryz.sorted46_ren Fence.wide m :=
 ⟨fun blk off cap ss W hH hblk hsz => callsIn_wide.2 (Tryz.slices_Sort_int blk off cap ss W hH hblk hsz),
  fun p cap W => callsIn_wide.2 (Tryz.slices_Sort_int_none p cap W)⟩
theorem merge_sorted {ks : List Nat} (hs : ks.Pairwise (· < ·)) {ss : List Int} (hp : ss.Perm (ks.map fun (x : Nat) => (x : Int))) : ss.mergeSort leI = ks.map fun (x : Nat) => (x : Int) := by
 rw [mergeSort_of_perm_i hp]
 refine List.mergeSort_of_pairwise ?_
 refine List.pairwise_map.2 (hs.imp fun {a b} hab => ?_)
 simp [leI]; omega
theorem c_SortedK {w : World} {g b c : Nat} {ks : List Nat} {val : Nat → Value} (hg : Blk w g tM [.map (some b)]) (hb : MBlk w b ks val c) (hs : ks.Pairwise (· < ·)) (hlt : ∀ k ∈ ks, k < c ∧ k ≤ 1000) (hk : ks.length ≤ 1000) :
 Calls Tryz.prog 46 #[.func (.func 78) #[] #[pr g 0]] w (Ret fun r w' => ∃ u, r = u ∧ Hp [] w w' [ro tI 1 u ks.length (ks.flatMap fN)]) := by
 obtain ⟨D0, hown, hperm, hsz⟩ := own_map hb (hs.imp fun h => by omega) hlt hk
 refine (callsIn_wide (n := 5)).1 ?_
 have hseq : SeqGives Fence.wide 2 Tryz.prog 78 #[.pointer (some ⟨g, 0, none⟩)] encZ (fun ss => ss.Perm (intKeys D0)) (Maps.size D0) w :=
  AnyZI.keys_gives (ρ := Tryz.keys47_ren) { Tryz.keys47 with } Fence.wide _ trivial rfl (by omega) g b _ D0 w hg.lt (hg.cell rfl) hown
 have cS := AnyZI.sorted_in Tryz.sorted46 Fence.wide 5 trivial trivial trivial trivial rfl (by omega) (Tryz.sortsI _) n_slices_Sort_int_int 78 #[.pointer (some ⟨g, 0, none⟩)] trivial n_maps_Keys_map_int_int_int_int_1 _ _ (by rw [hsz]; unfold maxLen; omega) (by rw [hsz]; omega) _ hseq
 change CallsIn _ _ Tryz.prog 46 _ _ _ at cS
 refine cS.mono ?_
 rintro _ w' ⟨v, ss, rfl, hS, hrow, hnil, hbw⟩
 have hp := hS.trans hperm
 have hl : ss.length = ks.length := by rw [hp.length_eq, List.length_map]
 refine Ret.mk ⟨v, rfl, (Hp.init [] w).row hbw ?_⟩
 have e : (ss.mergeSort fun x y => decide (x ≤ y)) = ks.map fun (x : Nat) => (x : Int) := merge_sorted hs hp
 rw [e] at hrow
 rw [fN_cast, fI_map, ← hl]
 exact hrow
end Go.Proofs.YthjhkpefammjkaaGreatDoor
namespace Go.Proofs.YthjhkpefammjkaaGreatDoor
open Go Go.Eng Go.Proofs Go.Num Go.RowKit Go.Shr
set_option maxRecDepth 100000
section
variable {S : List Nat} {w0 w : World} {L : List Et} {a b : Et} {Q : World → Prop}
theorem Hp.jn (h : Hp S w0 w (a :: b :: L)) (hQ : ∀ w, a.Q w → b.Q w → Q w) : Hp S w0 w (⟨a.ks ++ b.ks, Q⟩ :: L) where
 mo := h.mo
 ok := fun e he => by
  rcases List.mem_cons.1 he with rfl | he
  ·intro w' h1 h2
   exact hQ w' (h.ok a (by simp) w' h1 fun k hk hc => h2 k hk (hc.imp (fun h => List.mem_append_left _ h) id)) (h.ok b (by simp) w' h1 fun k hk hc => h2 k hk (hc.imp (fun h => List.mem_append_right _ h) id))
  ·exact h.ok e (by simp [he])
 ks := fun e he k hk => by
  rcases List.mem_cons.1 he with rfl | he
  ·rcases List.mem_append.1 hk with hk | hk
   ·exact h.ks a (by simp) k hk
   ·exact h.ks b (by simp) k hk
  ·exact h.ks e (by simp [he]) k hk
 nd := by
  have h1 := List.pairwise_cons.1 h.nd
  have h2 := List.pairwise_cons.1 h1.2
  refine List.pairwise_cons.2 ⟨fun x hx k hk => ?_, h2.2⟩
  rcases List.mem_append.1 hk with hk | hk
  ·exact h1.1 x (by simp [hx]) k hk
  ·exact h2.1 x hx k hk
theorem Hp.wk1 (h : Hp S w0 w (a :: L)) (hQ : ∀ w, a.Q w → Q w) : Hp S w0 w (⟨a.ks, Q⟩ :: L) where
 mo := h.mo
 ok := fun e he => by
  rcases List.mem_cons.1 he with rfl | he
  ·exact fun w' h1 h2 => hQ w' (h.ok a (by simp) w' h1 h2)
  ·exact h.ok e (by simp [he])
 ks := fun e he k hk => by
  rcases List.mem_cons.1 he with rfl | he
  ·exact h.ks a (by simp) k hk
  ·exact h.ks e (by simp [he]) k hk
 nd := List.pairwise_cons.2 (List.pairwise_cons.1 h.nd)
end
abbrev sls (kz : List Nat) (vs : List Value) (ls : List (List Nat)) : Et :=
 ⟨kz, fun w => vs.length = ls.length ∧ ∀ (c : Nat) (v : Value) (l : List Nat), vs[c]? = some v → ls[c]? = some l → SlN w v l ∧ ∀ k, v.ownBlock = some k → k ∈ kz⟩
theorem sls_sm {kz : List Nat} {vs : List Value} {ls : List (List Nat)} : (sls kz vs ls).Simple := fun B S w h w' _ hb =>
 ⟨h.1, fun c v l hv hl => by
  obtain ⟨h1, h2⟩ := h.2 c v l hv hl
  exact ⟨h1.mv fun k hk hlt => hb k hlt (.inl (h2 k hk)), h2⟩⟩
theorem sls_nil {S : List Nat} {w0 w : World} {L : List Et} (h : Hp S w0 w L) : Hp S w0 w (sls [] [] [] :: L) :=
 h.nw (fun _ _ _ => ⟨rfl, by simp⟩) (by simp) (by simp)
theorem sls_add {S : List Nat} {w0 w : World} {L : List Et} {kz : List Nat} {vs : List Value} {ls : List (List Nat)} {e : TypeId} {v : Value} {l : List Nat} {m : Nat} (hm : m = l.length) (h : Hp S w0 w (ro e 1 v m (l.flatMap fN) :: sls kz vs ls :: L)) :
 Hp S w0 w (sls (v.ownBlock.toList ++ kz) (vs ++ [v]) (ls ++ [l]) :: L) := by
 subst hm
 refine Hp.jn h fun w h1 h2 => ⟨by simp [h2.1], fun c u k hu hk => ?_⟩
 have hlen := h2.1
 rcases Nat.lt_or_ge c vs.length with hc | hc
 ·rw [List.getElem?_append_left hc] at hu
  rw [List.getElem?_append_left (by omega)] at hk
  obtain ⟨a, b⟩ := h2.2 c u k hu hk
  exact ⟨a, fun k hk => List.mem_append_right _ (b k hk)⟩
 ·rw [List.getElem?_append_right hc] at hu
  rw [List.getElem?_append_right (by omega)] at hk
  have : c - vs.length = 0 := by
   rcases e : c - vs.length with _ | q
   ·rfl
   ·rw [e] at hu; simp at hu
  rw [this] at hu
  rw [← hlen, this] at hk
  cases hu; cases hk
  exact ⟨ownsRow_sl h1, fun k hk => List.mem_append_left _ (by simp [hk])⟩
abbrev vls (kz ks : List Nat) (val : Nat → Value) (cont : Nat → List Nat) : Et := ⟨kz, fun w => ∀ k ∈ ks, SlN w (val k) (cont k)⟩
theorem vls_put {S : List Nat} {w0 w : World} {L : List Et} {kz ks ks' : List Nat} {val : Nat → Value} {cont cont' : Nat → List Nat} {e : TypeId} {j m : Nat} {v : Value} {l : List Nat} (hm : m = l.length) (h : Hp S w0 w (ro e 1 v m (l.flatMap fN) :: vls kz ks val cont :: L))
 (hj : cont' j = l) (hk : ∀ k ∈ ks', k ≠ j → k ∈ ks ∧ cont' k = cont k) : Hp S w0 w (vls (v.ownBlock.toList ++ kz) ks' (upd val j v) cont' :: L) := by
 subst hm
 refine Hp.jn h fun w h1 h2 k hk' => ?_
 by_cases e : k = j
 ·subst e
  have : upd val k v k = v := by simp [upd]
  rw [this, hj]
  exact ownsRow_sl h1
 ·have : upd val j v k = val k := by simp [upd, e]
  obtain ⟨a, b⟩ := hk k hk' e
  rw [this, b]
  exact h2 k a
theorem vls_as {S : List Nat} {w0 w : World} {L : List Et} {kz ks ks' : List Nat} {val : Nat → Value} {cont cont' : Nat → List Nat} (h : Hp S w0 w (vls kz ks val cont :: L)) (hk : ∀ k ∈ ks', k ∈ ks ∧ cont' k = cont k) : Hp S w0 w (vls kz ks' val cont' :: L) :=
 Hp.wk1 h fun w h1 k hk' => by
  obtain ⟨a, b⟩ := hk k hk'
  rw [b]; exact h1 k a
section
variable {w0 : World} {v : Value} {l : List Int} (hv : SlC w0 1 v l.length (l.flatMap fI)) {n : Nat} (hn : n ≤ 6) (hln : l.length = 2 ^ n) (hw : ∀ x ∈ l, wOk x)
include hv hn hln hw
set_option maxHeartbeats 8000000 in
theorem c_Classes : Calls Tryz.prog 15 #[v] w0 (Ret fun r w' => ∃ u vs kz, r = .tuple #[u, .int .i64 0] ∧ Hp [] w0 w' [ro 22 1 u vs.length vs, sls kz vs (clsV n l)]) := by
 have hl64 : l.length ≤ 64 := by
  rw [hln]; exact Nat.pow_le_pow_right (n := 2) (by decide) hn
 have cc1 := fun {W : World} (e : Ext w0 W) => c_causesT (w0 := W) (hv.ext e) (by omega) hn hln hw
 apply e_share_Classes
 unfold s_share_Classes
 have h := Hp.init [] w0
 refine cl1 h n_share_causes (cc1 h.ext) fun w h => ?_
 refine Ex2 (Un_T (If_F ?_))
 clear cc1
 refine mmS h fun b w h => ?_
 replace h : Hp [] w0 w [mp b [] (fun _ => undef) 0, vls [] [] (fun _ => undef) (fun k => [k])] := h.nw (e := vls [] [] (fun _ => undef) (fun k => [k])) (fun _ _ _ _ hk => by cases hk) (by simp) (by simp) |>.up1
 refine Lp1.mk (fun x W => ∃ (i : Nat) (val : Nat → Value) (kz : List Nat), i ≤ n ∧ x = .int .i64 i ∧ Hp [] w0 W [mp b (List.range i) val i, vls kz (List.range i) val (fun k => [k])]) (fun x _ => match x with | .int _ x => n - x.toNat | _ => 0) ⟨0, _, [], by omega, rfl, h⟩ ?_
 clear h
 rintro _ W ⟨i, val, kz, hi, rfl, h⟩
 by_cases hin : i < n
 ·refine Bn_ltT (by omega) (If_T (bs1A h (by rfl) (by decide) (by rfl) (by decide) fun v1 w h => ?_))
  refine muN h 1 rfl (by simp) fun w h => ?_
  refine Bn_ad (by omega) (by omega) ?_
  dsimp only [List.set] at h
  refine ⟨⟨i + 1, upd val i v1, v1.ownBlock.toList ++ kz, by omega, rfl, ?_⟩, by show n - ((i : Int) + 1).toNat < n - (i : Int).toNat; omega⟩
  have h := h.pick [0, 2, 1] (by decide) rfl
  have h := vls_put (l := [i]) (ks' := List.range (i + 1)) (cont' := fun k => [k]) (j := i) rfl h rfl fun k hk hne => ⟨by simp at hk ⊢; omega, rfl⟩
  rw [List.range_succ] at h ⊢
  exact h.up1
 have e : i = n := by omega
 subst e
 clear hi hin
 refine Bn_ltF (by omega) (If_F (Bn_su (by omega) (by omega) ?_))
 replace h : Hp [] w0 W [mp b (liv i l i) val i, vls kz (liv i l i) val (cK i l i)] := by
  rw [liv_top]
  exact h.up1 |> (vls_as · fun k hk => ⟨hk, cK_top k⟩) |>.up1
 refine Lp1.mk (fun x W => ∃ (m : Nat) (val : Nat → Value) (kz : List Nat), m ≤ i ∧ x = .int .i64 ((m : Int) - 1) ∧ Hp [] w0 W [mp b (liv i l m) val i, vls kz (liv i l m) val (cK i l m)]) (fun x _ => match x with | .int _ x => x.toNat | _ => 0) ⟨i, val, kz, Nat.le_refl _, rfl, h⟩ ?_
 clear h val kz
 rintro _ W ⟨m, val, kz, hm, rfl, h⟩
 by_cases hm1 : 1 < m
 ·refine Exists.elim (p := fun q => m = q + 1) ⟨m - 1, by omega⟩ fun q hq => ?_
  subst hq
  have eq1 : ((q + 1 : Nat) : Int) - 1 = q := by omega
  rw [eq1]
  refine Bn_gtT (by omega) (If_T (Lp1.mk (fun x W => ∃ j : Nat, j ≤ q ∧ x = .int .i64 j ∧ (∀ t, t < j → ¬ Alk i l t q) ∧ Hp [] w0 W [mp b (liv i l (q + 1)) val i, vls kz (liv i l (q + 1)) val (cK i l (q + 1))]) (fun x _ => match x with | .int _ x => q - x.toNat | _ => 0) ⟨0, by omega, rfl, fun t ht => absurd ht (Nat.not_lt_zero t), h⟩ ?_))
  clear h
  rintro _ W ⟨j, hj, rfl, hno, h⟩
  by_cases hjq : j < q
  ·by_cases hal : Alk i l j q
   ·have cc1 := fun {W : World} (e : Ext w0 W) => c_alike (w0 := W) (hv.ext e) hn hln (show j < i by omega) (show q < i by omega) (b := true) (by simpa using hal)
    have hr := repV_at hjq hal hno
    have hrq : repV i l q ≠ q := by omega
    have mj : j ∈ liv i l (q + 1) := liv_mem.2 ⟨by omega, .inl (by omega)⟩
    have mq : q ∈ liv i l (q + 1) := liv_mem.2 ⟨by omega, .inl (by omega)⟩
    have ej : cK i l q j = cK i l (q + 1) j ++ cK i l (q + 1) q := by
     have := cK_join hn (show q < i by omega) hrq
     rw [hr] at this; exact this
    refine Bn_ltT (by omega) (If_T (cl1 h n_share_alike (cc1 h.ext) fun w h => ?_))
    refine If_T (lkS h 0 rfl mj ?_)
    refine lkS h 0 rfl mq ?_
    have sj : SlN w (val j) (cK i l (q + 1) j) := h.get (i := 1) rfl j mj
    have sq : SlN w (val q) (cK i l (q + 1) q) := h.get (i := 1) rfl q mq
    have sj1 := (slc_c1 sj).1
    have sq1 := (slc_c1 sq).1
    refine bsN (vs := [_, _]) h (.cons (by first | assumption) (by rfl) (.cons (by first | assumption) (by rfl) .nil)) (by rfl) (by rfl) (by decide) (by decide) (by decide) fun v1 w h => ?_
    have sj : SlN w (val j) (cK i l (q + 1) j) := h.get (i := 2) rfl j mj
    have sq : SlN w (val q) (cK i l (q + 1) q) := h.get (i := 2) rfl q mq
    refine Cl_i n_slices_Concat_int_int (c_Concat (qZ 0 h rfl) sj sq (by have := cK_len (n := i) (v := l) (m := q + 1) (k := j); omega) (by have := cK_len (n := i) (v := l) (m := q + 1) (k := q); omega)) ?_
    rintro u w ⟨_, rfl, h'⟩
    have h := h.cat1 h' ro_sm
    refine muS h 2 rfl (liv_nodup i l (q + 1)) mj fun w h => ?_
    refine mdS h 2 rfl mq fun w h => ?_
    refine Bn_su (by omega) (by omega) ?_
    dsimp only [List.set] at h
    refine ⟨⟨q, upd val j u, u.ownBlock.toList ++ kz, by omega, by rfl, ?_⟩, by show ((q : Int) - 1).toNat < (q : Int).toNat; omega⟩
    have h := h.pick [0, 3, 2] (by decide) rfl
    rw [← ej] at h
    have h := vls_put (ks' := liv i l q) (cont' := cK i l q) (j := j) rfl h rfl fun k hk hne => ⟨by
     rw [liv_drop hrq] at hk
     exact List.mem_of_mem_erase hk, cK_keep (by omega) (.inl fun e => hne (by omega))⟩
    rw [← liv_drop hrq] at h
    exact h.up1
   ·have cc1 := fun {W : World} (e : Ext w0 W) => c_alike (w0 := W) (hv.ext e) hn hln (show j < i by omega) (show q < i by omega) (b := false) (by simpa using hal)
    refine Bn_ltT (by omega) (If_T (cl1 h n_share_alike (cc1 h.ext) fun w h => ?_))
    refine If_F (Bn_ad (by omega) (by omega) ?_)
    refine ⟨⟨j + 1, by omega, rfl, fun t ht => ?_, h⟩, by show q - ((j : Int) + 1).toNat < q - (j : Int).toNat; omega⟩
    by_cases e : t = j
    ·subst e; exact hal
    ·exact hno t (by omega)
  ·have e : j = q := by omega
   subst e
   have hr := repV_own hno
   refine Bn_ltF (by omega) (If_F (Bn_su (by omega) (by omega) ?_))
   refine ⟨⟨j, val, kz, by omega, by rfl, ?_⟩, by show ((j : Int) - 1).toNat < (j : Int).toNat; omega⟩
   rw [liv_keep hr]
   exact h.up1 |> (vls_as · fun k hk => ⟨hk, cK_keep (by omega) (by by_cases e : j = k; exact .inr e; exact .inl fun e2 => e (by omega))⟩) |>.up1
 have hm1 : m ≤ 1 := by omega
 rw [liv_end hm1] at h
 refine Bn_gtF (by omega) (If_F (Cl_i n_maps_Keys_map_int_int_int_int c_Keys ?_))
 rintro _ w ⟨x, gk, rfl, hgk⟩
 have h := h.x x
 have hlenh : (hdP i l i).length ≤ i := by rw [← liv_end (m := 0) (by omega)]; exact liv_len i l 0
 refine Cl_i n_slices_Sorted_int (c_SortedK hgk (h.get (i := 0) rfl) (hdP_sorted i l i) (fun k hk => by have := (hdP_mem.1 hk).1; omega) (by omega)) ?_
 rintro ku w ⟨_, rfl, h'⟩
 have h := h.cat1 h' ro_sm
 refine leS (qZ 0 h rfl) ?_
 have h := (sls_nil h).nil 22 1
 refine Lp2.mk (fun u x W => ∃ (j : Nat) (vs : List Value) (kz' : List Nat), j ≤ (hdP i l i).length ∧ vs.length = j ∧ x = .int .i64 j ∧ Hp [] w0 W [ro 22 1 u j vs, sls kz' vs (((hdP i l i).take j).map (memP i l i)), ro tI 1 ku (hdP i l i).length ((hdP i l i).flatMap fN), mp b (hdP i l i) val i, vls kz (hdP i l i) val (cK i l m)]) (fun _ x _ => match x with | .int _ x => (hdP i l i).length - x.toNat | _ => 0) ⟨0, [], [], by omega, rfl, rfl, h⟩ ?_
 clear h
 rintro u _ W ⟨j, vs, kz', hj, hvs, rfl, h⟩
 by_cases hjl : j < (hdP i l i).length
 ·refine Exists.elim (p := fun k => (hdP i l i)[j]? = some k) ⟨_, List.getElem?_eq_getElem hjl⟩ fun k hk => ?_
  have hkm := List.mem_of_getElem? hk
  have sk : Seg ((hdP i l i).flatMap fN) (j * 1) (fN k) := flat_seg (f := fN) (fun _ => rfl) hk
  refine Bn_ltT (by omega) (If_T (iaR h 2 rfl (by omega) fun zg zk zv => ?_))
  refine lr0 h 2 rfl ‹_› sk (by rfl) ?_
  refine lkS h 3 rfl hkm ?_
  have sv : SlN W (val k) (cK i l m k) := h.get (i := 4) rfl k hkm
  refine Cl_i n_slices_Values_int_int (c_Values (sl_ex sv)) ?_
  rintro _ w1 ⟨x1, gv, rfl, hgv⟩
  have h := h.x x1
  have sv := sv.ext x1
  have hcl := cK_len (n := i) (v := l) (m := m) (k := k)
  refine Cl_i n_slices_Sorted_int (c_SortedI (w0 := w1) (l := (cK i l m k).map fun (x : Nat) => (x : Int)) n_slices_Values_int_int_1 (by rw [List.length_map]; omega) fun hJ => it_vals (v := val k) (by rw [List.length_map]; omega) fun k' W hk' => ⟨(hgv.ext (hJ k' W hk')).cell rfl, (SlN.int sv).ext (hJ k' W hk')⟩) ?_
  rintro u2 w ⟨_, rfl, h'⟩
  have h := h.cat1 h' ro_sm
  have ems : ((cK i l m k).map fun (x : Nat) => (x : Int)).mergeSort leI = (memP i l i k).map fun (x : Nat) => (x : Int) := merge_sorted (memP_sorted i l i k) ((cK_perm hm1 hkm).map _)
  rw [ems, ← fN_cast, List.length_map, (cK_perm hm1 hkm).length_eq] at h
  refine bs1w h (by rfl) (qZ 0 h rfl) fun v2 w h => ?_
  refine apR (by rfl) (by decide) h 2 rfl (qZ 0 h rfl) (by have := (slc_c1 (qZ 1 h rfl)).2; simp [this]) (by omega) fun v3 w h => ?_
  refine Bn_ad (by omega) (by omega) ?_
  dsimp only [List.set] at h
  refine ⟨⟨j + 1, vs ++ [u2], u2.ownBlock.toList ++ kz', by omega, by simp [hvs], rfl, ?_⟩, by show (hdP i l i).length - ((j : Int) + 1).toNat < (hdP i l i).length - (j : Int).toNat; omega⟩
  have h := h.pick [1, 3, 2, 4, 5, 6] (by decide) rfl
  have h := sls_add rfl h
  rw [take_snoc hk, List.map_append]
  exact h.up1
 ·have e : j = (hdP i l i).length := by omega
  rw [e, List.take_length] at h
  have hcl : clsV i l = (hdP i l i).map (memP i l i) := clsV_P i l
  refine Bn_ltF (by omega) (If_F ?_)
  refine Ret.mk ⟨u, vs, kz', rfl, ?_⟩
  rw [hcl, hvs, e]
  exact h.pick [0, 1] (by decide) rfl
end
end Go.Proofs.YthjhkpefammjkaaGreatDoor
