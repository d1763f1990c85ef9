/-
  Contracts and plain lemmas. By an AI agent.
-/
import Derived.Test.YthdhnhghjecfkaaGreatSrA
import Derived.Test.YthdhnhghjecfkaaGreatShelf
import Derived.Shelf.SlSortCmp.WholeK
import Derived.Test.YthdhnhghjecfkaaGreatPlain
set_option linter.unusedSimpArgs false
set_option linter.unusedVariables false
set_option linter.unusedSectionVars false
namespace Go.Proofs.YthdhnhghjecfkaaGreat
open Go Go.Eng Go.Proofs Go.RowKit
open Go.Srd (Ft VF Hd Mv mv0 Rd Ab Cmd got)
set_option maxRecDepth 100000
theorem x_cmp {w : World} {x y : Int} : Calls Tryz.prog 64 #[.int .i64 x, .int .i64 y] w (Ret fun r w' => w' = w ∧ r = .int .i64 (Lib.compareInt x y)) :=
 (Tryz.cmp_Compare_int x y w).mono fun e w' ⟨he, hw⟩ => ⟨_, he, hw, rfl⟩
theorem x_or {w0 : World} {v : Value} {x y : Int} (hv : SlC w0 1 v 2 [.int .i64 x, .int .i64 y]) : Calls Tryz.prog 83 #[v] w0 (Ret fun r w' => w' = w0 ∧ r = .int .i64 (if x = 0 then y else x)) := by
 apply e_cmp_Or_int
 unfold s_cmp_Or_int
 have h := Hp.init [] w0
 refine leS (hv.hp h) ?_
 refine Lp1.mk (fun i W => ∃ j : Nat, i = .int .i64 j ∧ j ≤ 2 ∧ W = w0 ∧ (1 ≤ j → x = 0) ∧ (2 ≤ j → y = 0)) (fun i _ => match i with | .int _ i' => 3 - i'.toNat | _ => 0) ⟨0, rfl, by omega, rfl, by omega, by omega⟩ ?_
 rintro _ W ⟨j, rfl, hj, rfl, hx, hy⟩
 by_cases h0 : j = 0
 ·subst h0
  have sx : Seg [.int .i64 x, .int .i64 y] (0 * 1) [.int .i64 x] := fun i u hu => by cases i <;> simp at hu ⊢; exact hu
  by_cases hx : x = 0
  ·subst hx
   refine Bn_ltT (by omega) (If_T (iaH h ‹_› (by omega) fun zb zo zk zv zc => ?_))
   refine lc0 ‹_› (by rfl) ?_
   refine Bn_neF (by omega) (If_F (Bn_ad (by omega) (by omega) ?_))
   exact ⟨⟨1, rfl, by omega, rfl, fun _ => rfl, by omega⟩, by decide⟩
  ·rw [if_neg hx]
   refine Bn_ltT (by omega) (If_T (iaH h ‹_› (by omega) fun zb zo zk zv zc => ?_))
   refine lc0 ‹_› (by rfl) ?_
   refine Bn_neT (by omega) (If_T ?_)
   exact Ret.mk ⟨rfl, rfl⟩
 rw [if_pos (hx (by omega))]
 by_cases h1 : j = 1
 ·subst h1
  have sy : Seg [.int .i64 x, .int .i64 y] (1 * 1) [.int .i64 y] := fun i u hu => by cases i <;> simp at hu ⊢; exact hu
  by_cases hy : y = 0
  ·subst hy
   refine Bn_ltT (by omega) (If_T (iaH h ‹_› (by omega) fun zb zo zk zv zc => ?_))
   refine lc1 ‹_› (by rfl) ?_
   refine Bn_neF (by omega) (If_F (Bn_ad (by omega) (by omega) ?_))
   exact ⟨⟨2, rfl, by omega, rfl, fun _ => hx (by omega), fun _ => rfl⟩, by decide⟩
  ·refine Bn_ltT (by omega) (If_T (iaH h ‹_› (by omega) fun zb zo zk zv zc => ?_))
   refine lc1 ‹_› (by rfl) ?_
   refine Bn_neT (by omega) (If_T ?_)
   exact Ret.mk ⟨rfl, rfl⟩
 have h2 : j = 2 := by omega
 subst h2
 rw [hy (by omega)]
 refine Bn_ltF (by omega) (If_F ?_)
 exact Ret.mk ⟨rfl, rfl⟩
theorem run_two {W : World} {a b : Int} : (Instr.buildSlice 25 2 #[(0, .int .i64 a), (1, .int .i64 b)]).run Tryz.prog W = .ok (.slice (some ⟨W.heap.size, 0, none⟩) 2 2) (W.alloc (.cells #[.int .i64 a, .int .i64 b] tIn)) := by
 have hi := (inferInstance : Slm Tryz.prog 25 tIn [.int .i64 0]).inf
 obtain ⟨i, z, h1, h2, h3, h4, h5⟩ := hi
 have h4 : i.size = 1 := h4
 have hf : Instr.fill (fun j => some (j * i.size, i.size)) ((Array.range (2 * i.size)).map (z.cells[· % z.cells.size]!)) [(0, .int .i64 a), (1, .int .i64 b)] = some #[.int .i64 a, .int .i64 b] := by
  rw [h4, h3]
  exact fill_lit (c := 1) (f := fun v => [v]) [.int .i64 a, .int .i64 b] 0 _ [] (by intro v hv; simp at hv; rcases hv with rfl | rfl <;> exact ⟨rfl, rfl⟩) rfl (by simp) rfl
 exact run_buildSlice (P := Tryz.prog) W 25 tIn 2 #[(0, .int .i64 a), (1, .int .i64 b)] #[.int .i64 a, .int .i64 b] i z (inferInstance : Slt Tryz.prog 25 tIn 1).un h1 h2 (by rw [h4]; decide) (by rw [h4]; decide) hf
theorem x_order {w : World} {f g : Ft} : Calls Tryz.prog 45 #[vF f, vF g] w (Ret fun r w' => (∃ q os, w' = Go.Sort.grow (w.drewN q) os) ∧ r = .int .i64 (cmpF f g)) := by
 apply e_shard_order
 unfold s_shard_order
 ((try simp -dsimp [go_sem]); repeat (simp -dsimp (disch := omega) only [gL, gI]; try simp -dsimp [go_sem]))
 refine Cl_i n_cmp_Compare_int x_cmp ?_
 rintro _ _ ⟨rfl, rfl⟩
 ((try simp -dsimp [go_sem]); repeat (simp -dsimp (disch := omega) only [gL, gI]; try simp -dsimp [go_sem]))
 refine Cl_i n_cmp_Compare_int x_cmp ?_
 rintro _ _ ⟨rfl, rfl⟩
 ((try simp -dsimp [go_sem]); repeat (simp -dsimp (disch := omega) only [gL, gI]; try simp -dsimp [go_sem]))
 refine V_of run_two ?_
 obtain ⟨W, hW⟩ : ∃ W, W = ((w.alloc (Obj.cells (fF f).toArray tFt)).alloc (Obj.cells (fF g).toArray tFt)).drew := ⟨_, rfl⟩
 have hv : SlC (W.alloc (.cells #[.int .i64 (Lib.compareInt f.tr g.tr), .int .i64 (Lib.compareInt f.sp g.sp)] tIn)) 1 (.slice (some ⟨W.heap.size, 0, none⟩) 2 2) 2 [.int .i64 (Lib.compareInt f.tr g.tr), .int .i64 (Lib.compareInt f.sp g.sp)] :=
  bx_sl (World.alloc_heap_new W _) rfl
 rw [hW] at hv
 refine Cl_i n_cmp_Or_int (x_or hv) ?_
 rintro _ _ ⟨rfl, rfl⟩
 refine Ret.mk ⟨⟨1, #[Obj.cells (fF f).toArray tFt, Obj.cells (fF g).toArray tFt, .cells #[.int .i64 (Lib.compareInt f.tr g.tr), .int .i64 (Lib.compareInt f.sp g.sp)] tIn], ?_⟩, ?_⟩
 ·rw [Go.Sort.alloc_eq_grow, Go.Sort.alloc_eq_grow, Go.Sort.alloc_eq_grow, Go.Sort.grow_grow, Go.Sort.drew_grow, Go.Sort.grow_grow]
  rfl
 ·congr 1
  unfold cmpF Lib.compareInt
  by_cases h1 : f.tr < g.tr
  ·simp [h1]
  ·by_cases h2 : g.tr < f.tr
   ·simp [h1, h2]
   ·simp [h1, h2]
end Go.Proofs.YthdhnhghjecfkaaGreat
namespace Go.Proofs.YthdhnhghjecfkaaGreat
open Go Go.Eng Go.Proofs Go.RowKit
open Go.Srd (Ft VF Hd Mv mv0 Rd Ab Cmd got ltF sam srt)
set_option maxRecDepth 100000
instance : Inhabited Ft := ⟨⟨0, 0, 0, 0, 0, 0, 0, 0, 0, 0⟩⟩
theorem lt_cmp (x y : Ft) : ltOf cmpF x y = decide (ltF x y) := by
 unfold ltOf
 apply decide_eq_decide.2
 unfold cmpF ltF
 by_cases h1 : x.tr < y.tr
 ·simp [h1]
 ·by_cases h2 : y.tr < x.tr
  ·simp [h1, h2]; omega
  ·by_cases h3 : x.sp < y.sp
   ·simp [h1, h2, h3]; omega
   ·by_cases h4 : y.sp < x.sp
    ·simp [h1, h2, h3, h4]
    ·simp [h1, h2, h3, h4]
theorem swo_cmp : Go.Sort.SWO (ltOf cmpF) where
 irrefl x := by rw [lt_cmp]; apply decide_eq_false; unfold ltF; omega
 trans x y z h1 h2 := by
  rw [lt_cmp] at *
  have h1 := of_decide_eq_true h1
  have h2 := of_decide_eq_true h2
  apply decide_eq_true
  unfold ltF at *
  omega
 ntrans x y z h1 h2 := by
  rw [lt_cmp] at *
  have h1 := of_decide_eq_false h1
  have h2 := of_decide_eq_false h2
  apply decide_eq_false
  unfold ltF at *
  omega
theorem flatK_eq {α : Type} [Inhabited α] {f : α → List Value} {c : Nat} (hf : ∀ a, (f a).length = c) (d : Array α) : Go.Sort.flatK f c d = (d.toList.flatMap f).toArray := by
 have hl := flat_len hf d.toList
 apply Array.ext
 ·rw [Go.Sort.size_flatK]
  show d.size * c = (d.toList.flatMap f).length
  rw [hl, Array.length_toList]
 ·intro t h1 h2
  rw [Go.Sort.size_flatK] at h1
  have hc : 0 < c := by
   rcases Nat.eq_zero_or_pos c with h | h
   ·rw [h] at h1; omega
   ·exact h
  have hq : t / c < d.size := (Nat.div_lt_iff_lt_mul hc).2 h1
  have hm : t % c < c := Nat.mod_lt _ hc
  have hs := flat_seg (f := f) hf (l := d.toList) (j := t / c) (a := d[t / c]) (by simp [hq])
  have hg := hs (t % c) ((f d[t / c])[t % c]'(by rw [hf]; exact hm)) (List.getElem?_eq_getElem _)
  rw [Nat.div_add_mod' t c] at hg
  have h3 : (d.toList.flatMap f).toArray[t]? = some ((d.toList.flatMap f).toArray[t]) := Array.getElem?_eq_getElem h2
  have h4 : (Go.Sort.flatK f c d)[t]! = (f d[t / c]!)[t % c]! := Go.Sort.get_flatK f c d t h1
  rw [getElem!_pos _ t (by rw [Go.Sort.size_flatK]; exact h1), getElem!_pos d (t / c) hq, getElem!_pos _ (t % c) (by rw [hf]; exact hm)] at h4
  rw [h4]
  have h5 : (d.toList.flatMap f).toArray[t]? = some ((f d[t / c])[t % c]'(by rw [hf]; exact hm)) := by simpa using hg
  rw [h3] at h5
  exact (Option.some.inj h5).symm
theorem put_flat {F : Array Value} {xs rm : List Value} (hl : F.size = xs.length) : Go.Sort.putCells id 0 F (xs ++ rm).toArray = (F.toList ++ rm).toArray := by
 apply Array.ext
 ·simp [Go.Sort.putCells, hl]
 ·intro t h1 h2
  simp only [Go.Sort.putCells, Array.getElem_mapIdx, Nat.zero_le, true_and, Nat.zero_add, Nat.sub_zero, id]
  by_cases ht : t < F.size
  ·rw [if_pos ht, getElem!_pos F t ht]
   simp [ht]
  ·rw [if_neg ht]
   have ht2 : ¬ t < xs.length := by omega
   simp [List.getElem_append, ht2, hl]
theorem c_Sort {w0 : World} {g cap : Nat} {l : List Ft} {rm : List Value} (hl : l.length ≤ 1000000) (hg : Blk w0 g tFt (l.flatMap fF ++ rm)) (hd : l.Pairwise fun f g => ¬ sam f g) :
 Calls Tryz.prog 44 #[.slice (some ⟨g, 0, none⟩) l.length cap, .func (.func 45) #[] #[]] w0 (Ret fun r w' => r = .tuple #[] ∧ Hp [g] w0 w' [bx g tFt ((srt l).flatMap fF ++ rm)]) := by
 have hfl := flat_len (f := fF) (c := 10) (fun _ => rfl)
 have hFl : Go.Sort.flatK fF 10 l.toArray = (l.flatMap fF).toArray := flatK_eq (f := fF) (c := 10) (fun _ => rfl) l.toArray
 have hH : Go.Sort.HoldsK fF 10 w0 g 0 l.toArray := by
  intro j hj
  rw [hFl] at hj ⊢
  have hj' : j < (l.flatMap fF).length := by simpa using hj
  refine ⟨hg.cell ?_, hg.frz _⟩
  rw [Nat.zero_add, List.getElem?_append_left hj', List.getElem?_eq_getElem hj', getElem!_pos _ j hj]
  simp
 have hcmp : CmpLays Tryz.prog 45 #[] fF 10 cmpF g 0 l.toArray.size w0 := fun m os dk _ x y => (x_order (f := x) (g := y)).mono fun e w' ⟨v, he, hw, hv⟩ => by
  subst hv
  exact ⟨he, hw⟩
 have hcon := AnyQ.slices_SortFunc Tryz.sortf44 10 (fun w => (inferInstance : Agg Tryz.prog tFt 10).ag w) (fun w => (inferInstance : Agg Tryz.prog tFt 10).sz w) fF (fun _ => rfl) (fun x v hv => by simp at hv; rcases hv with h | h | h | h | h | h | h | h | h | h <;> (rw [h]; rfl)) cmpF swo_cmp 45 #[] g 0 cap l.toArray w0
  (fun args w => n_shard_order args w) hcmp hH hg.lt (by simp; omega)
 change Calls Tryz.prog 44 _ _ _ at hcon
 rw [show l.toArray.size = l.length from rfl] at hcon
 refine hcon.mono fun e w' ⟨he, d', n, os, hp, hs, hw⟩ => ⟨_, he, rfl, ?_⟩
 have hsz : d'.size = l.length := hp.1
 have hpm : d'.toList.Perm l := by
  have := hp.2.2
  have e1 : (d'.extract 0 l.length) = d' := by rw [← hsz]; simp
  have e2 : (l.toArray.extract 0 l.length) = l.toArray := by rw [show l.length = l.toArray.size from rfl]; simp
  rw [e1, e2] at this
  exact this
 have hasc : d'.toList.Pairwise ltF := by
  refine List.pairwise_iff_getElem.2 fun i j hi hj hij => ?_
  have hj' : j < l.length := by rw [Array.length_toList] at hj; omega
  have h1 := hs i j (Nat.zero_le _) hij hj'
  rw [lt_cmp, getElem!_pos d' j (by omega), getElem!_pos d' i (by omega)] at h1
  have h1 := of_decide_eq_false h1
  have hd' := hpm.symm.pairwise_iff (R := fun f g => ¬ sam f g) (fun {a b} h h' => h ⟨h'.1.symm, h'.2.symm⟩)
  have h2 := List.pairwise_iff_getElem.1 (hd'.1 hd) i j hi hj hij
  rw [Array.getElem_toList, Array.getElem_toList] at h2 ⊢
  unfold ltF at h1 ⊢
  unfold sam at h2
  omega
 have hsrt : d'.toList = srt l := Srd.srt_uniq hpm hasc
 have hF : Go.Sort.flatK fF 10 d' = ((srt l).flatMap fF).toArray := by rw [flatK_eq (f := fF) (c := 10) (fun _ => rfl) d', hsrt]
 have hgb : Blk w' g tFt ((srt l).flatMap fF ++ rm) := by
  rw [hw]
  have hb : g < w0.heap.size := hg.lt
  have h1 : (sortWorldK fF 10 w0 g 0 n d' os).heap[g]? = some (.cells (Go.Sort.putCells id 0 (Go.Sort.flatK fF 10 d') (l.flatMap fF ++ rm).toArray) tFt (0, 0)) := by
   unfold sortWorldK Go.Sort.putRowK
   rw [Go.Sort.heap_grow_old _ _ (by simpa using hb)]
   have hg' : w0.heap[g]? = some (.cells (l.flatMap fF ++ rm).toArray tFt (0, 0)) := hg
   simp [Go.Sort.putRow, Go.Sort.mapBlock, Go.Sort.ahead, Array.getElem?_modify, hg', Go.Sort.onCells]
  rw [put_flat (by rw [Go.Sort.size_flatK, hsz, hfl]), hF] at h1
  exact h1
 have hmo : Mo [g] w0 w' := by
  rw [hw]
  refine ⟨rfl, rfl, rfl, by simp [sortWorldK, Go.Sort.putRowK, Go.Sort.ahead], fun k hk hne => ?_⟩
  unfold sortWorldK Go.Sort.putRowK
  rw [Go.Sort.heap_grow_old _ _ (by simpa using hk)]
  have : g ≠ k := fun e => hne (by simp [e])
  simp [Go.Sort.putRow, Go.Sort.mapBlock, Go.Sort.ahead, Array.getElem?_modify, this]
 refine ⟨hmo, fun e he => by rw [List.mem_singleton.1 he]; exact bx_at hgb, fun e he k hk => ?_, List.pairwise_singleton _ _⟩
 rw [List.mem_singleton.1 he] at hk
 have : k = g := by simpa using hk
 subst this
 exact ⟨hgb.lt, .inr (by simp)⟩
section
variable {x : Int} {w : World} {K : Value → World → Prop}
theorem Cv_b (h0 : 0 ≤ x) (h1 : x ≤ 9223372036854775807) (hk : K (.int .u64 x) w) : Cv Tryz.prog 3 126 (.int .i64 x) w K :=
 Cv_i (by kernel_rfl) Tryz.underlying126 (by show x % 18446744073709551616 = x; omega) hk
theorem Cv_c (h0 : 0 ≤ x) (h1 : x ≤ 9223372036854775807) (hk : K (.int .i64 x) w) : Cv Tryz.prog 126 3 (.int .u64 x) w K :=
 Cv_i (by kernel_rfl) Tryz.underlying3 (by rw [IntKind.wrap_i64]; omega) hk
end
theorem c_SortN {w0 : World} : Calls Tryz.prog 44 #[.slice none 0 0, .func (.func 45) #[] #[]] w0 (Ret fun r w' => Ext w0 w' ∧ r = .tuple #[]) := by
 have hb : ∀ {W : World}, Ext w0 W → Calls Tryz.prog 82 #[.int .u64 0] W (Ret fun r w' => Ext W w' ∧ r = .int .i64 (Lib.bitLen 0)) := fun {W} _ =>
  (Tryz.bits_Len 0 W (by omega) (by omega)).mono fun e w' ⟨he, hw⟩ => ⟨_, he, by rw [hw]; exact Ext.refl _, rfl⟩
 have hi : ∀ {W : World}, Ext w0 W → Calls Tryz.prog 107 #[.slice none 0 0, .int .i64 0, .int .i64 0, .func (.func 45) #[] #[]] W (Ret fun r w' => Ext W w' ∧ r = .tuple #[]) := fun {W} _ => by
  apply e_slices_insertionSortCmpFunc_api_Fact
  unfold s_slices_insertionSortCmpFunc_api_Fact
  have h := Hp.init [] W
  refine Bn_ad (by omega) (by omega) (Lp1.mk (fun i W' => i = .int .i64 1 ∧ Hp [] W W' []) (fun _ _ => 0) ⟨rfl, h⟩ ?_)
  rintro _ w ⟨rfl, h⟩
  refine Bn_ltF (by omega) (If_F ?_)
  exact Ret.mk ⟨h.ext, rfl⟩
 have hp : ∀ {W : World} {k : Int}, Ext w0 W → Calls Tryz.prog 81 #[.slice none 0 0, .int .i64 0, .int .i64 0, .int .i64 k, .func (.func 45) #[] #[]] W (Ret fun r w' => Ext W w' ∧ r = .tuple #[]) := fun {W k} e => by
  have cc1 := fun {W' : World} (e' : Ext W W') => hi (e.tr e')
  apply e_slices_pdqsortCmpFunc_api_Fact
  unfold s_slices_pdqsortCmpFunc_api_Fact
  have h := Hp.init [] W
  refine Lp5.mk (fun a b _ _ _ W' => (a = .int .i64 0 ∧ b = .int .i64 0) ∧ Hp [] W W' []) (fun _ _ _ _ _ _ => 0) ⟨⟨rfl, rfl⟩, h⟩ ?_
  clear h
  rintro _ _ c d e w ⟨⟨rfl, rfl⟩, h⟩
  refine Bn_su (by omega) (by omega) (Bn_leT (by omega) (If_T (cl1 h n_slices_insertionSortCmpFunc_api_Fact (cc1 h.ext) fun w h => ?_)))
  exact Ret.mk ⟨h.ext, rfl⟩
 have cc1 := @hb
 have cc2 := @hp
 apply e_slices_SortFunc_api_Fact_api_Fact
 unfold s_slices_SortFunc_api_Fact_api_Fact
 have h := Hp.init [] w0
 have hs : SlC w0 10 (.slice none 0 0) 0 [] := ⟨rfl, .inl ⟨rfl, rfl⟩⟩
 refine leS (hs.hp h) ?_
 refine Cv_b (by omega) (by omega) ?_
 refine cl1 h n_math_bits_Len (hb h.ext) fun w h => ?_
 refine cl1 h n_slices_pdqsortCmpFunc_api_Fact (hp h.ext) fun w h => ?_
 exact Ret.mk ⟨h.ext, rfl⟩
theorem srt_len (l : List Ft) : (srt l).length = l.length := (Srd.srt_perm l).length_eq
theorem c_SortV {w0 : World} {v : Value} {l : List Ft} (h0 : w0.ownsRow 0 tFt 10 v l.length (l.flatMap fF)) (hl : l.length ≤ 1000000) (hd : l.Pairwise fun f g => ¬ sam f g) :
 Calls Tryz.prog 44 #[v, .func (.func 45) #[] #[]] w0 (Ret fun r w' => r = .tuple #[] ∧ Hp v.ownBlock.toList w0 w' [ro tFt 10 v l.length ((srt l).flatMap fF)]) := by
 obtain ⟨h1, ⟨rfl, hn⟩ | ⟨g, cap, cur, rfl, h3, h4, h5, h6, h7, h8⟩⟩ := h0
 ·have e : l = [] := List.eq_nil_of_length_eq_zero hn
  subst e
  refine c_SortN.mono fun e w' ⟨r, he, x, hr⟩ => ⟨r, he, hr, ?_⟩
  exact ((Hp.init [] w0).nil tFt 10).x x
 ·have e : cur.toList = l.flatMap fF ++ cur.toList.drop (l.length * 10) := by rw [← h8, List.take_append_drop]
  have hb : Blk w0 g tFt (l.flatMap fF ++ cur.toList.drop (l.length * 10)) := by rw [← e]; simpa [Blk] using h4
  refine (c_Sort (cap := cap) hl hb hd).mono fun e0 w' ⟨r, he, hr, hh⟩ => ⟨r, he, hr, ?_⟩
  have hlen := flat_len (f := fF) (c := 10) (fun _ => rfl) (srt l)
  have := bx_ro (c := 10) (cap := cap) (m := l.length) hh (by
   have e2 := congrArg List.length e
   rw [List.length_append, h1, Array.length_toList, h7] at e2
   rw [List.length_append, hlen, srt_len]
   omega) h5 h6
  rw [List.take_append_of_le_length (by rw [hlen, srt_len]; exact Nat.le_refl _), List.take_of_length_le (by rw [hlen, srt_len]; exact Nat.le_refl _)] at this
  exact this
theorem cl_sort {S : List Nat} {w0 w : World} {L : List Et} {v : Value} {l : List Ft} {pan : List PanicEntry → World → Prop} {K : Value → World → Prop} (h : Hp S w0 w (ro tFt 10 v l.length (l.flatMap fF) :: L)) (hl : l.length ≤ 1000000) (hd : l.Pairwise fun f g => ¬ sam f g)
 (hk : ∀ w1, Hp S w0 w1 (ro tFt 10 v l.length ((srt l).flatMap fF) :: L) → K (.tuple #[]) w1) : Cl Tryz.prog 44 #[v, .func (.func 45) #[] #[]] w pan K := by
 refine Cl_i n_slices_SortFunc_api_Fact_api_Fact (c_SortV (h.get (i := 0) rfl) hl hd) ?_
 rintro _ w1 ⟨rfl, h'⟩
 refine hk w1 (Hp.call (Lc := [ro tFt 10 v l.length (l.flatMap fF)]) (L' := [ro tFt 10 v l.length ((srt l).flatMap fF)]) h ?_ fun e he => ?_)
 ·have e : ([ro tFt 10 v l.length (l.flatMap fF)] : List Et).flatMap Et.ks = v.ownBlock.toList := by simp
  rw [e]; exact h'
 ·rw [List.mem_singleton.1 he]; exact ro_sm
theorem c_route1 {w0 : World} {g s0 : Nat} {x : Sx} {a : Ab} {z : Int} {ts : List Value} (hb : Blk w0 g tSt (cS x a)) (hR : ShR w0 x a) (hp : Blk w0 s0 84 [pr g 0]) (hk : a.k ≤ 4) :
 Calls Tryz.prog 118 #[.int .i64 z, pr s0 0] w0 (Ret fun r w' => Ext w0 w' ∧ r = .bool (!decide (0 ≤ z ∧ z ≤ (a.k : Int) - 1))) := by
 have hsv := hR.st
 by_cases hz : 0 ≤ z ∧ z ≤ (a.k : Int) - 1
 ·rw [decide_eq_true hz]
  have cc1 := fun {W : World} (_ : Ext w0 W) => c_inT (w := W) hz
  apply e_shard_state_route_1
  unfold s_shard_state_route_1
  have h := Hp.init [] w0
  refine lg1 h ‹_› (by rfl) ?_
  refine Nc_ok ?_
  refine faS (faS (lg1 h ‹_› (by rfl) ?_))
  refine leS (hsv.hp h) ?_
  refine Bn_su (by omega) (by omega) (cl1 h n_shard_in (cc1 h.ext) fun w h => ?_)
  refine Un_T ?_
  exact Ret.mk ⟨h.ext, rfl⟩
 ·rw [decide_eq_false hz]
  have cc1 := fun {W : World} (_ : Ext w0 W) => c_inF (w := W) hz
  apply e_shard_state_route_1
  unfold s_shard_state_route_1
  have h := Hp.init [] w0
  refine lg1 h ‹_› (by rfl) ?_
  refine Nc_ok ?_
  refine faS (faS (lg1 h ‹_› (by rfl) ?_))
  refine leS (hsv.hp h) ?_
  refine Bn_su (by omega) (by omega) (cl1 h n_shard_in (cc1 h.ext) fun w h => ?_)
  refine Un_F ?_
  exact Ret.mk ⟨h.ext, rfl⟩
theorem c_route {w0 : World} {g : Nat} {x : Sx} {a : Ab} {v : Value} {l : List Int} (hb : Blk w0 g tSt (cS x a)) (hR : ShR w0 x a) (hk : a.k ≤ 4) (hv : SlC w0 1 v l.length (l.flatMap fI)) (ho : Srd.OkRo a.k l) :
 Calls Tryz.prog 84 #[pr g 0, v] w0 (Ret fun r w' => Ext w0 w' ∧ r = .tuple #[]) := by
 have hl := ho.len
 have hany : l.any (fun z => !decide (0 ≤ z ∧ z ≤ (a.k : Int) - 1)) = false := by
  refine List.any_eq_false.2 fun z hz => ?_
  have := ho.bd z hz
  rw [decide_eq_true (by omega)]
  decide
 have cc1 := fun {W : World} (_ : Ext w0 W) => c_mustT (w := W)
 have h8 : SlC w0 1 v 8 (l.flatMap fI) := by rw [← hl]; exact hv
 apply e_shard_state_route
 unfold s_shard_state_route
 have h := Hp.init [] w0
 refine bxA h fun g1 w h => ?_
 refine leS (hv.hp h) ?_
 refine Bn_eqT (by omega) (Gd_T (Gd_T (Gd_T ?_)))
 have hc := c_CoIn (w0 := w) (v := v) (l := l) (caps := #[pr g1 0]) (p := fun z => !decide (0 ≤ z ∧ z ≤ (a.k : Int) - 1)) (hv.ext h.ext) (by omega) n_shard_state_route_1 fun {W z} _ e => c_route1 (ts := []) (Blk.ext hb (h.ext.tr e)) (hR.ext (h.ext.tr e)) (Blk.ext (h.get (i := 0) rfl) e) hk
 rw [hany] at hc
 refine cl1 h n_slices_ContainsFunc_int_int hc fun w h => ?_
 refine Gd_T (Un_F (Pick_T (cl1 h n_shard_must (cc1 h.ext) fun w h => ?_)))
 exact Ret.mk ⟨h.ext, rfl⟩
end Go.Proofs.YthdhnhghjecfkaaGreat
namespace Go.Proofs.YthdhnhghjecfkaaGreat
open Go Go.Eng Go.Proofs Go.RowKit
open Go.Srd (Ft VF Hd Mv mv0 Rd Ab Cmd got ltF sam srt plh)
set_option maxRecDepth 100000
theorem meet {T G Q : World → Prop} (h1 : ∀ w, (∀ w', Q w' → T w') → Q w → G w) (h2 : ∀ w, Q w → T w) : ∀ w, Q w → G w := fun w hq => h1 w h2 hq
instance : MapF Tryz.prog 121 (Int × Int) kvA 122 tBo := mapFA Tryz.underlying121 Tryz.underlying122 (inferInstance : One Tryz.prog tIn) Tryz.underlying3
abbrev hd0 : Hd := (⟨0, 0, 0, 0, 0, 0, 0, 0, 0, 0⟩, 0)
def fO (b : Bool) (h : Hd) : List Value := if b then fH h else fH hd0
abbrev fB (b : Bool) : List Value := [.bool b]
def cO (a : Ab) (p : Hd → Bool) : List Value := (Srd.all a).flatMap fun h => fO (p h) h
def cT (a : Ab) (p : Hd → Bool) : List Value := (Srd.all a).flatMap fun h => fB (p h)
theorem fO_len (b : Bool) (h : Hd) : (fO b h).length = 11 := by cases b <;> rfl
theorem all_congr {α β : Type} {f g : α → List β} {l : List α} (h : ∀ x ∈ l, f x = g x) : l.flatMap f = l.flatMap g := by
 rw [List.flatMap_def, List.flatMap_def, List.map_congr_left h]
section
variable {a : Ab} {p q : Hd → Bool}
theorem cO_congr (h : ∀ x ∈ Srd.all a, p x = q x) : cO a p = cO a q := all_congr fun x hx => by rw [h x hx]
theorem cT_congr (h : ∀ x ∈ Srd.all a, p x = q x) : cT a p = cT a q := all_congr fun x hx => by rw [h x hx]
theorem rep_flat {α β γ : Type} {f : γ → List β} {z : γ} : ∀ l : List α, (List.replicate l.length z).flatMap f = l.flatMap fun _ => f z
 | [] => rfl
 | x :: l => by rw [List.length_cons, List.replicate_succ, List.flatMap_cons, List.flatMap_cons, rep_flat l]
theorem cO_none (h : ∀ x ∈ Srd.all a, p x = false) : (List.replicate a.A.length hd0).flatMap fH = cO a p := by
 rw [← Srd.all_len a, rep_flat]
 exact all_congr fun x hx => by rw [h x hx]; rfl
theorem cT_none (h : ∀ x ∈ Srd.all a, p x = false) : (List.replicate a.A.length false).flatMap fB = cT a p := by
 rw [← Srd.all_len a, rep_flat]
 exact all_congr fun x hx => by rw [h x hx]
theorem cO_all (h : ∀ x ∈ Srd.all a, p x = true) : cO a p = (Srd.all a).flatMap fH := all_congr fun x hx => by rw [h x hx]; rfl
theorem cT_all (h : ∀ x ∈ Srd.all a, p x = true) : cT a p = (List.replicate a.A.length true).flatMap fB := by
 rw [← Srd.all_len a, rep_flat]
 exact all_congr fun x hx => by rw [h x hx]
theorem cO_set {x : Hd} (hx : x ∈ Srd.all a) : cO a (fun h => p h || decide (h = x)) = (cO a p).take (x.2.toNat * 11) ++ fH x ++ (cO a p).drop (x.2.toNat * 11 + 11) :=
 Srd.flat_upd (f := fO) (c := 11) fO_len (Srd.all_at hx).1 (Srd.all_at hx).2
theorem cT_set {x : Hd} (hx : x ∈ Srd.all a) : cT a (fun h => p h || decide (h = x)) = (cT a p).take (x.2.toNat * 1) ++ [.bool true] ++ (cT a p).drop (x.2.toNat * 1 + 1) :=
 Srd.flat_upd (f := fun b (_ : Hd) => fB b) (c := 1) (fun _ _ => rfl) (Srd.all_at hx).1 (Srd.all_at hx).2
theorem cT_seg {x : Hd} (hx : x ∈ Srd.all a) : Seg (cT a p) (x.2.toNat * 1) [.bool (p x)] := flat_seg (f := fun h => fB (p h)) (fun _ => rfl) (Srd.all_at hx).1
end
def kE (T : List Hd) : List ((Int × Int) × Value) := T.map fun h => ((h.1.tr, h.1.sp), .bool true)
theorem kE_keys (T : List Hd) : (kE T).map (·.1) = T.map fun h : Hd => (h.1.tr, h.1.sp) := by
 unfold kE; rw [List.map_map]; rfl
theorem kE_snoc (T : List Hd) (x : Hd) : kE (T ++ [x]) = kE T ++ [((x.1.tr, x.1.sp), .bool true)] := by
 unfold kE; rw [List.map_append]; rfl
theorem ro_seg {a : Ab} (hO : Srd.Ok a) {s : Int} (hs : 0 ≤ s ∧ s ≤ 7) {ro : List Int} (hl : ro.length = 8) : Seg (ro.flatMap fI) (s.toNat * 1) (fI (Srd.roAt ro s)) := by
 refine flat_seg (f := fI) (fun _ => rfl) ?_
 unfold Srd.roAt
 rw [List.getD_eq_getElem?_getD, List.getElem?_eq_getElem (by omega)]
 rfl
theorem c_IxB {w0 : World} {v : Value} {n : Nat} (hv : SlC w0 1 v n ((List.replicate n true).flatMap fB)) (hl : n ≤ 1000000) : Calls Tryz.prog 106 #[v, .bool false] w0 (Ret fun r w' => Ext w0 w' ∧ r = .int .i64 (-1)) := by
 apply e_slices_Index_bool_bool
 unfold s_slices_Index_bool_bool
 have h := Hp.init [] w0
 refine leS (hv.hp h) ?_
 refine Lp1.mk (fun i W => ∃ j : Nat, j ≤ n ∧ i = .int .i64 j ∧ Hp [] w0 W []) (fun i _ => match i with | .int _ i' => n - i'.toNat | _ => 0) ⟨0, by omega, rfl, h⟩ ?_
 clear h
 rintro _ W ⟨j, hj, rfl, h⟩
 by_cases hjl : j < n
 ·have sx : Seg ((List.replicate n true).flatMap fB) (j * 1) (fB true) := flat_seg (f := fB) (fun _ => rfl) (by rw [List.getElem?_replicate, if_pos hjl])
  refine Bn_ltT (by omega) (If_T (iaH h ‹_› (by omega) fun zb zo zk zv zc => ?_))
  refine lh0 h ‹_› ‹_› (by rfl) ?_
  refine Bn_eqB (d := false) Tryz.underlying4 (by rfl) ?_
  refine If_F (Bn_ad (by omega) (by omega) ?_)
  exact ⟨⟨j + 1, by omega, rfl, h⟩, by show n - ((j : Int) + 1).toNat < n - (j : Int).toNat; omega⟩
 have hjl' : j = n := by omega
 subst hjl'
 refine Bn_ltF (by omega) (If_F ?_)
 exact Ret.mk ⟨h.ext, rfl⟩
theorem c_ContB {w0 : World} {v : Value} {n : Nat} (hv : SlC w0 1 v n ((List.replicate n true).flatMap fB)) (hl : n ≤ 1000000) : Calls Tryz.prog 80 #[v, .bool false] w0 (Ret fun r w' => Ext w0 w' ∧ r = .bool false) := by
 have cc1 := fun {W : World} (e : Ext w0 W) => c_IxB (w0 := W) (hv.ext e) hl
 apply e_slices_Contains_bool_bool
 unfold s_slices_Contains_bool_bool
 have h := Hp.init [] w0
 refine cl1 h n_slices_Index_bool_bool (cc1 h.ext) fun w h => ?_
 refine Bn_geF (by omega) ?_
 exact Ret.mk ⟨h.ext, rfl⟩
set_option maxHeartbeats 8000000 in
theorem c_all {w0 : World} {g : Nat} {x : Sx} {a : Ab} (hb : Blk w0 g tSt (cS x a)) (hR : ShR w0 x a) (hO : Srd.Ok a) :
 Calls Tryz.prog 43 #[pr g 0] w0 (Ret fun r w' => ∃ v, r = v ∧ Hp [] w0 w' [ro tHd 11 v a.A.length ((Srd.all a).flatMap fH)]) := by
 have hk := hO.k
 have hnA := hO.nA
 have hsv := hR.st
 have hrv := hR.ro
 have hrl := hO.ro.len
 have cc1 := fun {W : World} (_ : Ext w0 W) => c_mustT (w := W)
 apply e_shard_state_all
 unfold s_shard_state_all
 have h := Hp.init [] w0
 refine Nc_ok ?_
 refine faS (faS (lg1 h ‹_› (by rfl) ?_))
 refine msS fH hd0 rfl (by decide) h (n := a.A.length) (by omega) (by show a.A.length * 11 ≤ _; omega) fun vo w hvo h => ?_
 refine Nc_ok ?_
 refine faS (faS (lg1 h ‹_› (by rfl) ?_))
 refine msS fB false rfl (by decide) h (n := a.A.length) (by omega) (by show a.A.length * 1 ≤ _; omega) fun vt w hvt h => ?_
 refine Nc_ok ?_
 refine faS (faS (lg1 h ‹_› (by rfl) ?_))
 refine leS (hsv.hp h) ?_
 have e0 : ∀ y ∈ Srd.all a, plh a 0 [] y = false := fun y hy => Srd.plh_0 hO hy
 refine Lp1.mk (fun i W => ∃ j : Nat, j ≤ a.k ∧ i = .int .i64 j ∧ Hp [] w0 W [ro tBo 1 vt a.A.length (cT a (plh a j [])), ro tHd 11 vo a.A.length (cO a (plh a j []))]) (fun i _ => match i with | .int _ i' => a.k - i'.toNat | _ => 0) ⟨0, by omega, rfl, by rw [← cT_none (p := plh a ((0 : Nat) : Int) []) e0, ← cO_none (p := plh a ((0 : Nat) : Int) []) e0]; exact h⟩ ?_
 clear h
 rintro _ W ⟨i, hi, rfl, h⟩
 by_cases hik : i < a.k
 rotate_left
 ·have : i = a.k := by omega
  subst this
  have e1 : ∀ y ∈ Srd.all a, plh a a.k [] y = true := fun y hy => Srd.plh_all hO hy
  rw [cT_all e1, cO_all e1] at h
  refine Bn_ltF (by omega) (If_F (cl1 h n_slices_Contains_bool_bool (c_ContB (qZ 0 h rfl) (by omega)) fun w h => ?_))
  refine Un_F (cl1 h n_shard_must (cc1 h.ext) fun w h => ?_)
  exact Ret.mk ⟨_, rfl, h.drop 1⟩
 refine Exists.elim (hR.at hik) fun v hv => ?_
 have hvi := hv.2
 have sv : Seg (x.ls.flatMap fV) (i * 1) (fV v) := flat_seg (f := fV) (fun _ => rfl) hv.1
 have hsl : (Srd.store a i).length ≤ 400 := Nat.le_trans (Srd.store_len a i) hnA
 refine Bn_ltT (by omega) (If_T (iaH h ‹_› (by omega) fun zb zo zk zv zc => ?_))
 refine lh0 h ‹_› ‹_› (by rfl) ?_
 refine leS (hvi.hp h) ?_
 refine Bn_leT (by omega) (cl1 h n_shard_must (cc1 h.ext) fun w h => ?_)
 refine mfS h fun mb w h => ?_
 refine leS (hvi.hp h) ?_
 refine Lp1.mk (fun j W => ∃ n : Nat, n ≤ (Srd.store a i).length ∧ j = .int .i64 n ∧ Hp [] w0 W [mf kvA mb (kE ((Srd.store a i).take n)), ro tBo 1 vt a.A.length (cT a (plh a i ((Srd.store a i).take n))), ro tHd 11 vo a.A.length (cO a (plh a i ((Srd.store a i).take n)))])
  (fun j _ => match j with | .int _ j' => (Srd.store a i).length - j'.toNat | _ => 0) ⟨0, by omega, rfl, h⟩ ?_
 clear h
 rintro _ W ⟨j, hj, rfl, h⟩
 by_cases hjl : j < (Srd.store a i).length
 rotate_left
 ·have : j = (Srd.store a i).length := by omega
  subst this
  rw [List.take_length, cT_congr (q := plh a ((i : Int) + 1) []) (fun y hy => Srd.plh_end hy), cO_congr (q := plh a ((i : Int) + 1) []) (fun y hy => Srd.plh_end hy)] at h
  refine Bn_ltF (by omega) (If_F (Bn_ad (by omega) (by omega) ?_))
  exact ⟨⟨i + 1, by omega, rfl, h.drop 1⟩, by show a.k - ((i : Int) + 1).toNat < a.k - (i : Int).toNat; omega⟩
 refine Exists.elim (p := fun y => (Srd.store a i)[j]? = some y) ⟨_, List.getElem?_eq_getElem hjl⟩ fun y hy => ?_
 have sy : Seg ((Srd.store a i).flatMap fH) (j * 11) (fH y) := flat_seg (f := fH) (fun _ => rfl) hy
 have hya := (Srd.store_mem (List.mem_of_getElem? hy)).1
 have hym := Srd.all_mem hya
 have hvf := hO.vf _ hym.1
 have cc2 := fun {W : World} (_ : Ext w0 W) => c_VF (w0 := W) (FI.of hvf)
 rw [decide_eq_true hvf] at cc2
 have cc3 := fun {W : World} {n lo hi : Int} (_ : Ext w0 W) (h : lo ≤ n ∧ n ≤ hi) => c_inT (w := W) h
 have hin : 0 ≤ y.2 ∧ y.2 ≤ (a.A.length : Int) - 1 := by omega
 have hnew := Srd.keys_new hO hy
 rw [← kE_keys] at hnew
 have cc4 := fun {W : World} (_ : Ext w0 W) => c_Slot (w := W) hvf.1
 have hz : ∀ w, (zeroValue tBo).run Tryz.prog w = .ok (.bool false) w := fun w => by simp [go_sem]
 have sr : Seg (a.ro.flatMap fI) ((y.1.tr % 8).toNat * 1) (fI (Srd.roAt a.ro (y.1.tr % 8))) := ro_seg hO (Srd.slot_bd hvf) hrl
 have hpr : ∀ j' : Nat, j' + 1 = j → ∃ u, (Srd.store a i)[j']? = some u ∧ u.2 < y.2 := fun j' hj' => by
  have h1 : j' < (Srd.store a i).length := by omega
  refine ⟨_, List.getElem?_eq_getElem h1, ?_⟩
  have h2 := List.pairwise_iff_getElem.1 (Srd.store_asc a i) j' j h1 hjl (by omega)
  rwa [(List.getElem?_eq_some_iff.1 hy).2] at h2
 refine Bn_ltT (by omega) (If_T (iaH h ‹_› (by omega) fun zb zo zk zv zc => ?_))
 refine lhA h ‹_› ‹_› (by rfl) ?_
 refine alS h fun g1 w h => ?_
 refine stA h 0 rfl rfl rfl rfl fun w h => ?_
 refine faS (faS (ld1 h 0 rfl rfl (faS (faS (ld1 h 0 rfl rfl (bdS (PC.cons (by rfl) (PC.cons (by rfl) PC.nil)) (by rfl) ?_))))))
 refine alS h fun g2 w h => ?_
 refine stA h 0 rfl rfl rfl rfl fun w h => ?_
 replace h := h.dr
 refine dfS (dlA h 1 rfl rfl ?_)
 refine cl1 h n_trace_ValidFact (cc2 h.ext) fun w h => ?_
 refine GdP_T (dfS (GdP_T (dl1 h 1 rfl rfl (GdP_T (GdP_T (NcP_ok ?_))))))
 refine GdP_T (dfS (GdP_T (dfS (GdP_T (dg1 h ‹_› (by rfl) ?_)))))
 refine GdP_T (Dv_su (by omega) (by omega) (Gd_T (cl1 h n_shard_in (cc3 h.ext ‹_›) fun w h => ?_)))
 refine PickP_T (GdP_T (GdP_T ?_))
 dsimp only [List.set] at h
 revert h; revert w; apply meet
 ·intro w lfT h
  by_cases hj0 : j = 0
  ·refine Dv_eqT (by omega) (GdP_T (GdP_TF (GdP_TF (GdP_TF (GdP_TF (GdP_TF (GdP_TF (GdP_TF (GdP_TF (GdP_TF (GdP_T (PickP_T (PickP_T (GdP_T (GdP_T (dlA h 0 rfl rfl ?_))))))))))))))))
   refine GdP_T ?_
   exact lfT _ h
  ·refine Exists.elim (hpr (j - 1) (by omega)) fun u hu => ?_
   have su : Seg ((Srd.store a i).flatMap fH) (((j : Int) - 1).toNat * 11) (fH u) := by
    rw [show ((j : Int) - 1).toNat = j - 1 by omega]
    exact flat_seg (f := fH) (fun _ => rfl) hu.1
   have hlt := hu.2
   refine Dv_eqF (by omega) (GdP_T (GdP_F (GdP_F (GdP_F (Dv_su (by omega) (by omega) (GdP_F (diHz h ‹_› (by omega) (by omega) fun zb zo zk zv zc => ?_)))))))
   refine GdP_F (dfS (GdP_F (dh1 h ‹_› ‹_› (by rfl) ?_)))
   refine GdP_F (dfS (GdP_F (dl1 h 1 rfl rfl (GdP_F (Dv_ltT (by omega) (GdP_T (PickP_F (PickP_T (GdP_T (GdP_T (dlA h 0 rfl rfl ?_)))))))))))
   refine GdP_T ?_
   exact lfT _ h
 intro w h
 refine dlfZ (kv := kvA) (a := (y.1.tr, y.1.sp)) (h.get (i := 2) rfl) hz hnew ?_
 refine GdP_T (Dv_nF (PickP_T (cl1 h n_shard_must (cc1 h.ext) fun w h => ?_)))
 refine ldA h 0 rfl rfl ?_
 refine mfN (kv := kvA) (a := (y.1.tr, y.1.sp)) h 2 rfl hnew fun w h => ?_
 dsimp only [List.set] at h
 have hts : (Srd.store a i).take (j + 1) = (Srd.store a i).take j ++ [y] := by rw [List.take_add_one, hy]; rfl
 rw [← kE_snoc, ← hts] at h
 by_cases he : Srd.roAt a.ro (y.1.tr % 8) = i
 ·have sT : Seg (cT a (plh a i ((Srd.store a i).take j))) (y.2.toNat * 1) [.bool false] := by
   have := cT_seg (p := plh a i ((Srd.store a i).take j)) hya
   rwa [Srd.plh_new hy he] at this
  have ep : plh a i ((Srd.store a i).take (j + 1)) = fun z => plh a i ((Srd.store a i).take j) z || decide (z = y) := funext fun z => by rw [hts]; exact Srd.plh_set he
  have hlT : (cT a (plh a i ((Srd.store a i).take j))).length = a.A.length := by
   unfold cT
   rw [flat_len (f := fun h => fB (plh a i ((Srd.store a i).take j) h)) (c := 1) (fun _ => rfl), Srd.all_len, Nat.mul_one]
  have eT : (cT a (plh a i ((Srd.store a i).take j))).set (0 + y.2.toNat * 1) (.bool true) = cT a (plh a i ((Srd.store a i).take (j + 1))) := by
   rw [ep, cT_set hya, Nat.zero_add, List.set_eq_take_append_cons_drop, if_pos (by rw [hlT]; omega), List.append_assoc]
   rfl
  have eO : (cO a (plh a i ((Srd.store a i).take j))).take (0 + y.2.toNat * 11) ++ fH y ++ (cO a (plh a i ((Srd.store a i).take j))).drop (0 + y.2.toNat * 11 + (fH y).length) = cO a (plh a i ((Srd.store a i).take (j + 1))) := by
   rw [ep, cO_set hya, Nat.zero_add]
   rfl
  refine NcP_ok ?_
  replace h := h.dr
  refine dfS (dfS (dg1 h ‹_› (by rfl) ?_))
  refine dfS (dfS (dl1 h 1 rfl rfl (cl1 h n_shard_Slot (cc4 h.ext) fun w h => ?_)))
  refine kg1 h ‹_› (by rfl) ?_
  refine diHz h ‹_› (by omega) (by omega) fun zb zo zk zv zc => ?_
  refine dh0 h ‹_› ‹_› (by rfl) ?_
  refine Dv_eqT (by omega) (If_T (faS (ld1 h 1 rfl rfl (iaRz h 3 rfl (by omega) (by omega) fun zg zk zv => ?_))))
  refine lr0 h 3 rfl ‹_› sT (by rfl) ?_
  refine Un_F (cl1 h n_shard_must (cc1 h.ext) fun w h => ?_)
  replace h := h.dr
  refine dfS (dl1 h 1 rfl rfl (dfS (dl1 h 1 rfl rfl (dlA h 1 rfl rfl ?_))))
  refine diRz h 4 rfl (by omega) (by omega) fun zg zk zv => ?_
  refine stRA h 4 rfl ‹_› (by rfl) (by rfl) (by simp only [List.length_cons, List.length_nil]; omega) fun w h => ?_
  refine kl1 h 1 rfl rfl (diRz h 3 rfl (by omega) (by omega) fun zg zk zv => ?_)
  refine stR1 h 3 rfl ‹_› (by rfl) (by rfl) (by omega) fun w h => ?_
  refine Bn_ad (by omega) (by omega) ?_
  dsimp only [List.set] at h
  rw [eT, eO] at h
  exact ⟨⟨j + 1, by omega, rfl, h.drop 2⟩, by show (Srd.store a i).length - ((j : Int) + 1).toNat < (Srd.store a i).length - (j : Int).toNat; omega⟩
 ·have e1 : ∀ z ∈ Srd.all a, plh a i ((Srd.store a i).take j) z = plh a i ((Srd.store a i).take (j + 1)) z := fun z _ => by rw [hts]; exact (Srd.plh_skip he).symm
  rw [cT_congr e1, cO_congr e1] at h
  refine NcP_ok ?_
  replace h := h.dr
  refine dfS (dfS (dg1 h ‹_› (by rfl) ?_))
  refine dfS (dfS (dl1 h 1 rfl rfl (cl1 h n_shard_Slot (cc4 h.ext) fun w h => ?_)))
  refine kg1 h ‹_› (by rfl) ?_
  refine diHz h ‹_› (by omega) (by omega) fun zb zo zk zv zc => ?_
  refine dh0 h ‹_› ‹_› (by rfl) ?_
  refine Dv_eqF (by omega) (If_F (Bn_ad (by omega) (by omega) ?_))
  exact ⟨⟨j + 1, by omega, rfl, h.drop 2⟩, by show (Srd.store a i).length - ((j : Int) + 1).toNat < (Srd.store a i).length - (j : Int).toNat; omega⟩
end Go.Proofs.YthdhnhghjecfkaaGreat
namespace Go.Proofs.YthdhnhghjecfkaaGreat
open Go Go.Eng Go.Proofs Go.RowKit
open Go.Srd (Ft VF Hd Mv mv0 Rd Ab Cmd got ltF sam srt plh ofS)
set_option maxRecDepth 100000
theorem kept_map {l : List Hd} {p : Hd → Bool} : kept (l.map p) l = l.filter fun x => !p x := by
 unfold kept
 induction l with
 | nil => rfl
 | cons x l ih =>
  rw [List.map_cons, List.zip_cons_cons, List.filter_cons, List.filter_cons]
  cases p x
  ·simp only [Bool.not_false, if_true, List.map_cons, ih]
  ·simpa using ih
theorem Hp.QQ {S : List Nat} {w0 w W : World} {L : List Et} {e0 : Et} {g : Nat} (h : Hp S w0 w (e0 :: L)) (hg : g ∈ e0.ks) (hm : Mo [g] w W) : ∀ e ∈ L, e.Q W := fun e he => by
 refine ((h.ok e (by simp [he])).mv hm.size fun k hk hc => hm.block k hk fun hS => ?_).get
 have : k = g := by simpa using hS
 subst this
 rcases hc with hc | ⟨h1, h2⟩
 ·exact (List.pairwise_cons.1 h.nd).1 e he k hg hc
 ·rcases (h.ks e0 (by simp) k hg).2 with h3 | h3
  ·omega
  ·exact h2 h3
theorem Hp.one {S : List Nat} {w w' : World} {e : Et} (hm : Mo S w w') (hs : e.Simple) (hQ : e.Q w') (hk : ∀ k ∈ e.ks, k < w'.heap.size ∧ (w.heap.size ≤ k ∨ k ∈ S)) : Hp S w w' [e] where
 mo := hm
 ok := fun x hx => by rw [List.mem_singleton.1 hx]; exact hs _ _ _ hQ
 ks := fun x hx => by rw [List.mem_singleton.1 hx]; exact hk
 nd := List.pairwise_singleton _ _
theorem cl_del {S : List Nat} {w0 w : World} {L : List Et} {v : Value} {l : List Hd} {fn : FuncId} {caps : Array Value} {p : Hd → Bool} {pan : List PanicEntry → World → Prop} {K : Value → World → Prop} (h : Hp S w0 w (ro tHd 11 v l.length (l.flatMap fH) :: L)) (hl : l.length ≤ 1000) (hn : Enters Tryz.prog fn)
 (hp : ∀ {W x}, x ∈ l → (∀ e ∈ L, e.Q W) → Calls Tryz.prog fn (#[] ++ #[vH x] ++ caps) W (Ret fun r W' => Ext W W' ∧ r = .bool (p x)))
 (hk : ∀ u w1, Hp S w0 w1 (ro tHd 11 u (l.filter fun x => !p x).length ((l.filter fun x => !p x).flatMap fH) :: L) → K u w1) : Cl Tryz.prog 100 #[v, .func (.func fn) #[] caps] w pan K := by
 obtain ⟨h1, ⟨rfl, hn0⟩ | ⟨g, cap, cur, rfl, h3, h4, h5, h6, h7, h8⟩⟩ := (h.get (i := 0) rfl : World.ownsRow _ _ _ _ _ _ _)
 ·have e : l = [] := List.eq_nil_of_length_eq_zero hn0
  subst e
  have hA : Asks [] [] fn caps [] (fun _ W => Ext w W) := { len := rfl, keep := fun h hm => h.tr hm.ext, call := fun hx _ _ => by simp at hx }
  have hix := c_IxH (w0 := w) (v := .slice none 0 0) (l := []) (B := []) (bs := []) (I := fun _ W => Ext w W) hn hA (fun _ => ⟨rfl, .inl ⟨rfl, rfl⟩⟩) (by simp) (Ext.refl w)
  have hd : Calls Tryz.prog 100 #[.slice none 0 0, .func (.func fn) #[] caps] w (Ret fun r w' => Ext w w' ∧ r = .slice none 0 0) := by
   apply e_slices_DeleteFunc_api_Held_api_Held
   unfold s_slices_DeleteFunc_api_Held_api_Held
   refine Cl_i n_slices_IndexFunc_api_Held_api_Held hix ?_
   rintro _ w1 (⟨j, hj, _⟩ | ⟨_, rfl, x⟩)
   ·simp at hj
   ·have h := Hp.init [] w1
    refine Bn_eqT (by omega) (If_T ?_)
    exact Ret.mk ⟨x, rfl⟩
  exact cl1 h n_slices_DeleteFunc_api_Held_api_Held hd fun w1 h => hk _ w1 h
 ·have e : cur.toList = l.flatMap fH ++ cur.toList.drop (l.length * 11) := by rw [← h8, List.take_append_drop]
  have hb : Blk w g tHd (l.flatMap fH ++ cur.toList.drop (l.length * 11)) := by rw [← e]; simpa [Blk] using h4
  have hlen : (l.flatMap fH ++ cur.toList.drop (l.length * 11)).length = cap * 11 := by rw [← e, Array.length_toList, h7]
  have hg : g ∈ (ro tHd 11 (.slice (some ⟨g, 0, none⟩) l.length cap) l.length (l.flatMap fH)).ks := by simp [Value.ownBlock]
  have hA : AskD g [] l fn caps (l.map p) (fun _ W => Mo [g] w W) := by
   refine ⟨by rw [List.length_map], by simp, fun h hm => h.tr hm, fun {j x b W} hx hb hI => ?_⟩
   rw [List.getElem?_map, hx] at hb
   have hb : p x = b := by simpa using hb
   refine (hp (List.mem_of_getElem? hx) (Hp.QQ h hg hI)).mono fun e w' ⟨r, he, x', hr⟩ => ⟨r, he, Mo.of x', hI.tr (Mo.of x'), by rw [hr, hb]⟩
  refine Cl_i n_slices_DeleteFunc_api_Held_api_Held (c_DelH hn hA hlen h5 (by omega) (.refl _ _) (by simp) hb) ?_
  rintro _ w1 ⟨rfl, ⟨ys, hb1, hl1⟩, hI⟩
  rw [kept_map] at hb1 hl1 ⊢
  have hfl : (l.filter fun x => !p x).length ≤ l.length := List.length_filter_le _ _
  have hlf := flat_len (f := fH) (c := 11) (fun _ => rfl) (l.filter fun x => !p x)
  have hq : Hp [g] w w1 [bx g tHd ((l.filter fun x => !p x).flatMap fH ++ ys)] := Hp.one hI bx_sm hb1 fun k hk => by
   have : k = g := by simpa using hk
   subst this
   exact ⟨hb1.lt, .inr (by simp)⟩
  have hq2 := bx_ro (c := 11) (cap := cap) (m := (l.filter fun x => !p x).length) hq hl1 (by omega) h6
  rw [List.take_append_of_le_length (by rw [hlf]; exact Nat.le_refl _), List.take_of_length_le (by rw [hlf]; exact Nat.le_refl _)] at hq2
  refine hk _ w1 (Hp.call (Lc := [ro tHd 11 (.slice (some ⟨g, 0, none⟩) l.length cap) l.length (l.flatMap fH)]) (L' := [ro tHd 11 (.slice (some ⟨g, 0, none⟩) (l.filter fun x => !p x).length cap) (l.filter fun x => !p x).length ((l.filter fun x => !p x).flatMap fH)]) h ?_ fun e he => ?_)
  ·have e : ([ro tHd 11 (.slice (some ⟨g, 0, none⟩) l.length cap) l.length (l.flatMap fH)] : List Et).flatMap Et.ks = [g] := by simp [Value.ownBlock]
   rw [e]; exact hq2
  ·rw [List.mem_singleton.1 he]; exact ro_sm
theorem c_ofS1 {w0 : World} {g : Nat} {s : Int} {x : Hd} (hb : Blk w0 g tIn [.int .i64 s]) (hv : 0 ≤ x.1.tr ∧ x.1.tr ≤ 999) : Calls Tryz.prog 101 #[vH x, pr g 0] w0 (Ret fun r w' => Ext w0 w' ∧ r = .bool (!decide (Srd.slot x.1 = s))) := by
 have cc1 := fun {W : World} (_ : Ext w0 W) => c_Slot (w := W) hv
 apply e_shard_ofSlot_1
 unfold s_shard_ofSlot_1
 have h := Hp.init [] w0
 by_cases he : Srd.slot x.1 = s
 ·rw [decide_eq_true he]
  have he : x.1.tr % 8 = s := he
  refine bxA h fun g1 w h => ?_
  replace h := h.dr
  refine dfS (dfS (dl1 h 0 rfl rfl (dg1 h ‹_› (by rfl) ?_)))
  refine cl1 h n_shard_Slot (cc1 h.ext) fun w h => ?_
  refine kg1 h ‹_› (by rfl) ?_
  refine Dv_neF (by omega) ?_
  exact Ret.mk ⟨h.ext, rfl⟩
 ·rw [decide_eq_false he]
  have he : ¬ x.1.tr % 8 = s := he
  refine bxA h fun g1 w h => ?_
  replace h := h.dr
  refine dfS (dfS (dl1 h 0 rfl rfl (dg1 h ‹_› (by rfl) ?_)))
  refine cl1 h n_shard_Slot (cc1 h.ext) fun w h => ?_
  refine kg1 h ‹_› (by rfl) ?_
  refine Dv_neT (by omega) ?_
  exact Ret.mk ⟨h.ext, rfl⟩
theorem c_ofSlot {w0 : World} {v : Value} {l : List Hd} {s : Int} (hv : SlC w0 11 v l.length (l.flatMap fH)) (hl : l.length ≤ 1000) (ht : ∀ x ∈ l, 0 ≤ x.1.tr ∧ x.1.tr ≤ 999) :
 Calls Tryz.prog 61 #[v, .int .i64 s] w0 (Ret fun r w' => ∃ u, r = u ∧ Hp [] w0 w' [ro tHd 11 u (ofS s l).length ((ofS s l).flatMap fH)]) := by
 have cr1 := fun {W : World} (e : Ext w0 W) => c_CloneHd (w0 := W) (hv.ext e) (by omega)
 apply e_shard_ofSlot
 unfold s_shard_ofSlot
 have h := Hp.init [] w0
 refine bxA h fun g1 w h => ?_
 refine clR h n_slices_Clone_api_Held_api_Held (cr1 h.ext) fun v1 w h => ?_
 refine cl_del (p := fun x => !decide (Srd.slot x.1 = s)) h hl n_shard_ofSlot_1 (fun {W x} hx hQ => c_ofS1 (hQ (bx g1 tIn [.int .i64 s]) (by simp)) (ht x hx)) fun u w h => ?_
 have e : (l.filter fun x => !!decide (Srd.slot x.1 = s)) = ofS s l := by
  unfold Srd.ofS
  congr 1
  funext x
  rw [Bool.not_not]
 rw [e] at h
 exact Ret.mk ⟨_, rfl, h.pick [0] (by decide) rfl⟩
theorem tr_store {a : Ab} (hO : Srd.Ok a) {i : Int} : ∀ x ∈ Srd.store a i, 0 ≤ x.1.tr ∧ x.1.tr ≤ 999 := fun x hx => (hO.vf _ (Srd.all_mem (Srd.store_mem hx).1).1).1
theorem c_move1 {w0 : World} {g : Nat} {m : Mv} {x : Hd} (hb : Blk w0 g tMv [.int .i64 m.ph, .int .i64 m.sl, .int .i64 m.fr, .int .i64 m.to, .int .i64 m.cp]) : Calls Tryz.prog 119 #[vH x, pr g 0] w0 (Ret fun r w' => Ext w0 w' ∧ r = .bool (decide (m.cp < x.2))) := by
 apply e_shard_state_move_1
 unfold s_shard_state_move_1
 have h := Hp.init [] w0
 by_cases he : m.cp < x.2
 ·rw [decide_eq_true he]
  refine bxA h fun g1 w h => ?_
  refine faS (ld1 h 0 rfl rfl (faS (lg1 h ‹_› (by rfl) ?_)))
  refine Bn_gtT (by omega) ?_
  exact Ret.mk ⟨h.ext, rfl⟩
 ·rw [decide_eq_false he]
  refine bxA h fun g1 w h => ?_
  refine faS (ld1 h 0 rfl rfl (faS (lg1 h ‹_› (by rfl) ?_)))
  refine Bn_gtF (by omega) ?_
  exact Ret.mk ⟨h.ext, rfl⟩
theorem c_move2 {w0 : World} {g s0 g2 : Nat} {x : Sx} {a : Ab} {y : Hd} (hb : Blk w0 g tSt (cS x a)) (hR : ShR w0 x a) (hO : Srd.Ok a) (hp : Blk w0 s0 84 [pr g 0]) (hm : Blk w0 g2 tMv [.int .i64 a.mv.ph, .int .i64 a.mv.sl, .int .i64 a.mv.fr, .int .i64 a.mv.to, .int .i64 a.mv.cp]) (h0 : a.mv.ph ≠ 0) (hy : y ∈ Srd.store a a.mv.to) :
 Calls Tryz.prog 120 #[vH y, pr s0 0, pr g2 0] w0 (Ret fun r w' => Ext w0 w' ∧ r = .bool false) := by
 have hto := hO.mv.to h0
 have hsv := hR.st
 have hk := hO.k
 refine Exists.elim (hR.at (i := a.mv.to.toNat) (by omega)) fun v hv => ?_
 have hvi := hv.2
 rw [show ((a.mv.to.toNat : Nat) : Int) = a.mv.to by omega] at hvi
 have sv : Seg (x.ls.flatMap fV) (a.mv.to.toNat * 1) (fV v) := flat_seg (f := fV) (fun _ => rfl) hv.1
 have hany : (Srd.store a a.mv.to).any (fun z => decide (y = z)) = true := List.any_eq_true.2 ⟨y, hy, decide_eq_true rfl⟩
 have hsl : (Srd.store a a.mv.to).length ≤ 400 := Nat.le_trans (Srd.store_len a a.mv.to) hO.nA
 have cc1 := fun {W : World} (e : Ext w0 W) => c_ContHd (w0 := W) (x := y) (hvi.ext e) (by omega)
 rw [hany] at cc1
 apply e_shard_state_move_2
 unfold s_shard_state_move_2
 have h := Hp.init [] w0
 refine bxA h fun g1 w h => ?_
 replace h := h.dr
 refine dg1 h ‹_› (by rfl) ?_
 refine NcP_ok ?_
 refine dfS (dfS (dg1 h ‹_› (by rfl) ?_))
 refine dfS (dg1 h ‹_› (by rfl) ?_)
 refine diHz h ‹_› (by omega) (by omega) fun zb zo zk zv zc => ?_
 refine dh0 h ‹_› ‹_› (by rfl) ?_
 refine dlA h 0 rfl rfl ?_
 refine cl1 h n_slices_Contains_api_Held_api_Held (cc1 h.ext) fun w h => ?_
 refine Dv_nT ?_
 exact Ret.mk ⟨h.ext, rfl⟩
theorem Jn0.lf {S : List Nat} {w0 w : World} {L : List Et} {A : (World → Prop) → Prop} {B : World → Prop} (h : Hp S w0 w L) (hA : ∀ K : World → Prop, (∀ w1, Hp S w0 w1 L → K w1) → A K) (hB : ∀ w1, Hp S w0 w1 L → B w1) : Jn0 A B :=
 Jn0.mk fun K hK => hA K fun w1 h1 => hK w1 (hB w1 h1)
abbrev fM (m : Mv) : List Value := [.int .i64 m.ph, .int .i64 m.sl, .int .i64 m.fr, .int .i64 m.to, .int .i64 m.cp]
set_option maxHeartbeats 16000000 in
theorem c_move {w0 : World} {g : Nat} {x : Sx} {a : Ab} (hb : Blk w0 g tSt (cS x a)) (hR : ShR w0 x a) (hO : Srd.Ok a) : Calls Tryz.prog 85 #[pr g 0] w0 (Ret fun r w' => Ext w0 w' ∧ r = .tuple #[]) := by
 have hk := hO.k
 have hnA := hO.nA
 have hsv := hR.st
 have hrv := hR.ro
 have hrl := hO.ro.len
 have hm := hO.mv
 have cc1 := fun {W : World} (_ : Ext w0 W) => c_mustT (w := W)
 have cc3 := fun {W : World} {n lo hi : Int} (_ : Ext w0 W) (h : lo ≤ n ∧ n ≤ hi) => c_inT (w := W) h
 obtain ⟨F, hF⟩ : ∃ F : Int, F = if a.mv.ph = 2 then a.mv.fr else -1 := ⟨_, rfl⟩
 obtain ⟨T, hT⟩ : ∃ T : Int, T = if a.mv.ph = 1 then a.mv.to else -1 := ⟨_, rfl⟩
 apply e_shard_state_move
 unfold s_shard_state_move
 have h := Hp.init [] w0
 refine bxA h fun g1 w h => ?_
 refine ld1 h 0 rfl rfl (Nc_ok ?_)
 refine faS (faS (lgA h ‹_› (by rfl) ?_))
 refine alS h fun g2 w h => ?_
 refine stA h 0 rfl rfl rfl rfl fun w h => ?_
 dsimp only [List.set] at h
 refine Jn2.lf (.int .i64 F) (.int .i64 T) h (fun K lf1 => ?_) (fun w h => ?_)
 ·by_cases h0 : a.mv.ph = 0
  ·have e1 : F = -1 := by rw [hF, if_neg (by omega)]
   have e2 : T = -1 := by rw [hT, if_neg (by omega)]
   rw [e1, e2] at lf1
   have ez := hm.z h0
   refine faS (ld1 h 0 rfl rfl (Bn_eqT (by omega) (If_T (ldA h 0 rfl rfl ?_))))
   refine bdS PC.nil (by rfl) ?_
   refine eqMv (x := a.mv) (y := mv0) ?_
   rw [decide_eq_true ez]
   refine cl1 h n_shard_must (cc1 h.ext) fun w h => ?_
   exact lf1 _ h
  ·have h7 := hm.sl h0
   have h8 := hm.fr h0
   have h9 := hm.to h0
   have hne := hm.ne h0
   have p1 : 0 ≤ a.mv.sl ∧ a.mv.sl ≤ 7 := h7
   have p2 : 0 ≤ a.mv.fr ∧ a.mv.fr ≤ (a.k : Int) - 1 := by omega
   have p3 : 0 ≤ a.mv.to ∧ a.mv.to ≤ (a.k : Int) - 1 := by omega
   have hph := hm.ph
   refine faS (ld1 h 0 rfl rfl (Bn_eqF (by omega) (If_F ?_)))
   refine Jn1.lf (.bool true) h (fun K lf2 => ?_) (fun w h => ?_)
   ·by_cases h1 : a.mv.ph = 1
    ·refine Bn_eqT (by omega) (If_T ?_)
     exact lf2 _ h
    ·refine Bn_eqF (by omega) (If_F (Bn_eqT (by omega) ?_))
     exact lf2 _ h
   ·refine If_T ?_
    replace h := h.dr
    refine dfS (dl1 h 0 rfl rfl (cl1 h n_shard_in (cc3 h.ext ‹_›) fun w h => ?_))
    refine GdP_T (dfS (GdP_T (dl1 h 0 rfl rfl (GdP_T (dl1 h 1 rfl rfl (GdP_T (NcP_ok ?_)))))))
    refine GdP_T (dfS (GdP_T (dfS (GdP_T (dg1 h ‹_› (by rfl) ?_)))))
    refine GdP_T (dlS (hsv.hp h) ?_)
    refine GdP_T (Dv_su (by omega) (by omega) (Gd_T (cl1 h n_shard_in (cc3 h.ext ‹_›) fun w h => ?_)))
    refine PickP_T (GdP_T (dfS (GdP_T (dl1 h 0 rfl rfl (GdP_T (dl1 h 1 rfl rfl (GdP_T (NcP_ok ?_))))))))
    refine GdP_T (dfS (GdP_T (dfS (GdP_T (dg1 h ‹_› (by rfl) ?_)))))
    refine GdP_T (dlS (hsv.hp h) ?_)
    refine GdP_T (Dv_su (by omega) (by omega) (Gd_T (cl1 h n_shard_in (cc3 h.ext ‹_›) fun w h => ?_)))
    refine PickP_T (GdP_T (dfS (GdP_T (dl1 h 0 rfl rfl (GdP_T (dfS (GdP_T (dl1 h 0 rfl rfl (GdP_T (Dv_neT (by omega) (PickP_T (cl1 h n_shard_must (cc1 h.ext) fun w h => ?_))))))))))))
    refine faS (ld1 h 0 rfl rfl ?_)
    by_cases h1 : a.mv.ph = 1
    ·have e1 : F = -1 := by rw [hF, if_neg (by omega)]
     have e2 : T = a.mv.to := by rw [hT, if_pos h1]
     rw [e1, e2] at lf1
     refine Bn_eqT (by omega) (If_T (faS (ld1 h 0 rfl rfl ?_)))
     exact lf1 _ h
    ·have e1 : F = a.mv.fr := by rw [hF, if_pos (by omega)]
     have e2 : T = -1 := by rw [hT, if_neg h1]
     rw [e1, e2] at lf1
     refine Bn_eqF (by omega) (If_F (faS (ld1 h 0 rfl rfl ?_)))
     exact lf1 _ h
 refine ld1 h 1 rfl rfl (Nc_ok ?_)
 refine faS (faS (lg1 h ‹_› (by rfl) ?_))
 refine leS (hsv.hp h) ?_
 refine Lp1.mk (fun i W => ∃ j : Nat, j ≤ a.k ∧ i = .int .i64 j ∧ Hp [] w0 W [bx g2 tMv (fM a.mv), bx g1 84 [pr g 0]]) (fun i _ => match i with | .int _ i' => a.k - i'.toNat | _ => 0) ⟨0, by omega, rfl, h⟩ ?_
 clear h
 rintro _ W ⟨i, hi, rfl, h⟩
 by_cases hik : i < a.k
 ·refine Exists.elim (hR.at hik) fun v hv => ?_
  have hvi := hv.2
  have sv : Seg (x.ls.flatMap fV) (i * 1) (fV v) := flat_seg (f := fV) (fun _ => rfl) hv.1
  have hsl : (Srd.store a i).length ≤ 400 := Nat.le_trans (Srd.store_len a i) hnA
  refine Bn_ltT (by omega) (If_T (iaH h ‹_› (by omega) fun zb zo zk zv zc => ?_))
  refine lh0 h ‹_› ‹_› (by rfl) ?_
  refine leS (hvi.hp h) ?_
  refine Lp1.mk (fun j W => ∃ n : Nat, n ≤ (Srd.store a i).length ∧ j = .int .i64 n ∧ Hp [] w0 W [bx g2 tMv (fM a.mv), bx g1 84 [pr g 0]])
   (fun j _ => match j with | .int _ j' => (Srd.store a i).length - j'.toNat | _ => 0) ⟨0, by omega, rfl, h⟩ ?_
  clear h
  rintro _ W ⟨j, hj, rfl, h⟩
  by_cases hjl : j < (Srd.store a i).length
  rotate_left
  ·refine Bn_ltF (by omega) (If_F (Bn_ad (by omega) (by omega) ?_))
   exact ⟨⟨i + 1, by omega, rfl, h⟩, by show a.k - ((i : Int) + 1).toNat < a.k - (i : Int).toNat; omega⟩
  refine Exists.elim (p := fun y => (Srd.store a i)[j]? = some y) ⟨_, List.getElem?_eq_getElem hjl⟩ fun y hy => ?_
  have sy : Seg ((Srd.store a i).flatMap fH) (j * 11) (fH y) := flat_seg (f := fH) (fun _ => rfl) hy
  have hyo := Srd.store_mem (List.mem_of_getElem? hy)
  have hvf := hO.vf _ (Srd.all_mem hyo.1).1
  have sr : Seg (a.ro.flatMap fI) ((y.1.tr % 8).toNat * 1) (fI (Srd.roAt a.ro (y.1.tr % 8))) := ro_seg hO (Srd.slot_bd hvf) hrl
  have cc4 := fun {W : World} (_ : Ext w0 W) => c_Slot (w := W) hvf.1
  by_cases he : Srd.roAt a.ro (y.1.tr % 8) = i
  ·refine Bn_ltT (by omega) (If_T (iaH h ‹_› (by omega) fun zb zo zk zv zc => ?_))
   refine lhA h ‹_› ‹_› (by rfl) ?_
   refine alS h fun g3 w h => ?_
   refine stA h 0 rfl rfl rfl rfl fun w h => ?_
   refine faS (faS (ld1 h 0 rfl rfl (cl1 h n_shard_Slot (cc4 h.ext) fun w h => ?_)))
   refine ld1 h 2 rfl rfl (Nc_ok ?_)
   refine faS (faS (lg1 h ‹_› (by rfl) ?_))
   refine iaHz h ‹_› (by omega) (by omega) fun zb zo zk zv zc => ?_
   refine lh0 h ‹_› ‹_› (by rfl) ?_
   refine Bn_eqT (by omega) (Gd_TF (Gd_TF (Gd_TF (Gd_TF (Gd_TF (Gd_U (Gd_U (Gd_U (Gd_U (Gd_U (Gd_U (Gd_U (Gd_U (Gd_TF (Pick_T (cl1 h n_shard_must (cc1 h.ext) fun w h => ?_))))))))))))))))
   refine Bn_ad (by omega) (by omega) ?_
   dsimp only [List.set] at h
   exact ⟨⟨j + 1, by omega, rfl, h.drop 1⟩, by show (Srd.store a i).length - ((j : Int) + 1).toNat < (Srd.store a i).length - (j : Int).toNat; omega⟩
  ·have hw := (Srd.own_why hyo.2).resolve_left he
   have hs : y.1.tr % 8 = a.mv.sl := hw.1
   by_cases hf : (i : Int) = F
   ·refine Bn_ltT (by omega) (If_T (iaH h ‹_› (by omega) fun zb zo zk zv zc => ?_))
    refine lhA h ‹_› ‹_› (by rfl) ?_
    refine alS h fun g3 w h => ?_
    refine stA h 0 rfl rfl rfl rfl fun w h => ?_
    refine faS (faS (ld1 h 0 rfl rfl (cl1 h n_shard_Slot (cc4 h.ext) fun w h => ?_)))
    refine ld1 h 2 rfl rfl (Nc_ok ?_)
    refine faS (faS (lg1 h ‹_› (by rfl) ?_))
    refine iaHz h ‹_› (by omega) (by omega) fun zb zo zk zv zc => ?_
    refine lh0 h ‹_› ‹_› (by rfl) ?_
    refine Bn_eqF (by omega) (Gd_F (Gd_F (faS (Gd_F (ld1 h 1 rfl rfl (Gd_F (Bn_eqT (by omega) (Gd_F (Gd_T (Gd_T (Gd_T (Bn_eqT (by omega) (Gd_T (Gd_TF (Gd_TF (Gd_TF (Gd_T (Pick_T (Gd_F (Pick_T (Pick_F (cl1 h n_shard_must (cc1 h.ext) fun w h => ?_))))))))))))))))))))))
    refine Bn_ad (by omega) (by omega) ?_
    dsimp only [List.set] at h
    exact ⟨⟨j + 1, by omega, rfl, h.drop 1⟩, by show (Srd.store a i).length - ((j : Int) + 1).toNat < (Srd.store a i).length - (j : Int).toNat; omega⟩
   ·have ht : (i : Int) = T := by
     rcases hw.2 with ⟨h1, h2⟩ | ⟨h1, h2⟩
     ·rw [hT, if_pos h1]; exact h2
     ·rw [if_pos h1] at hF; omega
    refine Bn_ltT (by omega) (If_T (iaH h ‹_› (by omega) fun zb zo zk zv zc => ?_))
    refine lhA h ‹_› ‹_› (by rfl) ?_
    refine alS h fun g3 w h => ?_
    refine stA h 0 rfl rfl rfl rfl fun w h => ?_
    refine faS (faS (ld1 h 0 rfl rfl (cl1 h n_shard_Slot (cc4 h.ext) fun w h => ?_)))
    refine ld1 h 2 rfl rfl (Nc_ok ?_)
    refine faS (faS (lg1 h ‹_› (by rfl) ?_))
    refine iaHz h ‹_› (by omega) (by omega) fun zb zo zk zv zc => ?_
    refine lh0 h ‹_› ‹_› (by rfl) ?_
    refine Bn_eqF (by omega) (Gd_F (Gd_F (faS (Gd_F (ld1 h 1 rfl rfl (Gd_F (Bn_eqT (by omega) (Gd_F (Gd_T (Gd_T (Gd_T (Bn_eqF (by omega) (Gd_T (Gd_F (Gd_F (Gd_F (Bn_eqT (by omega) (Gd_T (Pick_F (Gd_F (Pick_T (Pick_F (cl1 h n_shard_must (cc1 h.ext) fun w h => ?_)))))))))))))))))))))))
    refine Bn_ad (by omega) (by omega) ?_
    dsimp only [List.set] at h
    exact ⟨⟨j + 1, by omega, rfl, h.drop 1⟩, by show (Srd.store a i).length - ((j : Int) + 1).toNat < (Srd.store a i).length - (j : Int).toNat; omega⟩
 have : i = a.k := by omega
 subst this
 refine Bn_ltF (by omega) (If_F ?_)
 refine Jn0.lf h (fun K lf3 => ?_) (fun w h => ?_)
 ·by_cases h1 : a.mv.ph = 1
  ·have h0 : a.mv.ph ≠ 0 := by omega
   have h7 := hm.sl h0
   have h8 := hm.fr h0
   have h9 := hm.to h0
   have hc := hm.c1 h1
   have hc1 := hc.1
   have p4 : -1 ≤ a.mv.cp ∧ a.mv.cp ≤ (a.A.length : Int) - 1 := by omega
   refine Exists.elim (hR.at (i := a.mv.fr.toNat) (by omega)) fun vf hvf => ?_
   refine Exists.elim (hR.at (i := a.mv.to.toNat) (by omega)) fun vt hvt => ?_
   have hf2 := hvf.2
   have ht2 := hvt.2
   rw [show ((a.mv.fr.toNat : Nat) : Int) = a.mv.fr by omega] at hf2
   rw [show ((a.mv.to.toNat : Nat) : Int) = a.mv.to by omega] at ht2
   have sf : Seg (x.ls.flatMap fV) (a.mv.fr.toNat * 1) (fV vf) := flat_seg (f := fV) (fun _ => rfl) hvf.1
   have st : Seg (x.ls.flatMap fV) (a.mv.to.toNat * 1) (fV vt) := flat_seg (f := fV) (fun _ => rfl) hvt.1
   have sr : Seg (a.ro.flatMap fI) (a.mv.sl.toNat * 1) (fI (Srd.roAt a.ro a.mv.sl)) := ro_seg hO h7 hrl
   have hlf : (Srd.store a a.mv.fr).length ≤ 400 := Nat.le_trans (Srd.store_len a a.mv.fr) hnA
   have hlt : (Srd.store a a.mv.to).length ≤ 400 := Nat.le_trans (Srd.store_len a a.mv.to) hnA
   have hlo : ∀ l : List Hd, (ofS a.mv.sl l).length ≤ l.length := fun l => List.length_filter_le _ _
   have hl1 := hlo (Srd.store a a.mv.fr)
   have hl2 := hlo (Srd.store a a.mv.to)
   have cr5 := fun {W : World} (e : Ext w0 W) => c_ofSlot (w0 := W) (s := a.mv.sl) (hf2.ext e) (by omega) (tr_store hO)
   have cr6 := fun {W : World} (e : Ext w0 W) => c_ofSlot (w0 := W) (s := a.mv.sl) (ht2.ext e) (by omega) (tr_store hO)
   refine faS (ld1 h 0 rfl rfl (Bn_eqT (by omega) (If_T ?_)))
   replace h := h.dr
   refine dl1 h 1 rfl rfl (NcP_ok ?_)
   refine dfS (dfS (dg1 h ‹_› (by rfl) ?_))
   refine dfS (dl1 h 0 rfl rfl (diHz h ‹_› (by omega) (by omega) fun zb zo zk zv zc => ?_))
   refine dh0 h ‹_› ‹_› (by rfl) ?_
   refine dfS (dl1 h 0 rfl rfl (clR h n_shard_ofSlot (cr5 h.ext) fun v1 w h => ?_))
   refine cl_del (p := fun y => decide (a.mv.cp < y.2)) h (by omega) n_shard_state_move_1 (fun {W y} hy hQ => c_move1 (m := a.mv) (hQ (bx g2 tMv (fM a.mv)) (by simp))) fun u w h => ?_
   have e : ((ofS a.mv.sl (Srd.store a a.mv.fr)).filter fun y => !decide (a.mv.cp < y.2)) = ofS a.mv.sl (Srd.store a a.mv.to) := by
    rw [← Srd.copy_same hO h1]
    refine List.filter_congr fun y _ => ?_
    by_cases hy : a.mv.cp < y.2
    ·simp [hy]
    ·simp [hy]; omega
   rw [e] at h
   replace h := h.dr
   refine dl1 h 2 rfl rfl (NcP_ok ?_)
   refine dfS (dfS (dg1 h ‹_› (by rfl) ?_))
   refine dfS (dl1 h 1 rfl rfl (diHz h ‹_› (by omega) (by omega) fun zb zo zk zv zc => ?_))
   refine dh0 h ‹_› ‹_› (by rfl) ?_
   refine dfS (dl1 h 1 rfl rfl (Dv_eqT (by omega) (GdP_T (dfS (GdP_T (dl1 h 1 rfl rfl (GdP_T (dl1 h 2 rfl rfl (GdP_T (NcP_ok ?_))))))))))
   refine GdP_T (dfS (GdP_T (dfS (GdP_T (dg1 h ‹_› (by rfl) ?_)))))
   refine GdP_T (Dv_su (by omega) (by omega) (Gd_T (cl1 h n_shard_in (cc3 h.ext ‹_›) fun w h => ?_)))
   refine PickP_T (GdP_T (GdP_T (dl1 h 2 rfl rfl (GdP_T (NcP_ok ?_)))))
   refine GdP_T (dfS (GdP_T (dfS (GdP_T (dg1 h ‹_› (by rfl) ?_)))))
   refine GdP_T (dfS (GdP_T (dl1 h 1 rfl rfl (GdP_T (diHz h ‹_› (by omega) (by omega) fun zb zo zk zv zc => ?_)))))
   refine GdP_T (dh0 h ‹_› ‹_› (by rfl) ?_)
   refine GdP_T (dfS (GdP_T (dl1 h 1 rfl rfl (Gd_T (clR h n_shard_ofSlot (cr6 h.ext) fun v2 w h => ?_)))))
   refine Gd_T (cl1 h n_slices_Equal_api_Held_api_Held (c_EqHd (qZ 1 h rfl) (qZ 0 h rfl) (by omega)) fun w h => ?_)
   refine PickP_T (cl1 h n_shard_must (cc1 h.ext) fun w h => ?_)
   exact lf3 _ (h.pick [2, 3] (by decide) rfl)
  ·refine faS (ld1 h 0 rfl rfl (Bn_eqF (by omega) (If_F ?_)))
   exact lf3 _ h
 ·by_cases h2 : a.mv.ph = 2
  ·have h0 : a.mv.ph ≠ 0 := by omega
   have h7 := hm.sl h0
   have h8 := hm.fr h0
   have hc := hm.c2 h2
   have hc1 := hc.1
   have hc2 := hc.2.1
   have hd := Srd.drop_in hO h2
   refine Exists.elim (hR.at (i := a.mv.fr.toNat) (by omega)) fun vf hvf => ?_
   have hf2 := hvf.2
   rw [show ((a.mv.fr.toNat : Nat) : Int) = a.mv.fr by omega] at hf2
   have sf : Seg (x.ls.flatMap fV) (a.mv.fr.toNat * 1) (fV vf) := flat_seg (f := fV) (fun _ => rfl) hvf.1
   have sr : Seg (a.ro.flatMap fI) (a.mv.sl.toNat * 1) (fI (Srd.roAt a.ro a.mv.sl)) := ro_seg hO h7 hrl
   have hlf : (Srd.store a a.mv.fr).length ≤ 400 := Nat.le_trans (Srd.store_len a a.mv.fr) hnA
   have hl1 : (ofS a.mv.sl (Srd.store a a.mv.fr)).length ≤ (Srd.store a a.mv.fr).length := List.length_filter_le _ _
   have hpos : 0 < (ofS a.mv.sl (Srd.store a a.mv.fr)).length := List.length_pos_iff.2 hd.2
   have cr5 := fun {W : World} (e : Ext w0 W) => c_ofSlot (w0 := W) (s := a.mv.sl) (hf2.ext e) (by omega) (tr_store hO)
   refine faS (ld1 h 0 rfl rfl (Bn_eqT (by omega) (If_T ?_)))
   replace h := h.dr
   refine dl1 h 1 rfl rfl (NcP_ok ?_)
   refine dfS (dfS (dg1 h ‹_› (by rfl) ?_))
   refine dfS (dl1 h 0 rfl rfl (diHz h ‹_› (by omega) (by omega) fun zb zo zk zv zc => ?_))
   refine dh0 h ‹_› ‹_› (by rfl) ?_
   refine dfS (dl1 h 0 rfl rfl (clR h n_shard_ofSlot (cr5 h.ext) fun v1 w h => ?_))
   replace h := h.dr
   refine dl1 h 2 rfl rfl (NcP_ok ?_)
   refine dfS (dfS (dg1 h ‹_› (by rfl) ?_))
   refine dfS (dl1 h 1 rfl rfl (diHz h ‹_› (by omega) (by omega) fun zb zo zk zv zc => ?_))
   refine dh0 h ‹_› ‹_› (by rfl) ?_
   refine dfS (dl1 h 1 rfl rfl (Dv_eqT (by omega) (GdP_T (dfS (GdP_T (dl1 h 1 rfl rfl (GdP_T (Dv_eqT (by omega) (PickP_T (GdP_T (GdP_T (dlS (qZ 0 h rfl) ?_))))))))))))
   refine GdP_T (Dv_gtT (by omega) (PickP_T (GdP_T (GdP_T (Gd_T ?_)))))
   have hany : (ofS a.mv.sl (Srd.store a a.mv.fr)).any (fun _ => false) = false := by simp
   have hc := c_CoHd (w0 := w.drew) (p := fun _ => false) (caps := #[pr g1 0, pr g2 0]) (qZ 0 h rfl) (by omega) n_shard_state_move_2 fun {W y} hy e => c_move2 (Blk.ext hb (h.ext.tr e)) (hR.ext (h.ext.tr e)) hO (Blk.ext (h.get (i := 2) rfl) e) (Blk.ext (h.get (i := 1) rfl) e) h0 (hd.1 y hy)
   rw [hany] at hc
   refine cl1 h n_slices_ContainsFunc_api_Held_api_Held hc fun w h => ?_
   refine GdP_T (Dv_nF (PickP_T (cl1 h n_shard_must (cc1 h.ext) fun w h => ?_)))
   exact Ret.mk ⟨h.ext, rfl⟩
  ·refine faS (ld1 h 0 rfl rfl (Bn_eqF (by omega) (If_F ?_)))
   exact Ret.mk ⟨h.ext, rfl⟩
end Go.Proofs.YthdhnhghjecfkaaGreat
namespace Go.Proofs.YthdhnhghjecfkaaGreat
open Go Go.Eng Go.Proofs Go.RowKit
open Go.Srd (Ft VF Hd Mv mv0 Rd Ab Cmd got ltF sam srt plh ofS gotL)
set_option maxRecDepth 100000
set_option maxHeartbeats 16000000 in
theorem c_reader {w0 : World} {g : Nat} {x : Sx} {a : Ab} {r : Rd} {rv gv av : Value} (hb : Blk w0 g tSt (cS x a)) (hR : ShR w0 x a) (hO : Srd.Ok a) (hr : r ∈ a.rd) (h1 : SlC w0 1 rv r.ro.length (r.ro.flatMap fI)) (h2 : SlC w0 10 gv (got a r).length ((got a r).flatMap fF)) (hav : SlC w0 11 av a.A.length ((Srd.all a).flatMap fH)) :
 Calls Tryz.prog 86 #[pr g 0, .agg #[.int .i64 r.id, .int .i64 r.up, rv, .int .i64 r.nx, gv], av] w0 (Ret fun r w' => Ext w0 w' ∧ r = .tuple #[]) := by
 have hk := hO.k
 have hnA := hO.nA
 have hsv := hR.st
 have ho := hO.rd r hr
 have hrl := ho.ro.len
 have hup := ho.up
 have hid := ho.id
 have hnx := ho.nx
 have p2 : 0 ≤ r.nx ∧ r.nx ≤ (a.k : Int) - 1 := by omega
 have cc1 := fun {W : World} (_ : Ext w0 W) => c_mustT (w := W)
 have cc3 := fun {W : World} {n lo hi : Int} (_ : Ext w0 W) (h : lo ≤ n ∧ n ≤ hi) => c_inT (w := W) h
 have cc2 := fun {W : World} (e : Ext w0 W) => c_route (w0 := W) (Blk.ext hb e) (hR.ext e) (by omega) (h1.ext e) ho.ro
 have hone1 := (slc_c1 h1).2
 have hone2 := (slc_c1 h2).2
 apply e_shard_state_reader
 unfold s_shard_state_reader
 have h := Hp.init [] w0
 refine bxA h fun g1 w h => ?_
 replace h := h.dr
 refine dfS (dl1 h 0 rfl rfl (cl1 h n_shard_in (cc3 h.ext ‹_›) fun w h => ?_))
 refine GdP_T (dfS (GdP_T (dl1 h 0 rfl rfl (GdP_T (GdP_T (NcP_ok ?_))))))
 refine GdP_T (dfS (GdP_T (dfS (GdP_T (dg1 h ‹_› (by rfl) ?_)))))
 refine Gd_T (cl1 h n_shard_in (cc3 h.ext ‹_›) fun w h => ?_)
 refine PickP_T (GdP_T (dfS (GdP_T (dl1 h 0 rfl rfl (GdP_T (GdP_T (NcP_ok ?_)))))))
 refine GdP_T (dfS (GdP_T (dfS (GdP_T (dg1 h ‹_› (by rfl) ?_)))))
 refine GdP_T (dlS (hsv.hp h) ?_)
 refine GdP_T (Dv_su (by omega) (by omega) (Gd_T (cl1 h n_shard_in (cc3 h.ext ‹_›) fun w h => ?_)))
 refine PickP_T (cl1 h n_shard_must (cc1 h.ext) fun w h => ?_)
 refine faS (ld1 h 0 rfl rfl (cl1 h n_shard_state_route (cc2 h.ext) fun w h => ?_))
 refine faS (ld1 h 0 rfl rfl (scHz (hav.hp h) (by first | omega | decide) (by first | omega | decide) fun v1 p1 => ?_))
 refine leS (p1.2 _ (hav.hp h)) ?_
 have hv1 := p1.2 _ hav
 have hn0 : r.up.toNat ≤ a.A.length := by omega
 have hlen : ∀ n, (gotL r ((Srd.all a).take n)).length ≤ n := fun n => Nat.le_trans (Srd.gotL_len _ _) (by rw [List.length_take]; omega)
 have h0 := h.nil tFt 10
 refine Lp2.mk (fun u i W => ∃ j : Nat, j ≤ r.up.toNat ∧ i = .int .i64 j ∧ Hp [] w0 W [ro tFt 10 u (gotL r ((Srd.all a).take j)).length ((gotL r ((Srd.all a).take j)).flatMap fF), bx g1 tRd [.int .i64 r.id, .int .i64 r.up, rv, .int .i64 r.nx, gv]])
  (fun _ i _ => match i with | .int _ i' => r.up.toNat - i'.toNat | _ => 0) ⟨0, by omega, rfl, h0⟩ ?_
 clear h h0
 rintro u _ W ⟨j, hj, rfl, h⟩
 by_cases hjl : j < r.up.toNat
 rotate_left
 ·have : j = r.up.toNat := by omega
  subst this
  have hnd := Srd.gotL_nd hO r r.up.toNat
  have hl2 := hlen r.up.toNat
  refine Bn_ltF (by omega) (If_F (cl_sort h (by omega) hnd fun w h => ?_))
  rw [← Srd.got_eq hup.1] at h
  have hgl : (got a r).length = (gotL r ((Srd.all a).take r.up.toNat)).length := by rw [Srd.got_eq hup.1, srt_len]
  rw [← hgl] at h
  refine faS (ld1 h 1 rfl rfl (cl1 h n_slices_Equal_api_Fact_api_Fact (c_EqFt (qZ 0 h rfl) (h2.ext h.ext) (by omega)) fun w h => ?_))
  refine cl1 h n_shard_must (cc1 h.ext) fun w h => ?_
  exact Ret.mk ⟨h.ext, rfl⟩
 have hal : j < (Srd.all a).length := by rw [Srd.all_len]; omega
 refine Exists.elim (p := fun y => (Srd.all a)[j]? = some y) ⟨_, List.getElem?_eq_getElem hal⟩ fun y hy => ?_
 have hya : y ∈ Srd.all a := List.mem_of_getElem? hy
 have hvf := hO.vf _ (Srd.all_mem hya).1
 have hy2 : y.2 = j := by
  have h3 := (Srd.all_at hya).2 j hy
  have h4 := (Srd.all_mem hya).2.1
  omega
 have sy : Seg (((Srd.all a).flatMap fH).take (r.up.toNat * 11)) (j * 11) (fH y) := by
  rw [flat_take (f := fH) (c := 11) (fun _ => rfl)]
  exact flat_seg (f := fH) (fun _ => rfl) (by rw [List.getElem?_take_of_lt hjl]; exact hy)
 have hsn : (Srd.all a).take (j + 1) = (Srd.all a).take j ++ [y] := by rw [List.take_add_one, hy]; rfl
 have hgs : gotL r ((Srd.all a).take (j + 1)) = gotL r ((Srd.all a).take j) ++ if Srd.roAt r.ro (y.1.tr % 8) < r.nx then [y.1] else [] := by rw [hsn]; exact Srd.gotL_snoc
 have sr : Seg (r.ro.flatMap fI) ((y.1.tr % 8).toNat * 1) (fI (Srd.roAt r.ro (y.1.tr % 8))) := ro_seg hO (Srd.slot_bd hvf) hrl
 have cc4 := fun {W : World} (_ : Ext w0 W) => c_Slot (w := W) hvf.1
 by_cases hlt : Srd.roAt r.ro (y.1.tr % 8) < r.nx
 ·rw [if_pos hlt] at hgs
  have hgl := hlen j
  have e1 : (gotL r ((Srd.all a).take (j + 1))).length = (gotL r ((Srd.all a).take j)).length + 1 := by rw [hgs, List.length_append]; rfl
  have e2 : (gotL r ((Srd.all a).take (j + 1))).flatMap fF = (gotL r ((Srd.all a).take j)).flatMap fF ++ fF y.1 := by rw [hgs, List.flatMap_append]; simp
  refine Bn_ltT (by omega) (If_T (iaH h ‹_› (by omega) fun zb zo zk zv zc => ?_))
  refine lhA h ‹_› ‹_› (by rfl) ?_
  refine alS h fun g2 w h => ?_
  refine stA h 0 rfl rfl rfl rfl fun w h => ?_
  replace h := h.dr
  refine dfS (dl1 h 2 rfl rfl (dfS (dfS (dl1 h 0 rfl rfl (cl1 h n_shard_Slot (cc4 h.ext) fun w h => ?_)))))
  refine kl1 h 2 rfl rfl (diHz h ‹_› (by omega) (by omega) fun zb zo zk zv zc => ?_)
  refine dh0 h ‹_› ‹_› (by rfl) ?_
  refine faS (ld1 h 2 rfl rfl (Bn_ltT (by omega) (If_T (faS (ldA h 0 rfl rfl ?_)))))
  refine bs1A h (by rfl) (by decide) (by rfl) (by decide) fun v2 w h => ?_
  refine apR (by rfl) (by decide) h 2 rfl (qZ 0 h rfl) (by first | rfl | assumption) (by omega) fun v3 w h => ?_
  refine Bn_ad (by omega) (by omega) ?_
  dsimp only [List.set] at h
  rw [← e1, ← e2] at h
  exact ⟨⟨j + 1, by omega, rfl, h.pick [2, 3] (by decide) rfl⟩, by show r.up.toNat - ((j : Int) + 1).toNat < r.up.toNat - (j : Int).toNat; omega⟩
 ·rw [if_neg hlt, List.append_nil] at hgs
  rw [← hgs] at h
  have hth := Srd.rd_there hO hr hya (by omega) (by show r.nx ≤ Srd.roAt r.ro (y.1.tr % 8); omega)
  have hat := Srd.roAt_bd ho.ro (Srd.slot_bd hvf)
  have hat : 0 ≤ Srd.roAt r.ro (y.1.tr % 8) ∧ Srd.roAt r.ro (y.1.tr % 8) < a.k := hat
  refine Exists.elim (hR.at (i := (Srd.roAt r.ro (y.1.tr % 8)).toNat) (by omega)) fun vt hvt => ?_
  have ht2 := hvt.2
  rw [show (((Srd.roAt r.ro (y.1.tr % 8)).toNat : Nat) : Int) = Srd.roAt r.ro (y.1.tr % 8) by omega] at ht2
  have st : Seg (x.ls.flatMap fV) ((Srd.roAt r.ro (y.1.tr % 8)).toNat * 1) (fV vt) := flat_seg (f := fV) (fun _ => rfl) hvt.1
  have hlt2 : (Srd.store a (Srd.roAt r.ro (y.1.tr % 8))).length ≤ 400 := Nat.le_trans (Srd.store_len a _) hnA
  have hany : (Srd.store a (Srd.roAt r.ro (y.1.tr % 8))).any (fun z => decide (y = z)) = true := List.any_eq_true.2 ⟨y, hth, decide_eq_true rfl⟩
  have cc5 := fun {W : World} (e : Ext w0 W) => c_ContHd (w0 := W) (x := y) (ht2.ext e) (by omega)
  rw [hany] at cc5
  refine Bn_ltT (by omega) (If_T (iaH h ‹_› (by omega) fun zb zo zk zv zc => ?_))
  refine lhA h ‹_› ‹_› (by rfl) ?_
  refine alS h fun g2 w h => ?_
  refine stA h 0 rfl rfl rfl rfl fun w h => ?_
  replace h := h.dr
  refine dfS (dl1 h 2 rfl rfl (dfS (dfS (dl1 h 0 rfl rfl (cl1 h n_shard_Slot (cc4 h.ext) fun w h => ?_)))))
  refine kl1 h 2 rfl rfl (diHz h ‹_› (by omega) (by omega) fun zb zo zk zv zc => ?_)
  refine dh0 h ‹_› ‹_› (by rfl) ?_
  refine faS (ld1 h 2 rfl rfl (Bn_ltF (by omega) (If_F (NcP_ok ?_))))
  replace h := h.dr
  refine dfS (dfS (dg1 h ‹_› (by rfl) ?_))
  refine diHz h ‹_› (by omega) (by omega) fun zb zo zk zv zc => ?_
  refine dh0 h ‹_› ‹_› (by rfl) ?_
  refine dlA h 0 rfl rfl ?_
  refine cl1 h n_slices_Contains_api_Held_api_Held (cc5 h.ext) fun w h => ?_
  refine cl1 h n_shard_must (cc1 h.ext) fun w h => ?_
  refine Bn_ad (by omega) (by omega) ?_
  dsimp only [List.set] at h
  exact ⟨⟨j + 1, by omega, rfl, h.drop 1⟩, by show r.up.toNat - ((j : Int) + 1).toNat < r.up.toNat - (j : Int).toNat; omega⟩
set_option maxHeartbeats 16000000 in
theorem c_check {w0 : World} {g : Nat} {x : Sx} {a : Ab} (hb : Blk w0 g tSt (cS x a)) (hR : ShR w0 x a) (hO : Srd.Ok a) : Calls Tryz.prog 47 #[pr g 0] w0 (Ret fun r w' => ∃ v, r = v ∧ Hp [] w0 w' [ro tHd 11 v a.A.length ((Srd.all a).flatMap fH)]) := by
 have hk := hO.k
 have hnA := hO.nA
 have hnr := hO.nr
 have hsv := hR.st
 have hrv := hR.ro
 have hrd := hR.rd
 have hrs := hR.rs
 have hone := hR.one.2.2.2.2
 have hrl : x.rs.length = a.rd.length := by rw [← hrs, List.length_map]
 have p1 : 2 ≤ (a.k : Int) ∧ (a.k : Int) ≤ 4 := by omega
 have p2 : 0 ≤ (a.A.length : Int) ∧ (a.A.length : Int) ≤ 400 := by omega
 have cc1 := fun {W : World} (_ : Ext w0 W) => c_mustT (w := W)
 have cc3 := fun {W : World} {n lo hi : Int} (_ : Ext w0 W) (h : lo ≤ n ∧ n ≤ hi) => c_inT (w := W) h
 have cc2 := fun {W : World} (e : Ext w0 W) => c_route (w0 := W) (Blk.ext hb e) (hR.ext e) (by omega) (hrv.ext e) hO.ro
 have cc4 := fun {W : World} (e : Ext w0 W) => c_move (w0 := W) (Blk.ext hb e) (hR.ext e) hO
 have cr5 := fun {W : World} (e : Ext w0 W) => c_all (w0 := W) (Blk.ext hb e) (hR.ext e) hO
 apply e_shard_state_check
 unfold s_shard_state_check
 have h := Hp.init [] w0
 refine Nc_ok ?_
 refine faS (faS (lg1 h ‹_› (by rfl) ?_))
 refine leS (hsv.hp h) ?_
 refine cl1 h n_shard_in (cc3 h.ext ‹_›) fun w h => ?_
 refine Gd_T (Gd_T (Nc_ok ?_))
 refine Gd_T (faS (Gd_T (faS (Gd_T (lg1 h ‹_› (by rfl) ?_)))))
 refine Gd_T (cl1 h n_shard_in (cc3 h.ext ‹_›) fun w h => ?_)
 refine Pick_T (Gd_T (Gd_T (Nc_ok ?_)))
 refine Gd_T (faS (Gd_T (faS (Gd_T (lg1 h ‹_› (by rfl) ?_)))))
 refine Gd_T (leS (hrd.hp h) ?_)
 refine Gd_T (Bn_leT (by omega) (Pick_T (cl1 h n_shard_must (cc1 h.ext) fun w h => ?_)))
 refine Nc_ok ?_
 refine faS (faS (lg1 h ‹_› (by rfl) ?_))
 refine cl1 h n_shard_state_route (cc2 h.ext) fun w h => ?_
 refine clR h n_shard_state_all (cr5 h.ext) fun v1 w h => ?_
 refine cl1 h n_shard_state_move (cc4 h.ext) fun w h => ?_
 refine Nc_ok ?_
 refine faS (faS (lg1 h ‹_› (by rfl) ?_))
 refine leS (hrd.hp h) ?_
 refine Lp1.mk (fun i W => ∃ j : Nat, j ≤ x.rs.length ∧ i = .int .i64 j ∧ Hp [] w0 W [ro tHd 11 v1 a.A.length ((Srd.all a).flatMap fH)]) (fun i _ => match i with | .int _ i' => x.rs.length - i'.toNat | _ => 0) ⟨0, by omega, rfl, h⟩ ?_
 clear h
 rintro _ W ⟨j, hj, rfl, h⟩
 by_cases hjl : j < x.rs.length
 rotate_left
 ·refine Bn_ltF (by omega) (If_F ?_)
  exact Ret.mk ⟨_, rfl, h⟩
 refine Exists.elim (p := fun r => x.rs[j]? = some r) ⟨_, List.getElem?_eq_getElem hjl⟩ fun r hr => ?_
 have hrm : r ∈ x.rs := List.mem_of_getElem? hr
 have hra : r.1 ∈ a.rd := by rw [← hrs]; exact List.mem_map.2 ⟨r, hrm, rfl⟩
 have sr : Seg (x.rs.flatMap fR) (j * 5) (fR r) := flat_seg (f := fR) (fun _ => rfl) hr
 have ho := hone r hrm
 have hrr := hR.rr r hrm
 have hpr : ∀ j' : Nat, j' + 1 = j → ∃ u, x.rs[j']? = some u ∧ u.1.id < r.1.id := fun j' hj' => by
  have h1 : j' < x.rs.length := by omega
  refine ⟨_, List.getElem?_eq_getElem h1, ?_⟩
  have h2 := hO.ids
  rw [← hrs, List.pairwise_map] at h2
  have h2 := List.pairwise_iff_getElem.1 h2 j' j h1 hjl (by omega)
  rwa [(List.getElem?_eq_some_iff.1 hr).2] at h2
 refine Bn_ltT (by omega) (If_T (iaH h ‹_› (by omega) fun zb zo zk zv zc => ?_))
 refine lhA h ‹_› ‹_› (by rfl) ?_
 refine alS h fun g1 w h => ?_
 refine stA h 0 rfl rfl (by simp only [List.all_cons, List.all_nil, ho.1, ho.2]; rfl) rfl fun w h => ?_
 dsimp only [List.set] at h
 replace h := h.dr
 by_cases hj0 : j = 0
 ·refine Dv_eqT (by omega) (GdP_TF (GdP_TF (GdP_TF (GdP_TF (GdP_TF (GdP_TF (GdP_TF (GdP_TF (GdP_TF (GdP_TF (GdP_TF (GdP_TF (GdP_TF (PickP_T (cl1 h n_shard_must (cc1 h.ext) fun w h => ?_)))))))))))))))
  refine ldA h 0 rfl rfl ?_
  refine cl1 h n_shard_state_reader (c_reader (w0 := w) (Blk.ext hb h.ext) (hR.ext h.ext) hO hra (hrr.1.ext h.ext) (hrr.2.ext h.ext) (qZ 1 h rfl)) fun w h => ?_
  refine Bn_ad (by omega) (by omega) ?_
  exact ⟨⟨j + 1, by omega, rfl, h.drop 1⟩, by show x.rs.length - ((j : Int) + 1).toNat < x.rs.length - (j : Int).toNat; omega⟩
 ·refine Exists.elim (hpr (j - 1) (by omega)) fun u hu => ?_
  have su : Seg (x.rs.flatMap fR) (((j : Int) - 1).toNat * 5) (fR u) := by
   rw [show ((j : Int) - 1).toNat = j - 1 by omega]
   exact flat_seg (f := fR) (fun _ => rfl) hu.1
  have hlt := hu.2
  refine Dv_eqF (by omega) (GdP_F (GdP_F (NcP_ok ?_)))
  refine GdP_F (dfS (GdP_F (dfS (GdP_F (dg1 h ‹_› (by rfl) ?_)))))
  refine GdP_F (GdP_F (Dv_su (by omega) (by omega) (GdP_F (diHz h ‹_› (by omega) (by omega) fun zb zo zk zv zc => ?_))))
  refine GdP_F (dfS (GdP_F (dh1 h ‹_› ‹_› (by rfl) ?_)))
  refine GdP_F (dfS (GdP_F (dl1 h 0 rfl rfl (GdP_F (Dv_ltT (by omega) (PickP_F (cl1 h n_shard_must (cc1 h.ext) fun w h => ?_)))))))
  refine ldA h 0 rfl rfl ?_
  refine cl1 h n_shard_state_reader (c_reader (w0 := w) (Blk.ext hb h.ext) (hR.ext h.ext) hO hra (hrr.1.ext h.ext) (hrr.2.ext h.ext) (qZ 1 h rfl)) fun w h => ?_
  refine Bn_ad (by omega) (by omega) ?_
  exact ⟨⟨j + 1, by omega, rfl, h.drop 1⟩, by show x.rs.length - ((j : Int) + 1).toNat < x.rs.length - (j : Int).toNat; omega⟩
end Go.Proofs.YthdhnhghjecfkaaGreat
namespace Go.Proofs.YthdhnhghjecfkaaGreat
open Go Go.Eng Go.Proofs Go.RowKit
open Go.Srd (Ft VF Hd Mv mv0 Rd Ab Cmd got ltF sam srt plh ofS gotL)
set_option maxRecDepth 100000
section
variable {g : Nat} {w : World} {R : Ending → World → Prop} {b : Bool}
theorem DfR (h : Blk w g tBo [.bool b]) (hk : R (.returned (.bool b)) w) : Df Tryz.prog 46 #[pr g 0] .returning w (fun w => Rc Tryz.prog tBo (pr g 0) w fun r0 => R (.returned r0) w) R := by
 refine CallsDIn.mono (c_caughtR (g := g) (w := w)) ?_
 rintro e u' w' ⟨rfl, rfl, rfl⟩
 exact ⟨_, run_ld1 (P := Tryz.prog) (t := tBo) h rfl, hk⟩
theorem DfP (h : Blk w g tBo [.bool b]) (hk : ∀ w', Blk w' g tBo [.bool false] → Mo [g] w w' → R (.returned (.bool false)) w') : Df Tryz.prog 46 #[pr g 0] (.panicking cR) w (fun w => Rc Tryz.prog tBo (pr g 0) w fun r0 => R (.returned r0) w) R := by
 refine CallsDIn.mono (c_caughtP h) ?_
 rintro e u' w' ⟨rfl, hs, hb, hm⟩
 show lvF _ _ (settle u') w'
 rw [hs]
 exact ⟨_, run_ld1 (P := Tryz.prog) (t := tBo) hb rfl, hk _ hb hm⟩
end
set_option maxHeartbeats 4000000 in
theorem c_Valid {w0 : World} {x : Sx} {a : Ab} (hR : ShR w0 x a) (hO : Srd.Ok a) : Calls Tryz.prog 19 #[vSh x a] w0 (Ret fun r w' => Ext w0 w' ∧ r = .bool true) := by
 have hone := hR.one
 refine e_shard_Valid n_shard_caught ?_
 unfold s_shard_Valid
 have h := Hp.init [] w0
 refine bxA h fun g1 w h => ?_
 refine alS h fun g2 w h => ?_
 refine ldA h 1 rfl rfl ?_
 refine bdS (PC.cons (by rfl) PC.nil) (by rfl) ?_
 refine bxA h fun g3 w h => ?_
 refine Cl_i n_shard_state_check (c_check (h.get (i := 0) rfl) (hR.ext h.ext) hO) ?_
 rintro _ w1 ⟨v, rfl, hh⟩
 replace h := h.x hh.ext
 refine st1 h 1 rfl rfl rfl rfl fun w h => ?_
 dsimp only [List.set] at h
 exact DfR (h.get (i := 1) rfl) (Ret.mk ⟨h.ext, rfl⟩)
abbrev vSh0 : Value := .agg #[.slice none 0 0, .slice none 0 0, .int .i64 0, .int .i64 0, .int .i64 0, .int .i64 0, .int .i64 0, .int .i64 0, .slice none 0 0]
theorem c_checkF {w0 : World} {g : Nat} (hb : Blk w0 g tSt [.slice none 0 0, .slice none 0 0, .int .i64 0, .int .i64 0, .int .i64 0, .int .i64 0, .int .i64 0, .int .i64 0, .slice none 0 0]) : Calls Tryz.prog 47 #[pr g 0] w0 (Fai cR [] w0) := by
 have hs : SlC w0 1 (.slice none 0 0) 0 [] := ⟨rfl, .inl ⟨rfl, rfl⟩⟩
 have cc3 := fun {W : World} (_ : Ext w0 W) => c_inF (w := W) (n := 0) (lo := 2) (hi := 4) (by omega)
 apply e_shard_state_check
 obtain ⟨R, hR⟩ : ∃ R, R = Fai cR [] w0 := ⟨_, rfl⟩
 rw [← hR]
 unfold s_shard_state_check
 have h := Hp.init [] w0
 refine Nc_ok ?_
 refine faS (faS (lg1 h ‹_› (by rfl) ?_))
 refine leS (hs.hp h) ?_
 refine cl1 h n_shard_in (cc3 h.ext) fun w h => ?_
 refine Gd_FT (Gd_FT (Gd_FT (Gd_FT (Gd_FT (Gd_FT (Pick_F (Gd_FT (Gd_FT (Gd_FT (Gd_FT (Gd_FT (Gd_FT (Gd_FT (Pick_F ?_))))))))))))))
 exact clp h n_shard_must c_mustF hR
theorem c_ValidF {w0 : World} : Calls Tryz.prog 19 #[vSh0] w0 (Ret fun r w' => Ext w0 w' ∧ r = .bool false) := by
 refine e_shard_Valid n_shard_caught ?_
 unfold s_shard_Valid
 have h := Hp.init [] w0
 refine bxA h fun g1 w h => ?_
 refine alS h fun g2 w h => ?_
 refine ldA h 1 rfl rfl ?_
 refine bdS (PC.cons (by rfl) PC.nil) (by rfl) ?_
 refine bxA h fun g3 w h => ?_
 refine Cl_p n_shard_state_check (c_checkF (h.get (i := 0) rfl)) fun w1 m => ?_
 replace h := h.x m.ext
 exact DfP (h.get (i := 1) rfl) fun w2 hb hm => Ret.mk ⟨(h.up (i := 1) rfl hm (bx_at hb) fun k hk => .inl hk).ext, rfl⟩
abbrev anyE (S : List Nat) : Et := ⟨S, fun _ => True⟩
theorem Hp.wide {S : List Nat} {w0 w : World} {L : List Et} (h : Hp [] w0 w L) (hs : ∀ e ∈ L, e.Simple) (hS : ∀ k ∈ S, k < w0.heap.size) : Hp S w0 w (anyE S :: L) where
 mo := h.mo.nilB
 ok := fun e he => by
  rcases List.mem_cons.1 he with rfl | he
  ·exact fun _ _ _ => trivial
  ·exact hs e he _ _ _ (h.ok e he).get
 ks := fun e he k hk => by
  rcases List.mem_cons.1 he with rfl | he
  ·exact ⟨Nat.lt_of_lt_of_le (hS k hk) h.mo.size, .inr hk⟩
  ·refine ⟨(h.ks e he k hk).1, ?_⟩
   rcases (h.ks e he k hk).2 with h1 | h1
   ·exact .inl h1
   ·cases h1
 nd := by
  refine List.pairwise_cons.2 ⟨fun e he k hk hc => ?_, h.nd⟩
  have h1 := hS k hk
  rcases (h.ks e he k hc).2 with h2 | h2
  ·omega
  ·cases h2
theorem c_tryF {w0 : World} {fn : FuncId} {caps : Array Value} {S : List Nat} (hn : Enters Tryz.prog fn) (hS : ∀ k ∈ S, k < w0.heap.size) (hc : ∀ {W}, Ext w0 W → Calls Tryz.prog fn (#[] ++ #[] ++ caps) W (Fai cR S W)) :
 Calls Tryz.prog 34 #[.func (.func fn) #[] caps] w0 (Ret fun r w' => r = .bool false ∧ Hp S w0 w' [anyE S]) := by
 refine e_shard_try n_shard_caught ?_
 unfold s_shard_try
 have h0 := Hp.init [] w0
 refine alS h0 fun g1 w h0 => ?_
 have h := Hp.wide (S := S) h0 (fun e he => by rw [List.mem_singleton.1 he]; exact bx_sm) hS
 refine Cw_p hn (hc h0.ext) fun w1 m => ?_
 have h1 := h.up (i := 0) (e' := anyE S) rfl m (fun _ _ _ => trivial) fun k hk => .inl hk
 refine DfP (h1.get (i := 1) rfl) fun w2 hb hm => Ret.mk ⟨rfl, ?_⟩
 exact (h1.up (i := 1) rfl hm (bx_at hb) fun k hk => .inl hk).pick [0] (by decide) rfl
end Go.Proofs.YthdhnhghjecfkaaGreat
