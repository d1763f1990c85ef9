/-
  Contracts and plain lemmas. By an AI agent.
-/
import Derived.Test.YthdhnhghjecfkaaGreatEngT
import Derived.Test.YthdhnhghjecfkaaGreatEng
import Derived.Laws.CopyRow
import Derived.Lib.MinMax
import Derived.MapKept
import Derived.RangeFuncRecord
import Derived.Laws.Bits64
import Derived.Lib.Strings
import Derived.Laws.Strings2
import Derived.Laws.IdiomStrings
import Derived.Laws.StructEq
import Derived.DefersIn
import Derived.RecoverIn
import Derived.Lib.Overlaps
import Derived.Lib.AppendZerosOnto
set_option linter.unusedSimpArgs false
set_option linter.unusedVariables false
set_option linter.unusedSectionVars false
namespace Go.Eng
open Go Go.RowKit Go.Proofs
set_option maxRecDepth 100000
abbrev pr (g o : Nat) : Value := .pointer (some ⟨g, o, none⟩)
structure Mo (S : List Nat) (w w' : World) : Prop where
 os : w'.os = w.os
 tape : w'.tape = w.tape
 output : w'.output = w.output
 size : w.heap.size ≤ w'.heap.size
 block : ∀ k, k < w.heap.size → k ∉ S → w'.heap[k]? = w.heap[k]?
theorem Mo.refl (S : List Nat) (w : World) : Mo S w w := ⟨rfl, rfl, rfl, Nat.le_refl _, fun _ _ _ => rfl⟩
theorem Mo.tr {S : List Nat} {a b c : World} (h : Mo S a b) (k : Mo S b c) : Mo S a c :=
 ⟨k.os.trans h.os, k.tape.trans h.tape, k.output.trans h.output, Nat.le_trans h.size k.size, fun i hi hs => (k.block i (Nat.lt_of_lt_of_le hi h.size) hs).trans (h.block i hi hs)⟩
theorem Mo.mono {S S' : List Nat} {a b : World} (h : Mo S a b) (hs : ∀ k ∈ S, k ∈ S' ∨ a.heap.size ≤ k) : Mo S' a b :=
 ⟨h.os, h.tape, h.output, h.size, fun i hi hn => h.block i hi fun hc => by rcases hs i hc with h | h; exact hn h; omega⟩
theorem Mo.ext {a b : World} (h : Mo [] a b) : Ext a b := ⟨h.os, h.tape, h.output, h.size, fun k hk => h.block k hk (by simp)⟩
theorem Mo.of {S : List Nat} {a b : World} (h : Ext a b) : Mo S a b := ⟨h.os, h.tape, h.output, h.size, fun k hk _ => h.block k hk⟩
theorem Mo.grown {S : List Nat} {a b : World} {r : Option Nat} (h : a.grownBy b r) (hr : ∀ k, r = some k → k ∈ S ∨ a.heap.size ≤ k) : Mo S a b :=
 ⟨h.os, h.tape, h.output, h.size, fun k hk hs => h.block k hk fun hc => by rcases hr k hc.symm with h | h; exact hs h; omega⟩
structure Et where
 ks : List Nat
 Q : World → Prop
def Et.At (B : Nat) (S : List Nat) (e : Et) (w : World) : Prop :=
 ∀ w', w.heap.size ≤ w'.heap.size → (∀ k, k < w.heap.size → (k ∈ e.ks ∨ (k < B ∧ k ∉ S)) → w'.heap[k]? = w.heap[k]?) → e.Q w'
theorem Et.At.get {B : Nat} {S : List Nat} {e : Et} {w : World} (h : e.At B S w) : e.Q w := h w (Nat.le_refl _) fun _ _ _ => rfl
theorem Et.At.mv {B : Nat} {S : List Nat} {e : Et} {w w' : World} (h : e.At B S w) (hs : w.heap.size ≤ w'.heap.size) (hb : ∀ k, k < w.heap.size → (k ∈ e.ks ∨ (k < B ∧ k ∉ S)) → w'.heap[k]? = w.heap[k]?) : e.At B S w' :=
 fun w'' h1 h2 => h w'' (Nat.le_trans hs h1) fun k hk hc => (h2 k (Nat.lt_of_lt_of_le hk hs) hc).trans (hb k hk hc)
abbrev bx (g : Nat) (ty : TypeId) (cs : List Value) : Et := ⟨[g], fun w => Blk w g ty cs⟩
abbrev ro (e : TypeId) (c : Nat) (v : Value) (n : Nat) (xs : List Value) : Et := ⟨v.ownBlock.toList, fun w => w.ownsRow 0 e c v n xs⟩
abbrev sq (c : Nat) (v : Value) (n : Nat) (xs : List Value) : Et := ⟨v.ownBlock.toList, fun w => SlC w c v n xs⟩
theorem bx_at {B : Nat} {S : List Nat} {g : Nat} {ty : TypeId} {cs : List Value} {w : World} (h : Blk w g ty cs) : (bx g ty cs).At B S w :=
 fun w' _ hb => (hb g h.lt (.inl (by simp))).trans h
theorem ro_at {B : Nat} {S : List Nat} {e : TypeId} {c n : Nat} {v : Value} {xs : List Value} {w : World} (h : w.ownsRow 0 e c v n xs) : (ro e c v n xs).At B S w := by
 intro w' _ hb
 have hl := World.ownsRow.lt h
 obtain ⟨h1, ⟨rfl, h0⟩ | ⟨g, cap, cur, rfl, a, b, d⟩⟩ := h
 ·exact ⟨h1, .inl ⟨rfl, h0⟩⟩
 ·exact ⟨h1, .inr ⟨g, cap, cur, rfl, a, (hb g (hl g rfl).2 (.inl (by simp [Value.ownBlock]))).trans b, d⟩⟩
theorem SlC.mv {w w' : World} {c n : Nat} {v : Value} {xs : List Value} (h : SlC w c v n xs) (hb : ∀ k, v.ownBlock = some k → k < w.heap.size → w'.heap[k]? = w.heap[k]?) : SlC w' c v n xs := by
 obtain ⟨h0, h | ⟨b, o, cap, rfl, h2, h3⟩⟩ := h
 ·exact ⟨h0, .inl h⟩
 ·refine ⟨h0, .inr ⟨b, o, cap, rfl, h2, fun i x hx => ?_⟩⟩
  have hc := h3 i x hx
  rw [World.cell?_of_block (hb b rfl (World.block_lt_of_cell? w _ hc))]
  exact hc
structure Hp (S : List Nat) (w0 w : World) (L : List Et) : Prop where
 mo : Mo S w0 w
 ok : ∀ e ∈ L, e.At w0.heap.size S w
 ks : ∀ e ∈ L, ∀ k ∈ e.ks, k < w.heap.size ∧ (w0.heap.size ≤ k ∨ k ∈ S)
 nd : L.Pairwise fun a b => ∀ k ∈ a.ks, k ∉ b.ks
section
variable {S : List Nat} {w0 w : World} {L : List Et}
theorem Hp.ext (h : Hp [] w0 w L) : Ext w0 w := h.mo.ext
theorem Hp.init (S : List Nat) (w : World) : Hp S w w [] := ⟨.refl _ _, by simp, by simp, .nil⟩
theorem Hp.mv (h : Hp S w0 w L) {w' : World} (hm : Mo S w w') (hb : ∀ e ∈ L, ∀ k ∈ e.ks, k < w.heap.size → w'.heap[k]? = w.heap[k]?) : Hp S w0 w' L where
 mo := h.mo.tr hm
 ok := fun e he => (h.ok e he).mv hm.size fun k hk hc => by
  rcases hc with hc | ⟨h1, h2⟩
  ·exact hb e he k hc hk
  ·exact hm.block k hk h2
 ks := fun e he k hk => ⟨Nat.lt_of_lt_of_le (h.ks e he k hk).1 hm.size, (h.ks e he k hk).2⟩
 nd := h.nd
theorem Hp.x (h : Hp S w0 w L) {w' : World} (x : Ext w w') : Hp S w0 w' L := h.mv (.of x) fun _ _ k _ hk => x.block k hk
theorem Hp.dr (h : Hp S w0 w L) : Hp S w0 w.drew L := h.x (Ext.refl w).dr
theorem Hp.nw (h : Hp S w0 w L) {e : Et} (he : e.At w0.heap.size S w) (hk : ∀ k ∈ e.ks, k < w.heap.size ∧ (w0.heap.size ≤ k ∨ k ∈ S)) (hn : ∀ x ∈ L, ∀ k ∈ e.ks, k ∉ x.ks) : Hp S w0 w (e :: L) where
 mo := h.mo
 ok := fun x hx => by
  rcases List.mem_cons.1 hx with rfl | hx
  ·exact he
  ·exact h.ok x hx
 ks := fun x hx => by
  rcases List.mem_cons.1 hx with rfl | hx
  ·exact hk
  ·exact h.ks x hx
 nd := .cons hn h.nd
theorem Hp.xn (h : Hp S w0 w L) {w' : World} (x : Ext w w') {e : Et} (he : e.At w0.heap.size S w') (hk : ∀ k ∈ e.ks, w.heap.size ≤ k ∧ k < w'.heap.size) : Hp S w0 w' (e :: L) := by
 refine (h.x x).nw he (fun k hk' => ⟨(hk k hk').2, .inl (Nat.le_trans h.mo.size (hk k hk').1)⟩) fun y hy k hk' hc => ?_
 have := (h.ks y hy k hc).1
 have := (hk k hk').1
 omega
theorem Hp.at (h : Hp S w0 w L) {i : Nat} {e : Et} (hi : L[i]? = some e) : e.At w0.heap.size S w := h.ok e (List.mem_of_getElem? hi)
theorem Hp.get (h : Hp S w0 w L) {i : Nat} {e : Et} (hi : L[i]? = some e) : e.Q w := (h.at hi).get
theorem Hp.up (h : Hp S w0 w L) {i : Nat} {e e' : Et} (hi : L[i]? = some e) {w' : World} (hm : Mo e.ks w w') (he : e'.At w0.heap.size S w') (hk : ∀ k ∈ e'.ks, k ∈ e.ks ∨ (w.heap.size ≤ k ∧ k < w'.heap.size)) : Hp S w0 w' (L.set i e') := by
 have hem : e ∈ L := List.mem_of_getElem? hi
 have hil : i < L.length := (List.getElem?_eq_some_iff.1 hi).1
 have hie : L[i] = e := (List.getElem?_eq_some_iff.1 hi).2
 have hke := h.ks e hem
 have hdis : ∀ j (hj : j < L.length), j ≠ i → ∀ k ∈ L[j].ks, k ∉ e.ks := by
  intro j hj hne k hk hc
  have hp := List.pairwise_iff_getElem.1 h.nd
  rcases Nat.lt_or_ge j i with hl | hl
  ·exact hp j i hj hil hl k hk (hie ▸ hc)
  ·exact hp i j hil hj (by omega) k (hie ▸ hc) hk
 have hmo : Mo S w0 w' := by
  refine ⟨hm.os.trans h.mo.os, hm.tape.trans h.mo.tape, hm.output.trans h.mo.output, Nat.le_trans h.mo.size hm.size, fun k hk hs => ?_⟩
  refine (hm.block k (Nat.lt_of_lt_of_le hk h.mo.size) fun hc => ?_).trans (h.mo.block k hk hs)
  rcases (hke k hc).2 with h1 | h1
  ·omega
  ·exact hs h1
 have hset : ∀ j (hj : j < L.length), (L.set i e')[j]'(by simpa using hj) = if i = j then e' else L[j] := fun j hj => List.getElem_set (by simpa using hj)
 refine ⟨hmo, ?_, ?_, ?_⟩
 ·intro x hx
  obtain ⟨j, hj, rfl⟩ := List.getElem_of_mem hx
  have hj' : j < L.length := by simpa using hj
  rw [hset j hj']
  split
  ·exact he
  ·next hne =>
   refine (h.ok _ (List.getElem_mem hj')).mv hm.size fun k hk hc => hm.block k hk fun hx => ?_
   rcases hc with hc | ⟨h1, h2⟩
   ·exact hdis j hj' (fun hc' => hne hc'.symm) k hc hx
   ·rcases (hke k hx).2 with h3 | h3
    ·omega
    ·exact h2 h3
 ·intro x hx
  obtain ⟨j, hj, rfl⟩ := List.getElem_of_mem hx
  have hj' : j < L.length := by simpa using hj
  rw [hset j hj']
  split
  ·intro k hk'
   have hs := h.mo.size
   rcases hk k hk' with h1 | h1
   ·exact ⟨Nat.lt_of_lt_of_le (hke k h1).1 hm.size, (hke k h1).2⟩
   ·exact ⟨h1.2, .inl (by omega)⟩
  ·intro k hk'
   have := h.ks _ (List.getElem_mem hj') k hk'
   exact ⟨Nat.lt_of_lt_of_le this.1 hm.size, this.2⟩
 ·refine List.pairwise_iff_getElem.2 fun a b ha hb hab => ?_
  have ha' : a < L.length := by simpa using ha
  have hb' : b < L.length := by simpa using hb
  rw [hset a ha', hset b hb']
  have new : ∀ j (hj : j < L.length), j ≠ i → ∀ k ∈ L[j].ks, k ∉ e'.ks := by
   intro j hj hne k hk' hc
   rcases hk k hc with h1 | h1
   ·exact hdis j hj hne k hk' h1
   ·have := (h.ks _ (List.getElem_mem hj) k hk').1
    omega
  split
  ·next hia =>
   subst hia
   rw [if_neg (by omega)]
   exact fun k hk' hc => new b hb' (by omega) k hc hk'
  ·next hia =>
   split
   ·next hib => exact new a ha' (fun h => hia h.symm)
   ·exact List.pairwise_iff_getElem.1 h.nd a b ha' hb' hab
theorem Hp.drop (h : Hp S w0 w L) (n : Nat) : Hp S w0 w (L.drop n) :=
 ⟨h.mo, fun e he => h.ok e (List.mem_of_mem_drop he), fun e he => h.ks e (List.mem_of_mem_drop he), h.nd.sublist (List.drop_sublist n L)⟩
theorem Hp.sub (h : Hp S w0 w L) {L' : List Et} (hs : L'.Sublist L) : Hp S w0 w L' :=
 ⟨h.mo, fun e he => h.ok e (hs.subset he), fun e he => h.ks e (hs.subset he), h.nd.sublist hs⟩
theorem Hp.as (h : Hp S w0 w L) {i : Nat} {e e' : Et} (hi : L[i]? = some e) (he : e'.At w0.heap.size S w) (hk : ∀ k ∈ e'.ks, k ∈ e.ks) : Hp S w0 w (L.set i e') :=
 h.up hi (.refl _ _) he fun k hk' => .inl (hk k hk')
end
class Agg (P : Program) (t : TypeId) (n : outParam Nat) : Prop where
 ag : ∀ w, (isAgg t).run P w = .ok true w
 sz : ∀ w, (Go.sizeOf t).run P w = .ok n w
class One (P : Program) (t : TypeId) : Prop where
 ag : ∀ w, (isAgg t).run P w = .ok false w
 sz : ∀ w, (Go.sizeOf t).run P w = .ok 1 w
class Zer (P : Program) (t : TypeId) (zs : outParam (List Value)) : Prop where
 zr : ∃ z : Value, (∀ w, (zeroValue t).run P w = .ok z w) ∧ z.cells = zs.toArray
class Fld (P : Program) (t : TypeId) (f : Nat) (off : outParam Nat) : Prop where
 fa : ∀ w g o, (Instr.fieldAt t (pr g o) f).run P w = .ok (pr g (o + off)) w
class Arr (P : Program) (t : TypeId) (n c : outParam Nat) : Prop where
 ia : ∀ w g o k (j : Nat), j < n → (Instr.indexAt t (pr g o) (.int k (j : Int))).run P w = .ok (pr g (o + j * c)) w
class Slt (P : Program) (t : TypeId) (e : outParam TypeId) (c : outParam Nat) : Prop where
 un : P.underlying t = some (.slice e)
 sz : ∀ w, (Go.sizeOf e).run P w = .ok c w
def takeO {α β : Type} : Nat → List α → (List α → Option β) → Option β
 | 0, _, k => k []
 | n + 1, a :: l, k => takeO n l fun r => k (a :: r)
 | _ + 1, [], _ => none
def dropO {α β : Type} : Nat → List α → (List α → Option β) → Option β
 | 0, l, k => k l
 | n + 1, _ :: l, k => dropO n l k
 | _ + 1, [], _ => none
def cut (o n : Nat) (cs : List Value) : Option (List Value) := dropO o cs fun l => takeO n l some
def ovO {β : Type} : List Value → List Value → (List Value → Option β) → Option β
 | [], cs, k => k cs
 | v :: vs, _ :: cs, k => ovO vs cs fun r => k (v :: r)
 | _ :: _, [], _ => none
def wrO {β : Type} : Nat → List Value → List Value → (List Value → Option β) → Option β
 | 0, vs, cs, k => ovO vs cs k
 | o + 1, vs, c :: cs, k => wrO o vs cs fun r => k (c :: r)
 | _ + 1, _, [], _ => none
def wr (o : Nat) (vs cs : List Value) : Option (List Value) := wrO o vs cs some
theorem takeO_eq {α β : Type} : ∀ (n : Nat) (l : List α) (k : List α → Option β), takeO n l k = if n ≤ l.length then k (l.take n) else none
 | 0, l, k => by simp [takeO]
 | n + 1, [], k => by simp [takeO]
 | n + 1, a :: l, k => by simp [takeO, takeO_eq n l]
theorem dropO_eq {α β : Type} : ∀ (n : Nat) (l : List α) (k : List α → Option β), dropO n l k = if n ≤ l.length then k (l.drop n) else none
 | 0, l, k => by simp [dropO]
 | n + 1, [], k => by simp [dropO]
 | n + 1, a :: l, k => by simp [dropO, dropO_eq n l]
theorem cut_eq {o n : Nat} {cs vs : List Value} (h : cut o n cs = some vs) : vs = (cs.drop o).take n ∧ vs.length = n ∧ ∀ i x, vs[i]? = some x → cs[o + i]? = some x := by
 unfold cut at h
 rw [dropO_eq] at h
 split at h
 ·next h1 =>
  rw [takeO_eq] at h
  split at h
  ·next h2 =>
   cases h
   refine ⟨rfl, by simp; simp at h2; omega, fun i x hx => ?_⟩
   rw [List.getElem?_take, List.getElem?_drop] at hx
   split at hx
   ·exact hx
   ·cases hx
  ·cases h
 ·cases h
theorem ovO_eq {β : Type} : ∀ (vs cs : List Value) (k : List Value → Option β), ovO vs cs k = if vs.length ≤ cs.length then k (vs ++ cs.drop vs.length) else none
 | [], cs, k => by simp [ovO]
 | v :: vs, [], k => by simp [ovO]
 | v :: vs, c :: cs, k => by simp [ovO, ovO_eq vs cs]
theorem wrO_eq {β : Type} : ∀ (o : Nat) (vs cs : List Value) (k : List Value → Option β), wrO o vs cs k = if o + vs.length ≤ cs.length then k (cs.take o ++ vs ++ cs.drop (o + vs.length)) else none
 | 0, vs, cs, k => by simp [wrO, ovO_eq]
 | o + 1, vs, [], k => by simp [wrO]
 | o + 1, vs, c :: cs, k => by
  have h1 : o + 1 + vs.length = o + vs.length + 1 := by omega
  simp [wrO, wrO_eq o vs cs, h1]
theorem wr_eq {o : Nat} {vs cs cs' : List Value} (h : wr o vs cs = some cs') : o + vs.length ≤ cs.length ∧ cs' = cs.take o ++ vs ++ cs.drop (o + vs.length) := by
 unfold wr at h
 rw [wrO_eq] at h
 split at h
 ·next h1 => cases h; exact ⟨h1, rfl⟩
 ·cases h
section
variable {P : Program} {t : TypeId} {n c : Nat} {w : World} {g o b : Nat} {ty : TypeId} {cs vs : List Value} {v : Value}
theorem addN (b o j : Nat) : (⟨b, o, none⟩ : Addr).add j = ⟨b, o + j, none⟩ := add_none b o j
theorem run_ldc [Agg P t n] (h : CellsAt w b o vs) (hl : vs.length = n) : (Instr.loadAt t (pr b o)).run P w = .ok (.agg vs.toArray) w := by
 subst hl
 have h2 := run_loadCells_list (P := P) w ⟨b, o, none⟩ vs fun j v hj => (addN b o j).symm ▸ h j v hj
 simp [Instr.loadAt, Instr.sureAddr, loadVar, Agg.ag (P := P) (t := t), Agg.sz (P := P) (t := t), h2]
theorem run_ld1c [One P t] (h : w.cell? ⟨b, o, none⟩ = some v) : (Instr.loadAt t (pr b o)).run P w = .ok v w := by
 simp only [Instr.loadAt, Instr.sureAddr, loadVar, Sem.run_bind, Sem.run_pure, Result.andThen_ok, One.ag (P := P) (t := t)]
 simp [run_load, h]
theorem blk_cells (h : Blk w g ty cs) (hc : cut o n cs = some vs) : CellsAt w g o vs ∧ vs.length = n := by
 obtain ⟨_, h2, h3⟩ := cut_eq hc
 exact ⟨fun i x hx => h.cell (h3 i x hx), h2⟩
theorem run_ldA [Agg P t n] (h : Blk w g ty cs) (hc : cut o n cs = some vs) : (Instr.loadAt t (pr g o)).run P w = .ok (.agg vs.toArray) w :=
 run_ldc (blk_cells h hc).1 (blk_cells h hc).2
theorem run_ld1 [One P t] (h : Blk w g ty cs) (hc : cs[o]? = some v) : (Instr.loadAt t (pr g o)).run P w = .ok v w := run_ld1c (h.cell hc)
theorem storeAt_eq (hn : ∀ w, (Go.sizeOf t).run P w = .ok n w) (hv : v.cells.size = n) : (Instr.storeAt t (pr g o) v).run P w = (storeCells ⟨g, o, none⟩ v.cells.toList).run P w := by
 have : ¬ v.cells.size ≠ n := fun h => h hv
 simp [Instr.storeAt, Instr.sureAddr, storeVar, hn, hv]
theorem run_sto (h : Blk w g ty cs) (hn : ∀ w, (Go.sizeOf t).run P w = .ok n w) (hv : v.cells = vs.toArray) (hl : vs.length = n) (h1 : ∀ x ∈ vs, x.oneCell' = true) {cs' : List Value} (hw : wr o vs cs = some cs') :
 ∃ w', (Instr.storeAt t (pr g o) v).run P w = .ok () w' ∧ Mo [g] w w' ∧ Blk w' g ty cs' := by
 obtain ⟨h2, rfl⟩ := wr_eq hw
 have hr := run_storeCells_at P g o ty vs 0 cs.toArray w h (by simpa using h2) h1
 rw [storeAt_eq hn (by rw [hv]; simpa using hl), hv]
 refine ⟨_, hr, ⟨rfl, rfl, rfl, ?_, fun k hk hs => ?_⟩, ?_⟩
 ·simp [World.setRow]
 ·have : k ≠ g := by simpa using hs
  simp [World.setRow, Array.getElem?_modify, this.symm]
 ·unfold Blk
  rw [setRow_heap w g cs.toArray _ ty _ h]
  simp
end
section
variable {P : Program} {t : TypeId} {n c : Nat} {S : List Nat} {w0 w : World} {L : List Et} {g o b i : Nat} {ty : TypeId} {cs vs : List Value} {v : Value} {K : Value → World → Prop} {KP : Value → Prop} {KW : World → Prop} {rest : Prop} {wi : Bool}
theorem V_of {s : Sem Value} {w' : World} (h : s.run P w = .ok v w') (hk : K v w') : V P s w K := ⟨v, w', h, hk⟩
theorem ldA [Agg P t n] (h : Hp S w0 w L) (i : Nat) (hi : L[i]? = some (bx g ty cs)) (hc : cut o n cs = some vs) (hk : K (.agg vs.toArray) w) : Ld P t (pr g o) w K :=
 V_of (run_ldA (h.get hi) hc) hk
theorem ld1 [One P t] (h : Hp S w0 w L) (i : Nat) (hi : L[i]? = some (bx g ty cs)) (hc : cs[o]? = some v) (hk : K v w) : Ld P t (pr g o) w K :=
 V_of (run_ld1 (h.get hi) hc) hk
theorem dlA [Agg P t n] (h : Hp S w0 w L) (i : Nat) (hi : L[i]? = some (bx g ty cs)) (hc : cut o n cs = some vs) (hk : KP (.agg vs.toArray)) : Dv P false (Instr.loadAt t (pr g o)) w KP :=
 ⟨_, run_ldA (h.get hi) hc, hk⟩
theorem dl1 [One P t] (h : Hp S w0 w L) (i : Nat) (hi : L[i]? = some (bx g ty cs)) (hc : cs[o]? = some v) (hk : KP v) : Dv P false (Instr.loadAt t (pr g o)) w KP :=
 ⟨_, run_ld1 (h.get hi) hc, hk⟩
theorem klA [Agg P t n] (h : Hp S w0 w L) (i : Nat) (hi : L[i]? = some (bx g ty cs)) (hc : cut o n cs = some vs) (hk : rest) : Ke P (Instr.loadAt t (pr g o)) (.agg vs.toArray) w rest :=
 ⟨run_ldA (h.get hi) hc, hk⟩
theorem kl1 [One P t] (h : Hp S w0 w L) (i : Nat) (hi : L[i]? = some (bx g ty cs)) (hc : cs[o]? = some v) (hk : rest) : Ke P (Instr.loadAt t (pr g o)) v w rest :=
 ⟨run_ld1 (h.get hi) hc, hk⟩
theorem rcA [Agg P t n] (h : Hp S w0 w L) (i : Nat) (hi : L[i]? = some (bx g ty cs)) (hc : cut 0 n cs = some vs) (hk : KP (.agg vs.toArray)) : Rc P t (pr g 0) w KP :=
 ⟨_, run_ldA (P := P) (t := t) (h.get hi) hc, hk⟩
theorem lcA [Agg P t n] (hc : CellsAt w b o vs) (hl : vs.length = n) (hk : K (.agg vs.toArray) w) : Ld P t (pr b o) w K := V_of (run_ldc hc hl) hk
theorem lc1 [One P t] (hc : CellsAt w b o vs) {k : Nat} (hl : vs[k]? = some v) (hk : K v w) : Ld P t (pr b (o + k)) w K := V_of (run_ld1c (hc k v hl)) hk
theorem lc0 [One P t] (hc : CellsAt w b o vs) (hl : vs[0]? = some v) (hk : K v w) : Ld P t (pr b o) w K := V_of (run_ld1c (hc 0 v hl)) hk
theorem dcA [Agg P t n] (hc : CellsAt w b o vs) (hl : vs.length = n) (hk : KP (.agg vs.toArray)) : Dv P false (Instr.loadAt t (pr b o)) w KP := ⟨_, run_ldc hc hl, hk⟩
theorem dc0 [One P t] (hc : CellsAt w b o vs) (hl : vs[0]? = some v) (hk : KP v) : Dv P false (Instr.loadAt t (pr b o)) w KP := ⟨_, run_ld1c (hc 0 v hl), hk⟩
theorem kcA [Agg P t n] (hc : CellsAt w b o vs) (hl : vs.length = n) (hk : rest) : Ke P (Instr.loadAt t (pr b o)) (.agg vs.toArray) w rest := ⟨run_ldc hc hl, hk⟩
theorem kc0 [One P t] (hc : CellsAt w b o vs) (hl : vs[0]? = some v) (hk : rest) : Ke P (Instr.loadAt t (pr b o)) v w rest := ⟨run_ld1c (hc 0 v hl), hk⟩
theorem faS {f off : Nat} [Fld P t f off] (hk : K (pr g (o + off)) w) : Fa P t (pr g o) f w K := V_of (Fld.fa _ _ _) hk
theorem dfS {f off : Nat} [Fld P t f off] (hk : KP (pr g (o + off))) : Dv P wi (Instr.fieldAt t (pr g o) f) w KP := by
 cases wi
 ·exact ⟨_, Fld.fa _ _ _, hk⟩
 ·exact ⟨_, fun w' => Fld.fa w' _ _, hk⟩
theorem iaA [Arr P t n c] {k : IntKind} {j : Nat} (hj : j < n) (hk : K (pr g (o + j * c)) w) : Ia P t (pr g o) (.int k (j : Int)) w K := V_of (Arr.ia _ _ _ _ _ hj) hk
theorem diA [Arr P t n c] {k : IntKind} {j : Nat} (hj : j < n) (hk : KP (pr g (o + j * c))) : Dv P wi (Instr.indexAt t (pr g o) (.int k (j : Int))) w KP := by
 cases wi
 ·exact ⟨_, Arr.ia _ _ _ _ _ hj, hk⟩
 ·exact ⟨_, fun w' => Arr.ia w' _ _ _ _ hj, hk⟩
theorem Hp.al (h : Hp S w0 w L) (cs : List Value) (ty : TypeId) : Hp S w0 (w.alloc (.cells cs.toArray ty)) (bx w.heap.size ty cs :: L) :=
 h.xn ((Ext.refl w).al _) (bx_at (Blk.al w cs ty)) (by simp)
theorem alS {zs : List Value} [hz : Zer P t zs] (h : Hp S w0 w L) (hk : ∀ g w1, Hp S w0 w1 (bx g t zs :: L) → K (pr g 0) w1) : Al P t w K := by
 obtain ⟨z, h1, h2⟩ := hz.zr
 refine V_of (P := P) (v := pr w.heap.size 0) (w' := w.alloc (.cells zs.toArray t)) ?_ (hk _ _ (h.al zs t))
 simp [Instr.alloc, h1, newVar, newRow, h2]
theorem bxA (h : Hp S w0 w L) (hk : ∀ g w1, Hp S w0 w1 (bx g t cs :: L) → K (pr g 0) w1) : Bx P t (.agg cs.toArray) w K := by
 refine V_of (P := P) (v := pr w.heap.size 0) (w' := w.alloc (.cells cs.toArray t)) ?_ (hk _ _ (h.al cs t))
 simp [Instr.box, newVar, newRow, Value.cells]
theorem stA [hA : Agg P t n] (h : Hp S w0 w L) (i : Nat) (hi : L[i]? = some (bx g ty cs)) (hl : vs.length = n) (h1 : (vs.all fun x => x.oneCell') = true) {cs' : List Value} (hw : wr o vs cs = some cs')
 (hk : ∀ w1, Hp S w0 w1 (L.set i (bx g ty cs')) → KW w1) : Sto P t (pr g o) (.agg vs.toArray) w KW := by
 obtain ⟨w', hr, hm, hb⟩ := run_sto (P := P) (t := t) (o := o) (v := .agg vs.toArray) (h.get hi) hA.sz (by rfl) hl (fun x hx => List.all_eq_true.1 h1 x hx) hw
 exact ⟨w', hr, hk w' (h.up hi hm (bx_at hb) fun k hk => .inl hk)⟩
theorem st1 [hO : One P t] (h : Hp S w0 w L) (i : Nat) (hi : L[i]? = some (bx g ty cs)) (hv : v.cells = #[v]) (h1 : v.oneCell' = true) {cs' : List Value} (hw : wr o [v] cs = some cs')
 (hk : ∀ w1, Hp S w0 w1 (L.set i (bx g ty cs')) → KW w1) : Sto P t (pr g o) v w KW := by
 obtain ⟨w', hr, hm, hb⟩ := run_sto (P := P) (t := t) (o := o) (v := v) (vs := [v]) (h.get hi) hO.sz (by rw [hv]) rfl (fun x hx => by rw [List.mem_singleton] at hx; rw [hx]; exact h1) hw
 exact ⟨w', hr, hk w' (h.up hi hm (bx_at hb) fun k hk => .inl hk)⟩
theorem cl1 {f : FuncId} {args : Array Value} {pan : List PanicEntry → World → Prop} (h : Hp S w0 w L) (hn : Enters P f) (hc : Calls P f args w (Ret fun r w' => Ext w w' ∧ r = v)) (hk : ∀ w1, Hp S w0 w1 L → K v w1) : Cl P f args w pan K :=
 Cl_i hn hc fun r w' ⟨x, e⟩ => by subst e; exact hk w' (h.x x)
theorem Hp.nil (h : Hp S w0 w L) (e : TypeId) (c : Nat) : Hp S w0 w (ro e c (.slice none 0 0) 0 [] :: L) :=
 h.nw (ro_at (World.ownsRow_nil w 0 e c)) (fun k hk => by simp [Value.ownBlock] at hk) fun x _ k hk => by simp [Value.ownBlock] at hk
theorem ownsRow_b0 {e : TypeId} {base : Nat} {xs : List Value} (h : w.ownsRow base e c v n xs) : w.ownsRow 0 e c v n xs := by
 obtain ⟨h1, h | ⟨g, cap, cur, h2, _, h3⟩⟩ := h
 ·exact ⟨h1, .inl h⟩
 ·exact ⟨h1, .inr ⟨g, cap, cur, h2, Nat.zero_le _, h3⟩⟩
theorem Hp.row (h : Hp S w0 w L) {w' : World} (x : Ext w w') {e : TypeId} {xs : List Value} (hr : w'.ownsRow w.heap.size e c v n xs) : Hp S w0 w' (ro e c v n xs :: L) :=
 h.xn x (ro_at (ownsRow_b0 hr)) fun k hk => World.ownsRow.lt hr k (by simpa using hk)
theorem Hp.sl (h : Hp S w0 w L) {e : TypeId} {xs : List Value} (hi : L[i]? = some (ro e c v n xs)) : SlC w c v n xs := ownsRow_sl (h.get hi)
theorem run_ap {T u : TypeId} [hs : Slt P t u c] {ti : TypeInfo} {z : Value} (hi : P.info? u = some ti) (hz : ti.zero = some z) (hsz : ti.size = c) (h2 : ti.bytes ≤ 4096) (hzs : z.cells.size = c) (hc : 0 < c)
 {xs ys : List Value} (ho : w.ownsRow 0 u c v n xs) {v2 : Value} {m : Nat} (hs2 : SlC w c v2 m ys) (hy : ∀ y ∈ ys, y.oneCell' = true) (hn : n + m ≤ 16777216) :
 ∃ v' w', (Builtin.append_ #[t, t] T #[v, v2]).run P w = .ok v' w' ∧ w'.ownsRow 0 u c v' (n + m) (xs ++ ys) ∧ w.grownBy w' v.ownBlock ∧ ∀ k, v'.ownBlock = some k → v.ownBlock = some k ∨ (w.heap.size ≤ k ∧ k < w'.heap.size) := by
 have h63 : n + m ≤ maxLen := by unfold maxLen; omega
 have hby : (n + m) * ti.bytes ≤ 140737488355328 := by have := Nat.mul_le_mul hn h2; omega
 obtain ⟨hl, ⟨rfl, rfl⟩ | ⟨b, o, cap2, rfl, hcap, hcells⟩⟩ := hs2
 ·have : ys = [] := List.eq_nil_of_length_eq_zero (by simpa using hl)
  subst this
  exact ⟨v, w, run_append_owned_none w 0 t T u ti c hs.un hi v n xs ho, by simpa using ho, ⟨rfl, rfl, rfl, Nat.le_refl _, fun _ _ _ => rfl⟩, fun k hk => .inl hk⟩
 ·have hcells' : ∀ j u, ys[j]? = some u → w.cell? ((⟨b, o, none⟩ : Addr).add j) = some u := fun j u hu => (addN b o j).symm ▸ hcells j u hu
  rcases ho.2 with ⟨rfl, rfl⟩ | ⟨g, cap, cur, rfl, hbg, hg, hnc, hcm, hcs, htake⟩
  ·have hx : xs = [] := List.eq_nil_of_length_eq_zero (by simpa using ho.1)
   subst hx
   obtain ⟨v', w', hr, ho', hg, _⟩ := run_append_own w w.heap.size t T u ti z c ti.bytes hs.un hi hz hsz rfl hzs hc _ 0 [] (World.ownsRow_nil w _ u c) ⟨b, o, none⟩ m cap2 ys hl hcells' hy h63 hby (Nat.le_refl _)
   exact ⟨v', w', hr, ownsRow_b0 ho', hg, fun k hk => .inr (World.ownsRow.lt ho' k hk)⟩
  ·by_cases hroom : n + m ≤ cap
   ·obtain ⟨w', hr, ho', hg'⟩ := run_append_fits (P := P) w 0 t T u ti c hs.un hi hsz g n cap xs ho ⟨b, o, none⟩ m cap2 ys hl hcells' hy hroom
    exact ⟨_, w', hr, ho', hg', fun k hk => .inl hk⟩
   ·have holds : ∀ j u, xs[j]? = some u → w.cell? ((⟨g, 0, none⟩ : Addr).add j) = some u := ho.cells (g := g) rfl
    subst hsz
    have hr := run_append_grow (P := P) w t T u ti z hs.un hi hz ⟨g, 0, none⟩ n cap xs ho.1 holds ⟨b, o, none⟩ m cap2 ys hl hcells' (by omega) (by simp only [maxLen] at h63; omega) (growslice_fits (by omega) hby)
    have hge := grownCap_ge w (n + m) cap u
    have hcm' : grownCap w (n + m) cap u ≤ maxLen := grownCap_le_maxLen w (n + m) cap u h63
    have hlen : (xs ++ ys).length = (n + m) * ti.size := by rw [List.length_append, ho.1, hl, Nat.add_mul]
    refine ⟨_, _, hr, ⟨hlen, .inr ⟨w.heap.size, _, _, rfl, Nat.zero_le _, heap_alloc_new w.drew _, hge, hcm', ?_, ?_⟩⟩, ⟨rfl, rfl, rfl, by simp, fun k hk _ => heap_alloc_old w.drew _ k hk⟩, fun k hk => .inr ?_⟩
    ·simp only [Array.size_append, List.size_toArray, size_zeroCells, hzs, ho.1, hl, ← Nat.add_mul]
     congr 1
     omega
    ·simp only [Array.toList_append, List.append_assoc]
     rw [← List.append_assoc, ← hlen]
     exact List.take_left
    ·simp [Value.ownBlock] at hk
     subst hk
     simp
theorem apS {T u : TypeId} [hs : Slt P t u c] {ti : TypeInfo} {z : Value} (hi : P.info? u = some ti) (hz : ti.zero = some z) (hsz : ti.size = c) (h2 : ti.bytes ≤ 4096) (hzs : z.cells.size = c) (hc : 0 < c)
 (h : Hp S w0 w L) (k : Nat) {xs ys : List Value} (hL : L[k]? = some (ro u c v n xs)) {v2 : Value} {m : Nat} (hs2 : SlC w c v2 m ys) (hy : (ys.all fun x => x.oneCell') = true) (hn : n + m ≤ 16777216)
 (hk : ∀ v' w1, Hp S w0 w1 (L.set k (ro u c v' (n + m) (xs ++ ys))) → K v' w1) : Bt P .append #[t, t] T #[v, v2] w K := by
 obtain ⟨v', w', hr, ho', hg, hkey⟩ := run_ap (P := P) (t := t) (T := T) hi hz hsz h2 hzs hc (h.get hL) hs2 (fun y hy' => List.all_eq_true.1 hy y hy') hn
 show V P (Builtin.append_ #[t, t] T #[v, v2]) w K
 refine V_of hr (hk v' w' (h.up hL (.grown hg fun k hk => .inl (by simp [hk])) (ro_at ho') fun k hk => ?_))
 have hk' : v'.ownBlock = some k := by simpa using hk
 rcases hkey k hk' with h1 | h1
 ·exact .inl (by simp [h1])
 ·exact .inr h1
end
class Slm (P : Program) (t : TypeId) (e : outParam TypeId) (zs : outParam (List Value)) : Prop where
 inf : ∃ i z, P.info? e = some i ∧ i.zero = some z ∧ z.cells = zs.toArray ∧ i.size = zs.length ∧ i.bytes ≤ 4096
theorem SlC.cells {w : World} {c n : Nat} {v : Value} {xs : List Value} (h : SlC w c v n xs) : xs.length = n * c := h.1
theorem SlC.cell {w : World} {c n : Nat} {v : Value} {xs : List Value} (h : SlC w c v n xs) (h0 : 0 < xs.length) : ∃ b o cap, v = .slice (some ⟨b, o, none⟩) n cap ∧ n ≤ cap ∧ CellsAt w b o xs := by
 obtain ⟨h1, ⟨h2, h3⟩ | h2⟩ := h
 ·subst h3; simp at h1; subst h1; simp at h0
 ·exact h2
section
variable {P : Program} {t : TypeId} {n c : Nat} {S : List Nat} {w0 w : World} {L : List Et} {g o b i : Nat} {ty e : TypeId} {cs vs xs ys : List Value} {v : Value} {K : Value → World → Prop} {KP : Value → Prop} {KW : World → Prop} {rest : Prop} {wi : Bool}
def Seg (xs : List Value) (o : Nat) (vs : List Value) : Prop := ∀ k v, vs[k]? = some v → xs[o + k]? = some v
theorem CellsAt.seg (h : CellsAt w b o xs) {k : Nat} (hs : Seg xs k vs) : CellsAt w b (o + k) vs := fun i x hx => by
 have := h (k + i) x (hs i x hx)
 rw [Nat.add_assoc]; exact this
theorem flat_len {α : Type} {f : α → List Value} (hf : ∀ a, (f a).length = c) : ∀ l : List α, (l.flatMap f).length = l.length * c
 | [] => by simp
 | a :: l => by rw [List.flatMap_cons, List.length_append, hf, flat_len hf l, List.length_cons, Nat.add_mul]; omega
theorem flat_seg {α : Type} {f : α → List Value} (hf : ∀ a, (f a).length = c) : ∀ {l : List α} {j : Nat} {a : α}, l[j]? = some a → Seg (l.flatMap f) (j * c) (f a)
 | [], j, a, h => by simp at h
 | x :: l, 0, a, h => by
  simp at h; subst h
  intro k v hk
  rw [Nat.zero_mul, Nat.zero_add, List.flatMap_cons, List.getElem?_append_left (List.getElem?_eq_some_iff.1 hk).1]
  exact hk
 | x :: l, j + 1, a, h => by
  intro k v hk
  have := flat_seg hf (l := l) (j := j) (a := a) (by simpa using h) k v hk
  rw [List.flatMap_cons, List.getElem?_append_right (by rw [hf, Nat.add_mul]; omega), hf, show (j + 1) * c + k - c = j * c + k by rw [Nat.add_mul]; omega]
  exact this
theorem flat_take {α : Type} {f : α → List Value} (hf : ∀ a, (f a).length = c) (l : List α) (k : Nat) : (l.flatMap f).take (k * c) = (l.take k).flatMap f := by
 induction l generalizing k with
 | nil => simp
 | cons a l ih =>
  cases k with
  | zero => simp
  | succ k =>
   rw [List.flatMap_cons, List.take_succ_cons, List.flatMap_cons, List.take_append, hf, List.take_of_length_le (by rw [hf, Nat.add_mul]; omega), show (k + 1) * c - c = k * c by rw [Nat.add_mul]; omega, ih]
theorem flat_drop {α : Type} {f : α → List Value} (hf : ∀ a, (f a).length = c) (l : List α) (k : Nat) : (l.flatMap f).drop (k * c) = (l.drop k).flatMap f := by
 induction l generalizing k with
 | nil => simp
 | cons a l ih =>
  cases k with
  | zero => simp
  | succ k =>
   rw [List.flatMap_cons, List.drop_succ_cons, List.drop_append, hf, List.drop_of_length_le (by rw [hf, Nat.add_mul]; omega), show (k + 1) * c - c = k * c by rw [Nat.add_mul]; omega, ih, List.nil_append]
theorem iaS [hs : Slt P t e c] (h : SlC w c v n xs) {k : IntKind} {j : Nat} (hj : j < n) (hk : ∀ b o cap, v = .slice (some ⟨b, o, none⟩) n cap → CellsAt w b o xs → K (pr b (o + j * c)) w) : Ia P t v (.int k (j : Int)) w K := by
 obtain ⟨h0, ⟨rfl, hn⟩ | ⟨b, o, cap, rfl, hc, hcells⟩⟩ := h
 ·omega
 ·refine V_of ?_ (hk b o cap rfl hcells)
  have hn : j < n := hj
  simp [Instr.indexAt, run_underlying hs.un, hs.sz, asIntOf, addN, hn]
theorem leS [hs : Slt P t e c] {T : TypeId} (h : SlC w c v n xs) (hk : K (.int .i64 (n : Int)) w) : Bt P .len #[t] T #[v] w K := by
 obtain ⟨h0, ⟨rfl, rfl⟩ | ⟨b, o, cap, rfl, hc, hcells⟩⟩ := h
 ·exact Bt_lenL ⟨_, hs.un⟩ hk
 ·exact Bt_lenL ⟨_, hs.un⟩ hk
theorem run_len [hs : Slt P t e c] {T : TypeId} (h : SlC w c v n xs) (w' : World) : (bV .len #[t] T #[v]).run P w' = .ok (.int .i64 (n : Int)) w' := by
 obtain ⟨h0, ⟨rfl, rfl⟩ | ⟨b, o, cap, rfl, hc, hcells⟩⟩ := h
 ·simp [bV, Builtin.len_, run_underlying hs.un, goInt]
 ·simp [bV, Builtin.len_, run_underlying hs.un, goInt]
theorem dlS [hs : Slt P t e c] {T : TypeId} (h : SlC w c v n xs) (hk : KP (.int .i64 (n : Int))) : Dv P wi (bV .len #[t] T #[v]) w KP := by
 cases wi
 ·exact ⟨_, run_len h w, hk⟩
 ·exact ⟨_, fun w' => run_len h w', hk⟩
theorem SlC.part (h : SlC w c v n xs) {lo hi : Nat} (h1 : lo ≤ hi) (h2 : hi ≤ n) {a : Option Addr} {l m : Nat} (hv : v = .slice a l m) :
 SlC w c (.slice (if m = lo then a else a.map (·.add (lo * c))) (hi - lo) (m - lo)) (hi - lo) ((xs.drop (lo * c)).take ((hi - lo) * c)) := by
 obtain ⟨h0, ⟨h3, h4⟩ | ⟨b, o, cap, h3, hc, hcells⟩⟩ := h
 ·rw [hv] at h3
  cases h3
  subst h4
  have : lo = 0 := by omega
  have : hi = 0 := by omega
  subst_vars
  exact ⟨by simp, .inl ⟨by simp, rfl⟩⟩
 ·rw [hv] at h3
  cases h3
  refine ⟨?_, .inr ?_⟩
  ·rw [List.length_take, List.length_drop, h0, ← Nat.sub_mul, Nat.min_eq_left]
   exact Nat.mul_le_mul_right c (by omega)
  ·by_cases hm : m = lo
   ·refine ⟨b, o, m - lo, by rw [if_pos hm], by omega, fun i x hx => ?_⟩
    have : hi - lo = 0 := by omega
    rw [this] at hx
    simp at hx
   ·refine ⟨b, o + lo * c, m - lo, by rw [if_neg hm]; simp [addN], by omega, fun i x hx => ?_⟩
    rw [List.getElem?_take, List.getElem?_drop] at hx
    split at hx
    ·rw [Nat.add_assoc]; exact hcells _ _ hx
    ·cases hx
theorem SlC.key (h : SlC w c v n xs) : ∃ a l m, v = .slice a l m ∧ l = n ∧ n ≤ m := by
 obtain ⟨h0, ⟨h3, h4⟩ | ⟨b, o, cap, h3, hc, hcells⟩⟩ := h
 ·exact ⟨none, 0, 0, h3, h4.symm, by omega⟩
 ·exact ⟨_, _, _, h3, rfl, hc⟩
theorem part_key {a : Option Addr} {l m lo hi : Nat} : (Value.slice (if m = lo then a else a.map (·.add (lo * c))) (hi - lo) (m - lo)).ownBlock = (Value.slice a l m).ownBlock := by
 cases a with
 | none => simp [Value.ownBlock]
 | some a =>
  by_cases h : m = lo
  ·simp [h, Value.ownBlock]
  ·rw [if_neg h]
   show some (a.add _).block = some a.block
   unfold Addr.add
   split <;> rfl
theorem scL [hs : Slt P t e c] (h : SlC w c v n xs) {k : IntKind} {lo : Nat} (h1 : lo ≤ n) (hk : ∀ v', v'.ownBlock = v.ownBlock → SlC w c v' (n - lo) (xs.drop (lo * c)) → K v' w) :
 Sc P t v (some (.int k (lo : Int))) none none w K := by
 obtain ⟨a, l, m, hv, rfl, hm⟩ := h.key
 have hp := h.part h1 (Nat.le_refl l) hv
 have hl : (xs.drop (lo * c)).take ((l - lo) * c) = xs.drop (lo * c) := List.take_of_length_le (by rw [List.length_drop, h.1, Nat.sub_mul]; omega)
 rw [hl] at hp
 refine V_of ?_ (hk (.slice (if m = lo then a else a.map (·.add (lo * c))) (l - lo) (m - lo)) (by rw [hv]; exact part_key (l := l)) hp)
 subst hv
 have a1 : lo ≤ l := h1
 simp [Instr.sliceAt, Instr.slice, Instr.sliceBounds, Instr.sliceBound, run_underlying hs.un, hs.sz, asIntOf, a1]
theorem apR [hs : Slt P t e c] {zs : List Value} [hm : Slm P t e zs] {T : TypeId} (hcz : c = zs.length) (hc0 : 0 < zs.length)
 (h : Hp S w0 w L) (k : Nat) (hL : L[k]? = some (ro e c v n xs)) {v2 : Value} {m : Nat} (hs2 : SlC w c v2 m ys) (hy : (ys.all fun x => x.oneCell') = true) (hn : n + m ≤ 16777216)
 (hk : ∀ v' w1, Hp S w0 w1 (L.set k (ro e c v' (n + m) (xs ++ ys))) → K v' w1) : Bt P .append #[t, t] T #[v, v2] w K := by
 obtain ⟨ti, z, h1, h2, h3, h4, h5⟩ := hm.inf
 exact apS h1 h2 (by rw [h4, hcz]) h5 (by rw [h3, hcz]; rfl) (by omega) h k hL hs2 hy hn hk
end
section
variable {P : Program} {t : TypeId} {n c : Nat} {S : List Nat} {w0 w : World} {L : List Et} {g o b i : Nat} {ty e : TypeId} {cs vs xs ys : List Value} {v : Value} {K : Value → World → Prop} {KP : Value → Prop} {KW : World → Prop} {rest : Prop} {wi : Bool}
theorem row_cells {g cap : Nat} (h : w.ownsRow 0 e c (.slice (some ⟨g, 0, none⟩) n cap) n xs) : CellsAt w g 0 xs :=
 fun i x hx => add_none g 0 i ▸ World.ownsRow.cells h (g := g) rfl i x hx
theorem iaR [hs : Slt P t e c] (h : Hp S w0 w L) (k : Nat) (hL : L[k]? = some (ro ty c v n xs)) {kk : IntKind} {j : Nat} (hj : j < n) (hk : ∀ g cap, v = .slice (some ⟨g, 0, none⟩) n cap → K (pr g (0 + j * c)) w) : Ia P t v (.int kk (j : Int)) w K := by
 have ho := h.get hL
 obtain ⟨h0, ⟨rfl, hn⟩ | ⟨g, cap, cur, rfl, _⟩⟩ := ho
 ·omega
 ·exact iaS (h.sl hL) hj fun b o cap' hv _ => by cases hv; exact hk g cap rfl
theorem run_stoR {g cap : Nat} (h : w.ownsRow 0 e c (.slice (some ⟨g, 0, none⟩) n cap) n xs) (hn : ∀ w, (Go.sizeOf t).run P w = .ok vs.length w) (hv : v.cells = vs.toArray) (h1 : ∀ x ∈ vs, x.oneCell' = true) (ho : o + vs.length ≤ n * c) :
 ∃ w', (Instr.storeAt t (pr g o) v).run P w = .ok () w' ∧ Mo [g] w w' ∧ w'.ownsRow 0 e c (.slice (some ⟨g, 0, none⟩) n cap) n (xs.take o ++ vs ++ xs.drop (o + vs.length)) := by
 obtain ⟨hx, ⟨h', _⟩ | ⟨g', cap', cur, h', hb, hg, hnc, hcm, hcs, htake⟩⟩ := h
 ·cases h'
 ·cases h'
  have hle : n * c ≤ cap * c := Nat.mul_le_mul_right c hnc
  have hr := run_storeCells_at P g o e vs 0 cur w hg (by omega) h1
  rw [storeAt_eq hn (by rw [hv]; rfl), hv]
  refine ⟨_, hr, ⟨rfl, rfl, rfl, ?_, fun k hk hs => ?_⟩, ?_, .inr ⟨g, cap, _, rfl, Nat.zero_le _, setRow_heap w g cur _ e _ hg, hnc, hcm, ?_, ?_⟩⟩
  ·simp [World.setRow]
  ·have : k ≠ g := by simpa using hs
   simp [World.setRow, Array.getElem?_modify, this.symm]
  ·simp only [List.length_append, List.length_take, List.length_drop, hx]; omega
  ·simp only [List.size_toArray, List.length_append, List.length_take, List.length_drop, Array.length_toList, hcs]; omega
  ·rw [Nat.add_zero]
   show List.take (n * c) (cur.toList.take o ++ vs ++ cur.toList.drop (o + vs.length)) = _
   rw [← htake, List.take_append, List.take_of_length_le (by simp; omega)]
   congr 1
   ·rw [List.take_take, Nat.min_eq_left (by omega)]
   ·rw [List.drop_take]
    congr 1
    simp only [List.length_append, List.length_take, Array.length_toList, hcs]; omega
theorem stRA [hA : Agg P t i] (h : Hp S w0 w L) (k : Nat) {cap : Nat} (hL : L[k]? = some (ro e c v n xs)) (hv : v = .slice (some ⟨g, 0, none⟩) n cap) (hl : vs.length = i) (h1 : (vs.all fun x => x.oneCell') = true) (ho : o + vs.length ≤ n * c)
 (hk : ∀ w1, Hp S w0 w1 (L.set k (ro e c v n (xs.take o ++ vs ++ xs.drop (o + vs.length)))) → KW w1) : Sto P t (pr g o) (.agg vs.toArray) w KW := by
 subst hv
 obtain ⟨w', hr, hm, hb⟩ := run_stoR (P := P) (t := t) (o := o) (v := .agg vs.toArray) (h.get hL) (by rw [hl]; exact hA.sz) rfl (fun x hx => List.all_eq_true.1 h1 x hx) ho
 exact ⟨w', hr, hk w' (h.up hL hm (ro_at hb) fun k hk => .inl hk)⟩
theorem stR1 [hO : One P t] (h : Hp S w0 w L) (k : Nat) {cap : Nat} {u : Value} (hL : L[k]? = some (ro e c v n xs)) (hv : v = .slice (some ⟨g, 0, none⟩) n cap) (hu : u.cells = #[u]) (h1 : u.oneCell' = true) (ho : o < n * c)
 (hk : ∀ w1, Hp S w0 w1 (L.set k (ro e c v n (xs.set o u))) → KW w1) : Sto P t (pr g o) u w KW := by
 subst hv
 obtain ⟨w', hr, hm, hb⟩ := run_stoR (P := P) (t := t) (o := o) (v := u) (vs := [u]) (h.get hL) hO.sz hu (fun x hx => by rw [List.mem_singleton] at hx; rw [hx]; exact h1) ho
 have hxl : xs.length = n * c := (h.get hL).1
 have e1 : xs.take o ++ [u] ++ xs.drop (o + [u].length) = xs.set o u := by
  rw [List.set_eq_take_append_cons_drop, if_pos (by omega)]; simp
 rw [e1] at hb
 exact ⟨w', hr, hk w' (h.up hL hm (ro_at hb) fun k hk => .inl hk)⟩
theorem made_flat {α : Type} {f : α → List Value} {a : α} {zs : List Value} (hf : f a = zs) (h0 : 0 < zs.length) (n : Nat) : (madeCells zs.toArray (n * zs.length)).toList = (List.replicate n a).flatMap f := by
 subst hf
 apply List.ext_getElem?
 intro j
 have hlen : ((List.replicate n a).flatMap f).length = n * (f a).length := by
  induction n with
  | zero => simp
  | succ n ih => rw [List.replicate_succ, List.flatMap_cons, List.length_append, ih, Nat.add_mul]; omega
 by_cases hj : j < n * (f a).length
 ·have hm : j % (f a).length < (f a).length := Nat.mod_lt _ h0
  have h1 : (madeCells (f a).toArray (n * (f a).length)).toList[j]? = some ((f a)[j % (f a).length]) := by
   simp [madeCells, hj, hm]
  have h2 : ∀ (n : Nat) (j : Nat), j < n * (f a).length → ((List.replicate n a).flatMap f)[j]? = some ((f a)[j % (f a).length]'(Nat.mod_lt _ h0)) := by
   intro n
   induction n with
   | zero => intro j hj; simp at hj
   | succ n ih =>
    intro j hj
    rw [List.replicate_succ, List.flatMap_cons]
    by_cases hl : j < (f a).length
    ·rw [List.getElem?_append_left hl]
     simp only [Nat.mod_eq_of_lt hl]
     exact List.getElem?_eq_getElem hl
    ·have h3 : j - (f a).length < n * (f a).length := by rw [Nat.add_mul] at hj; omega
     rw [List.getElem?_append_right (by omega), ih _ h3]
     congr 2
     rw [← Nat.mod_eq_sub_mod (by omega)]
  rw [h1, h2 n j hj]
 ·rw [List.getElem?_eq_none (by simp [madeCells]; omega), List.getElem?_eq_none (by rw [hlen]; omega)]
theorem msS {zs : List Value} [hs : Slt P t e c] [hm : Slm P t e zs] {α : Type} (f : α → List Value) (a : α) (hf : f a = zs) (h0 : 0 < zs.length) (h : Hp S w0 w L) {kl kc : IntKind} (hn : n ≤ 16777216) (hc : n * zs.length ≤ 16777216)
 (hk : ∀ v w1, (∃ g, v = .slice (some ⟨g, 0, none⟩) n n) → Hp S w0 w1 (ro e zs.length v n ((List.replicate n a).flatMap f) :: L) → K v w1) : Ms P t (.int kl (n : Int)) (.int kc (n : Int)) w K := by
 obtain ⟨ti, z, h1, h2, h3, h4, h5⟩ := hm.inf
 obtain ⟨w', hr, ho, hg⟩ := run_makeSlice_full w w.heap.size t e ti z zs.length hs.un h1 h2 h4 kl kc n hc (by have := Nat.mul_le_mul h5 hn; omega) (by unfold maxLen; omega) (Nat.le_refl _)
 rw [h3, made_flat hf h0] at ho
 exact V_of hr (hk _ _ ⟨_, rfl⟩ (h.row (World.grownBy.ext hg) ho))
def lit (k : Nat) : List Value → List (Nat × Value)
 | [] => []
 | v :: l => (k, v) :: lit (k + 1) l
theorem fold_set : ∀ (l : List Value) (j o : Nat) (cs : Array Value), o + j + l.length ≤ cs.size →
 ((l.zipIdx j).foldl (fun (cs : Array Value) (x : Value × Nat) => cs.setIfInBounds (o + x.2) x.1) cs).toList = cs.toList.take (o + j) ++ l ++ cs.toList.drop (o + j + l.length)
 | [], j, o, cs, _ => by simp
 | v :: l, j, o, cs, h => by
  have hl : (v :: l).length = l.length + 1 := rfl
  rw [hl] at h ⊢
  rw [List.zipIdx_cons, List.foldl_cons, fold_set l (j + 1) o _ (by simp; omega)]
  have := list_seg_step cs.toList (o + j) v l (by simp; omega)
  simp only [Array.toList_setIfInBounds]
  have e : o + (j + 1) = o + j + 1 := by omega
  rw [e, this]
theorem fill_lit {f : Value → List Value} : ∀ (vs : List Value) (k : Nat) (cur : Array Value) (done : List Value), (∀ v ∈ vs, v.cells = (f v).toArray ∧ (f v).length = c) → done.length = k * c → cur.size = done.length + vs.length * c → cur.toList.take (k * c) = done →
 Instr.fill (fun i => some (i * c, c)) cur (lit k vs) = some (done ++ vs.flatMap f).toArray
 | [], k, cur, done, _, h1, h2, h3 => by
  have h2' : cur.size = done.length := by simpa using h2
  have h : cur.toList = done := by rw [← h3, List.take_of_length_le (by rw [Array.length_toList, h2', h1]; exact Nat.le_refl _)]
  simp only [lit, Instr.fill, List.flatMap_nil, List.append_nil]
  rw [← h, Array.toArray_toList]
 | v :: vs, k, cur, done, hv, h1, h2, h3 => by
  obtain ⟨a1, a2⟩ := hv v (by simp)
  rw [List.length_cons, Nat.add_mul] at h2
  have hsz : v.cells.size = c := by rw [a1]; simpa using a2
  have hguard : (v.cells.size ≠ c || k * c + v.cells.size > cur.size) = false := by
   rw [hsz]
   simp
   omega
  simp only [lit, Instr.fill]
  have ha : Array.foldl (fun (cs : Array Value) (x : Value × Nat) => cs.setIfInBounds (k * c + x.2) x.1) cur v.cells.zipIdx = (done ++ f v ++ cur.toList.drop (k * c + c)).toArray := by
   rw [a1]
   apply Array.ext'
   have := fold_set (f v) 0 (k * c) cur (by omega)
   rw [← Array.foldl_toList]
   simp only [Array.toList_zipIdx] at this ⊢
   rw [this, Nat.add_zero, h3, a2]
  have hb : (v.cells.size ≠ c || k * c + v.cells.size > cur.size) = false := hguard
  rw [show (if (decide (v.cells.size ≠ c) || decide (k * c + v.cells.size > cur.size)) = true then none else Instr.fill (fun i => some (i * c, c)) (Array.foldl (fun (cs : Array Value) (x : Value × Nat) => cs.setIfInBounds (k * c + x.2) x.1) cur v.cells.zipIdx) (lit (k + 1) vs)) = Instr.fill (fun i => some (i * c, c)) (Array.foldl (fun (cs : Array Value) (x : Value × Nat) => cs.setIfInBounds (k * c + x.2) x.1) cur v.cells.zipIdx) (lit (k + 1) vs) from by rw [hb]; rfl]
  rw [ha]
  have ih := fill_lit (f := f) vs (k + 1) (done ++ f v ++ cur.toList.drop (k * c + c)).toArray (done ++ f v) (fun x hx => hv x (by simp [hx])) (by rw [List.length_append, h1, a2, Nat.add_mul]; omega) (by
   simp only [List.size_toArray, List.length_append, List.length_drop, Array.length_toList, a2]
   omega) (by
   simp only
   rw [List.take_append, List.take_of_length_le (by rw [List.length_append, h1, a2, Nat.add_mul]; omega), show (k + 1) * c - (done ++ f v).length = 0 by rw [List.length_append, h1, a2, Nat.add_mul]; omega]
   simp)
  rw [ih, List.flatMap_cons, List.append_assoc]
theorem bsS {zs : List Value} [hs : Slt P t e c] [hm : Slm P t e zs] (f : Value → List Value) (hcz : c = zs.length) (h0 : 0 < zs.length) (h : Hp S w0 w L) (vs : List Value) (hv : ∀ v ∈ vs, v.cells = (f v).toArray ∧ (f v).length = c) (hn : vs.length * c ≤ 16777216) (hp : 0 < vs.length)
 (hk : ∀ v w1, (∃ g, v = .slice (some ⟨g, 0, none⟩) vs.length vs.length) → Hp S w0 w1 (ro e c v vs.length (vs.flatMap f) :: L) → K v w1) : Bs P t vs.length (lit 0 vs) w K := by
 obtain ⟨ti, z, h1, h2, h3, h4, h5⟩ := hm.inf
 have hfl : (vs.flatMap f).length = vs.length * c := by
  clear hn hp hk
  induction vs with
  | nil => simp
  | cons v l ih => rw [List.flatMap_cons, List.length_append, (hv v (by simp)).2, ih (fun x hx => hv x (by simp [hx])), List.length_cons, Nat.add_mul]; omega
 have hfill : Instr.fill (fun i => some (i * ti.size, ti.size)) ((Array.range (vs.length * ti.size)).map (z.cells[· % z.cells.size]!)) (lit 0 vs) = some (vs.flatMap f).toArray := by
  rw [h4, ← hcz]
  have := fill_lit (c := c) (f := f) vs 0 ((Array.range (vs.length * c)).map (z.cells[· % z.cells.size]!)) [] hv (by simp) (by simp) (by simp)
  simpa using this
 have hpos : 0 < vs.length * c := Nat.mul_pos hp (by omega)
 have hr := run_buildSlice (P := P) w t e vs.length (lit 0 vs).toArray (vs.flatMap f).toArray ti z hs.un h1 h2 (by rw [h4, ← hcz]; omega) (by rw [h4, ← hcz]; omega) hfill
 refine V_of hr (hk _ _ ⟨_, rfl⟩ (h.row ((Ext.refl w).al _) ?_))
 have := World.ownsRow_lit (base := w.heap.size) (e := e) (size := c) w (vs.flatMap f).toArray vs.length (Nat.le_refl _) (by unfold maxLen; have : vs.length ≤ vs.length * c := Nat.le_mul_of_pos_right _ (by omega); omega) (by simpa using hfl)
 exact this
theorem Hp.blk (h : Hp [] w0 w L) (hb : Blk w0 g ty cs) : Blk w g ty cs := hb.ext h.ext
theorem lgA [Agg P t n] (h : Hp [] w0 w L) (hb : Blk w0 g ty cs) (hc : cut o n cs = some vs) (hk : K (.agg vs.toArray) w) : Ld P t (pr g o) w K := V_of (run_ldA (h.blk hb) hc) hk
theorem lg1 [One P t] (h : Hp [] w0 w L) (hb : Blk w0 g ty cs) (hc : cs[o]? = some v) (hk : K v w) : Ld P t (pr g o) w K := V_of (run_ld1 (h.blk hb) hc) hk
theorem dgA [Agg P t n] (h : Hp [] w0 w L) (hb : Blk w0 g ty cs) (hc : cut o n cs = some vs) (hk : KP (.agg vs.toArray)) : Dv P false (Instr.loadAt t (pr g o)) w KP := ⟨_, run_ldA (h.blk hb) hc, hk⟩
theorem dg1 [One P t] (h : Hp [] w0 w L) (hb : Blk w0 g ty cs) (hc : cs[o]? = some v) (hk : KP v) : Dv P false (Instr.loadAt t (pr g o)) w KP := ⟨_, run_ld1 (h.blk hb) hc, hk⟩
theorem kgA [Agg P t n] (h : Hp [] w0 w L) (hb : Blk w0 g ty cs) (hc : cut o n cs = some vs) (hk : rest) : Ke P (Instr.loadAt t (pr g o)) (.agg vs.toArray) w rest := ⟨run_ldA (h.blk hb) hc, hk⟩
theorem kg1 [One P t] (h : Hp [] w0 w L) (hb : Blk w0 g ty cs) (hc : cs[o]? = some v) (hk : rest) : Ke P (Instr.loadAt t (pr g o)) v w rest := ⟨run_ld1 (h.blk hb) hc, hk⟩
theorem Nc_ok {a : Addr} (h : K (.pointer (some a)) w) : Nc (.pointer (some a)) w K := h
theorem CellsAt.hp (hc : CellsAt w0 b o xs) (h : Hp [] w0 w L) : CellsAt w b o xs := hc.ext h.ext
theorem SlC.hp (hc : SlC w0 c v n xs) (h : Hp [] w0 w L) : SlC w c v n xs := hc.ext h.ext
theorem iaH [hs : Slt P t e c] (h : Hp [] w0 w L) (hx : SlC w0 c v n xs) {k : IntKind} {j : Nat} (hj : j < n) (hk : ∀ b o cap, v = .slice (some ⟨b, o, none⟩) n cap → CellsAt w0 b o xs → K (pr b (o + j * c)) w) : Ia P t v (.int k (j : Int)) w K :=
 iaS (hx.hp h) hj fun b o cap hv _ => hk b o cap hv (by
  obtain ⟨h0, ⟨h1, hn⟩ | ⟨b', o', cap', h1, hc, hcells⟩⟩ := hx
  ·omega
  ·rw [hv] at h1; cases h1; exact hcells)
theorem run_ia [hs : Slt P t e c] {cap : Nat} {k : IntKind} {j : Nat} (hj : j < n) (w' : World) : (Instr.indexAt t (.slice (some ⟨b, o, none⟩) n cap) (.int k (j : Int))).run P w' = .ok (pr b (o + j * c)) w' := by
 have hn : j < n := hj
 simp [Instr.indexAt, run_underlying hs.un, hs.sz, asIntOf, addN, hn]
theorem diH [hs : Slt P t e c] (h : Hp [] w0 w L) (hx : SlC w0 c v n xs) {k : IntKind} {j : Nat} (hj : j < n) (hk : ∀ b o cap, v = .slice (some ⟨b, o, none⟩) n cap → CellsAt w0 b o xs → KP (pr b (o + j * c))) : Dv P wi (Instr.indexAt t v (.int k (j : Int))) w KP := by
 obtain ⟨h0, ⟨h1, hn⟩ | ⟨b', o', cap', rfl, hc, hcells⟩⟩ := hx
 ·omega
 ·cases wi
  ·exact ⟨_, run_ia hj _, hk _ _ _ rfl hcells⟩
  ·exact ⟨_, fun w' => run_ia hj w', hk _ _ _ rfl hcells⟩
section
variable {k : Nat} {us : List Value} {u : Value}
theorem seg_cut (hs : Seg xs k vs) {off : Nat} (hc : cut off n vs = some us) : Seg xs (k + off) us ∧ us.length = n :=
 ⟨fun i x hx => by have := hs (off + i) x ((cut_eq hc).2.2 i x hx); rw [Nat.add_assoc]; exact this, (cut_eq hc).2.1⟩
theorem lhA [Agg P t n] (h : Hp [] w0 w L) (hc : CellsAt w0 b o xs) (hs : Seg xs k vs) (hl : vs.length = n) (hk : K (.agg vs.toArray) w) : Ld P t (pr b (o + k)) w K := lcA ((hc.seg hs).hp h) hl hk
theorem dhA [Agg P t n] (h : Hp [] w0 w L) (hc : CellsAt w0 b o xs) (hs : Seg xs k vs) (hl : vs.length = n) (hk : KP (.agg vs.toArray)) : Dv P false (Instr.loadAt t (pr b (o + k))) w KP := dcA ((hc.seg hs).hp h) hl hk
theorem khA [Agg P t n] (h : Hp [] w0 w L) (hc : CellsAt w0 b o xs) (hs : Seg xs k vs) (hl : vs.length = n) (hk : rest) : Ke P (Instr.loadAt t (pr b (o + k))) (.agg vs.toArray) w rest := kcA ((hc.seg hs).hp h) hl hk
theorem lh0 [One P t] (h : Hp [] w0 w L) (hc : CellsAt w0 b o xs) (hs : Seg xs k vs) (hl : vs[0]? = some u) (hk : K u w) : Ld P t (pr b (o + k)) w K := lc0 ((hc.seg hs).hp h) hl hk
theorem dh0 [One P t] (h : Hp [] w0 w L) (hc : CellsAt w0 b o xs) (hs : Seg xs k vs) (hl : vs[0]? = some u) (hk : KP u) : Dv P false (Instr.loadAt t (pr b (o + k))) w KP := dc0 ((hc.seg hs).hp h) hl hk
theorem kh0 [One P t] (h : Hp [] w0 w L) (hc : CellsAt w0 b o xs) (hs : Seg xs k vs) (hl : vs[0]? = some u) (hk : rest) : Ke P (Instr.loadAt t (pr b (o + k))) u w rest := kc0 ((hc.seg hs).hp h) hl hk
theorem lhP [Agg P t n] {off : Nat} (h : Hp [] w0 w L) (hc : CellsAt w0 b o xs) (hs : Seg xs k vs) (hl : cut off n vs = some us) (hk : K (.agg us.toArray) w) : Ld P t (pr b (o + k + off)) w K := by
 rw [Nat.add_assoc]; exact lhA h hc (seg_cut hs hl).1 (seg_cut hs hl).2 hk
theorem dhP [Agg P t n] {off : Nat} (h : Hp [] w0 w L) (hc : CellsAt w0 b o xs) (hs : Seg xs k vs) (hl : cut off n vs = some us) (hk : KP (.agg us.toArray)) : Dv P false (Instr.loadAt t (pr b (o + k + off))) w KP := by
 rw [Nat.add_assoc]; exact dhA h hc (seg_cut hs hl).1 (seg_cut hs hl).2 hk
theorem seg_at (hs : Seg xs k vs) {off : Nat} (hl : vs[off]? = some u) : Seg xs (k + off) [u] := fun i x hx => by
 cases i with
 | zero => simp at hx; subst hx; exact hs off u hl
 | succ i => simp at hx
theorem lh1 [One P t] {off : Nat} (h : Hp [] w0 w L) (hc : CellsAt w0 b o xs) (hs : Seg xs k vs) (hl : vs[off]? = some u) (hk : K u w) : Ld P t (pr b (o + k + off)) w K := by
 rw [Nat.add_assoc]; exact lh0 h hc (seg_at hs hl) rfl hk
theorem dh1 [One P t] {off : Nat} (h : Hp [] w0 w L) (hc : CellsAt w0 b o xs) (hs : Seg xs k vs) (hl : vs[off]? = some u) (hk : KP u) : Dv P false (Instr.loadAt t (pr b (o + k + off))) w KP := by
 rw [Nat.add_assoc]; exact dh0 h hc (seg_at hs hl) rfl hk
end
theorem bs1A {zs : List Value} [hs : Slt P t e c] [hm : Slm P t e zs] (h : Hp S w0 w L) (hcz : c = zs.length) (h0 : 0 < zs.length) (hl : cs.length = c) (hn : c ≤ 16777216)
 (hk : ∀ v w1, Hp S w0 w1 (ro e c v 1 cs :: L) → K v w1) : Bs P t 1 [(0, .agg cs.toArray)] w K :=
 bsS (fun _ => cs) hcz h0 h [.agg cs.toArray] (by intro v hv; rw [List.mem_singleton] at hv; subst hv; exact ⟨rfl, hl⟩) (by simpa using hn) Nat.one_pos fun v w1 _ h1 => hk v w1 (by simpa using h1)
theorem bs1V {zs : List Value} [hs : Slt P t e 1] [hm : Slm P t e zs] (h : Hp S w0 w L) (hz : zs.length = 1) (hv : v.cells = #[v])
 (hk : ∀ u w1, Hp S w0 w1 (ro e 1 u 1 [v] :: L) → K u w1) : Bs P t 1 [(0, v)] w K :=
 bsS (fun _ => [v]) hz.symm (by omega) h [v] (by intro x hx; rw [List.mem_singleton] at hx; subst hx; exact ⟨hv, rfl⟩) (by simp) Nat.one_pos fun u w1 _ h1 => hk u w1 (by simpa using h1)
theorem Hp.cst (h : Hp S w0 w L) {L' : List Et} (hL : L = L') : Hp S w0 w L' := hL ▸ h
class Bld (P : Program) (t : TypeId) (pl : outParam (List (Nat × Nat))) (zs : outParam (List Value)) : Prop where
 bd : ∀ ps cells w, Instr.fill (fun i => pl[i]?) zs.toArray ps = some cells → (Instr.build t ps.toArray).run P w = .ok (.agg cells) w
def fillC {β : Type} (pl : List (Nat × Nat)) : List (Nat × List Value) → List Value → (List Value → Option β) → Option β
 | [], cs, k => k cs
 | (i, c) :: r, cs, k => match pl[i]? with
  | some (off, sz) => bif Nat.beq c.length sz then wrO off c cs fun cs' => fillC pl r cs' k else none
  | none => none
inductive PC : List (Nat × Value) → List (Nat × List Value) → Prop where
 | nil : PC [] []
 | cons {i : Nat} {v : Value} {c : List Value} {l : List (Nat × Value)} {m : List (Nat × List Value)} (h : v.cells = c.toArray) (r : PC l m) : PC ((i, v) :: l) ((i, c) :: m)
theorem fill_C {pl : List (Nat × Nat)} : ∀ {l : List (Nat × Value)} {m : List (Nat × List Value)} (hp : PC l m) {cs cs' : List Value}, fillC pl m cs some = some cs' → Instr.fill (fun i => pl[i]?) cs.toArray l = some cs'.toArray
 | _, _, .nil, cs, cs', h => by
  simp only [fillC, Option.some.injEq] at h
  simp only [Instr.fill, h]
 | _, _, .cons (i := i) (v := v) (c := c) (l := l) (m := m) hv r, cs, cs', h => by
  unfold fillC at h
  split at h
  ·next off sz hpl =>
   cases hb : Nat.beq c.length sz with
   | false => rw [hb] at h; cases h
   | true =>
    rw [hb] at h
    have hsz : c.length = sz := Nat.eq_of_beq_eq_true hb
    simp only [cond_true] at h
    rw [wrO_eq] at h
    split at h
    ·next hle =>
     have ih := fill_C r h
     unfold Instr.fill
     simp only [hpl]
     rw [hv]
     have hg : (decide (c.toArray.size ≠ sz) || decide (off + c.toArray.size > cs.toArray.size)) = false := by
      simp [hsz]; omega
     rw [if_neg (by rw [hg]; decide)]
     have hf : (c.toArray.zipIdx.foldl (fun (cs : Array Value) (x : Value × Nat) => cs.setIfInBounds (off + x.2) x.1) cs.toArray) = (cs.take off ++ c ++ cs.drop (off + c.length)).toArray := by
      apply Array.ext'
      have := fold_set c 0 off cs.toArray (by simpa using hle)
      rw [← Array.foldl_toList]
      simp only [Array.toList_zipIdx] at this ⊢
      rw [this, Nat.add_zero]
     exact (congrArg (fun a => Instr.fill (fun i => pl[i]?) a l) hf).trans ih
    ·cases h
  ·cases h
section
variable {pl : List (Nat × Nat)} {zs : List Value} {ps : List (Nat × Value)} {m : List (Nat × List Value)}
theorem bdS [hb : Bld P t pl zs] (hp : PC ps m) (hf : fillC pl m zs some = some cs) (hk : K (.agg cs.toArray) w) : Bd P t ps w K := V_of (hb.bd ps _ w (fill_C hp hf)) hk
theorem dbS [hb : Bld P t pl zs] (hp : PC ps m) (hf : fillC pl m zs some = some cs) (hk : KP (.agg cs.toArray)) : Dv P wi (Instr.build t ps.toArray) w KP := by
 cases wi
 ·exact ⟨_, hb.bd ps _ w (fill_C hp hf), hk⟩
 ·exact ⟨_, fun w' => hb.bd ps _ w' (fill_C hp hf), hk⟩
end
class Fdv (P : Program) (t : TypeId) (f : Nat) (ag : outParam Bool) (off n : outParam Nat) : Prop where
 fd : ∀ w (cs : List Value), (Instr.field t (.agg cs.toArray) f).run P w = (if ag then .ok (.agg (cs.toArray.extract off (off + n))) w else match cs[off]? with | some v => .ok v w | none => (stuck "part: no such cell" : Sem Value).run P w)
section
variable {f off : Nat} {u : Value} {us : List Value}
end
theorem mkBldS {fs : List Field} {ti : TypeInfo} {z : Value} {zs : List Value} {pl : List (Nat × Nat)} (hu : P.underlying t = some (.struct fs.toArray)) (hi : P.info? t = some ti) (hz : ti.zero = some z) (hc : z.cells = zs.toArray)
 (hp : fs.map (fun f => (f.offset, ((P.info? f.type).map (·.size)).getD 0)) = pl) (hs : (fs.all fun f => (P.info? f.type).isSome) = true) : Bld P t pl zs where
 bd ps cells w h := by
  have hm : ∀ (l : List Field), (∀ f ∈ l, (P.info? f.type).isSome = true) → ∀ w, (l.mapM (m := Sem) fun f => do pure (f.offset, ← Go.sizeOf f.type)).run P w = .ok (l.map (fun f => (f.offset, ((P.info? f.type).map (·.size)).getD 0))) w := by
   intro l
   induction l with
   | nil => intro _ w; simp
   | cons f l ih =>
    intro hl w
    have h1 := hl f (by simp)
    cases hq : P.info? f.type with
    | none => rw [hq] at h1; cases h1
    | some i =>
     have h2 := ih (fun x hx => hl x (by simp [hx])) w
     have h3 : (Go.sizeOf f.type).run P w = .ok i.size w := by simp [Go.sizeOf, typeInfo, hq]
     rw [List.mapM_cons, Sem.run_bind, Sem.run_bind, h3]
     simp only [Result.andThen_ok, Sem.run_pure]
     rw [Sem.run_bind, h2]
     simp [hq]
  have hm' := hm fs (fun f hf => List.all_eq_true.1 hs f hf) w
  rw [hp] at hm'
  have hma : (fs.toArray.mapM (m := Sem) fun f => do pure (f.offset, ← Go.sizeOf f.type)).run P w = .ok pl.toArray w := by
   rw [List.mapM_toArray, Sem.run_map, hm']; rfl
  have hzz : ∀ w, (zeroValue t).run P w = .ok z w := fun w => by simp [zeroValue, typeInfo, hi, hz]
  have hfl : Instr.fill (fun i => pl.toArray[i]?) z.cells ps = some cells := by
   rw [hc]; simpa using h
  unfold Instr.build
  rw [Sem.run_bind, hzz]
  simp only [Result.andThen_ok, Sem.run_bind, run_underlying hu, hma, hfl]
  rfl
theorem mkBldA {e : TypeId} {k : Nat} {ti te : TypeInfo} {z : Value} {zs : List Value} {pl : List (Nat × Nat)} (hu : P.underlying t = some (.array k e)) (hi : P.info? t = some ti) (hz : ti.zero = some z) (hc : z.cells = zs.toArray)
 (he : P.info? e = some te) (hp : ∀ i, i < k → pl[i]? = some (i * te.size, te.size)) (hk : pl.length = k) (hn : k * te.size = zs.length) : Bld P t pl zs where
 bd ps cells w h := by
  have hzz : ∀ w, (zeroValue t).run P w = .ok z w := fun w => by simp [zeroValue, typeInfo, hi, hz]
  have h3 : ∀ w, (Go.sizeOf e).run P w = .ok te.size w := fun w => by simp [Go.sizeOf, typeInfo, he]
  have hfl : ∀ (ps : List (Nat × Value)) (cs cells : Array Value), Instr.fill (fun i => pl[i]?) cs ps = some cells → Instr.fill (fun i => some (i * te.size, te.size)) cs ps = some cells := by
   intro ps
   induction ps with
   | nil => intro cs cells h; exact h
   | cons x ps ih =>
    intro cs cells h
    obtain ⟨i, v⟩ := x
    unfold Instr.fill at h ⊢
    by_cases hik : i < k
    ·simp only [hp i hik] at h
     simp only
     split at h
     ·cases h
     ·next hg => rw [if_neg hg]; exact ih _ _ h
    ·rw [List.getElem?_eq_none (by omega)] at h
     cases h
  unfold Instr.build
  rw [Sem.run_bind, hzz]
  simp only [Result.andThen_ok, Sem.run_bind, run_underlying hu, h3, hc, hfl ps _ _ h]
  rfl
theorem mkAgg {d : TypeDesc} {ti : TypeInfo} (hu : P.underlying t = some d) (hd : (match d with | .struct _ | .array _ _ => true | _ => false) = true) (hi : P.info? t = some ti) (hs : ti.size = n) : Agg P t n where
 ag w := by
  cases d <;> simp at hd <;> simp [isAgg, run_underlying hu]
 sz w := by simp [Go.sizeOf, typeInfo, hi, hs]
theorem mkOne {d : TypeDesc} {ti : TypeInfo} (hu : P.underlying t = some d) (hd : (match d with | .struct _ | .array _ _ => true | _ => false) = false) (hi : P.info? t = some ti) (hs : ti.size = 1) : One P t where
 ag w := by
  cases d <;> simp at hd <;> simp [isAgg, run_underlying hu]
 sz w := by simp [Go.sizeOf, typeInfo, hi, hs]
theorem mkZer {ti : TypeInfo} {z : Value} {zs : List Value} (hi : P.info? t = some ti) (hz : ti.zero = some z) (hc : z.cells = zs.toArray) : Zer P t zs where
 zr := ⟨z, fun w => by simp [zeroValue, typeInfo, hi, hz], hc⟩
theorem mkSlt {ti : TypeInfo} (hu : P.underlying t = some (.slice e)) (hi : P.info? e = some ti) (hs : ti.size = c) : Slt P t e c where
 un := hu
 sz w := by simp [Go.sizeOf, typeInfo, hi, hs]
theorem mkArr {ti : TypeInfo} (hu : P.underlying t = some (.array n e)) (hi : P.info? e = some ti) (hs : ti.size = c) : Arr P t n c where
 ia w g o k j hj := by
  have h1 : (j : Int) < n := by omega
  simp [Instr.indexAt, run_underlying hu, Instr.sureAddr, asIntOf, Go.sizeOf, typeInfo, hi, hs, addN, hj]
theorem mkSlm {ti : TypeInfo} {z : Value} {zs : List Value} (hu : P.underlying t = some (.slice e)) (hi : P.info? e = some ti) (hz : ti.zero = some z) (hc : z.cells = zs.toArray) (hs : ti.size = zs.length) (hb : ti.bytes ≤ 4096) : Slm P t e zs where
 inf := ⟨ti, z, hi, hz, hc, hs, hb⟩
end
section
variable {P : Program} {t : TypeId} {n c m : Nat} {S : List Nat} {w0 w w' : World} {L : List Et} {g o b i k off cap : Nat} {ty e : TypeId} {cs cs' vs us xs ys : List Value} {v u : Value} {K : Value → World → Prop} {KP : Value → Prop} {KW : World → Prop} {rest : Prop} {wi : Bool}
theorem Hp.lt (h : Hp S w0 w L) (i : Nat) (hi : L[i]? = some (bx g ty cs)) : g < w.heap.size := (h.ks _ (List.mem_of_getElem? hi) g (by simp)).1
theorem Hp.size (h : Hp S w0 w L) : w0.heap.size ≤ w.heap.size := h.mo.size
theorem Hp.ne (h : Hp S w0 w L) {i j : Nat} {e f : Et} (hi : L[i]? = some e) (hj : L[j]? = some f) (hij : i ≠ j) : ∀ k ∈ e.ks, k ∉ f.ks := by
 obtain ⟨h1, h2⟩ := List.getElem?_eq_some_iff.1 hi
 obtain ⟨h3, h4⟩ := List.getElem?_eq_some_iff.1 hj
 have hp := List.pairwise_iff_getElem.1 h.nd
 rcases Nat.lt_or_ge i j with hl | hl
 ·subst h2; subst h4; exact hp i j h1 h3 hl
 ·subst h2; subst h4
  intro k hk hc
  exact hp j i h3 h1 (by omega) k hc hk
theorem Hp.rc (h : Hp S w0 w L) (i : Nat) (hi : L[i]? = some (ro e c v n xs)) (hv : v = .slice (some ⟨b, 0, none⟩) n cap) : CellsAt w b 0 xs := row_cells (hv ▸ h.get hi)
theorem lrA [Agg P t m] (h : Hp S w0 w L) (i : Nat) (hi : L[i]? = some (ro e c v n xs)) (hv : v = .slice (some ⟨b, 0, none⟩) n cap) (hs : Seg xs k vs) (hl : vs.length = m) (hk : K (.agg vs.toArray) w) : Ld P t (pr b (0 + k)) w K := lcA ((h.rc i hi hv).seg hs) hl hk
theorem drA [Agg P t m] (h : Hp S w0 w L) (i : Nat) (hi : L[i]? = some (ro e c v n xs)) (hv : v = .slice (some ⟨b, 0, none⟩) n cap) (hs : Seg xs k vs) (hl : vs.length = m) (hk : KP (.agg vs.toArray)) : Dv P false (Instr.loadAt t (pr b (0 + k))) w KP := dcA ((h.rc i hi hv).seg hs) hl hk
theorem krA [Agg P t m] (h : Hp S w0 w L) (i : Nat) (hi : L[i]? = some (ro e c v n xs)) (hv : v = .slice (some ⟨b, 0, none⟩) n cap) (hs : Seg xs k vs) (hl : vs.length = m) (hk : rest) : Ke P (Instr.loadAt t (pr b (0 + k))) (.agg vs.toArray) w rest := kcA ((h.rc i hi hv).seg hs) hl hk
theorem lr0 [One P t] (h : Hp S w0 w L) (i : Nat) (hi : L[i]? = some (ro e c v n xs)) (hv : v = .slice (some ⟨b, 0, none⟩) n cap) (hs : Seg xs k vs) (hl : vs[0]? = some u) (hk : K u w) : Ld P t (pr b (0 + k)) w K := lc0 ((h.rc i hi hv).seg hs) hl hk
theorem dr0 [One P t] (h : Hp S w0 w L) (i : Nat) (hi : L[i]? = some (ro e c v n xs)) (hv : v = .slice (some ⟨b, 0, none⟩) n cap) (hs : Seg xs k vs) (hl : vs[0]? = some u) (hk : KP u) : Dv P false (Instr.loadAt t (pr b (0 + k))) w KP := dc0 ((h.rc i hi hv).seg hs) hl hk
theorem kr0 [One P t] (h : Hp S w0 w L) (i : Nat) (hi : L[i]? = some (ro e c v n xs)) (hv : v = .slice (some ⟨b, 0, none⟩) n cap) (hs : Seg xs k vs) (hl : vs[0]? = some u) (hk : rest) : Ke P (Instr.loadAt t (pr b (0 + k))) u w rest := kc0 ((h.rc i hi hv).seg hs) hl hk
theorem lrP [Agg P t m] (h : Hp S w0 w L) (i : Nat) (hi : L[i]? = some (ro e c v n xs)) (hv : v = .slice (some ⟨b, 0, none⟩) n cap) (hs : Seg xs k vs) (hl : cut off m vs = some us) (hk : K (.agg us.toArray) w) : Ld P t (pr b (0 + k + off)) w K := by
 rw [Nat.add_assoc]; exact lrA h i hi hv (seg_cut hs hl).1 (seg_cut hs hl).2 hk
theorem drP [Agg P t m] (h : Hp S w0 w L) (i : Nat) (hi : L[i]? = some (ro e c v n xs)) (hv : v = .slice (some ⟨b, 0, none⟩) n cap) (hs : Seg xs k vs) (hl : cut off m vs = some us) (hk : KP (.agg us.toArray)) : Dv P false (Instr.loadAt t (pr b (0 + k + off))) w KP := by
 rw [Nat.add_assoc]; exact drA h i hi hv (seg_cut hs hl).1 (seg_cut hs hl).2 hk
theorem lr1 [One P t] (h : Hp S w0 w L) (i : Nat) (hi : L[i]? = some (ro e c v n xs)) (hv : v = .slice (some ⟨b, 0, none⟩) n cap) (hs : Seg xs k vs) (hl : vs[off]? = some u) (hk : K u w) : Ld P t (pr b (0 + k + off)) w K := by
 rw [Nat.add_assoc]; exact lr0 h i hi hv (seg_at hs hl) rfl hk
theorem dr1 [One P t] (h : Hp S w0 w L) (i : Nat) (hi : L[i]? = some (ro e c v n xs)) (hv : v = .slice (some ⟨b, 0, none⟩) n cap) (hs : Seg xs k vs) (hl : vs[off]? = some u) (hk : KP u) : Dv P false (Instr.loadAt t (pr b (0 + k + off))) w KP := by
 rw [Nat.add_assoc]; exact dr0 h i hi hv (seg_at hs hl) rfl hk
theorem kr1 [One P t] (h : Hp S w0 w L) (i : Nat) (hi : L[i]? = some (ro e c v n xs)) (hv : v = .slice (some ⟨b, 0, none⟩) n cap) (hs : Seg xs k vs) (hl : vs[off]? = some u) (hk : rest) : Ke P (Instr.loadAt t (pr b (0 + k + off))) u w rest := by
 rw [Nat.add_assoc]; exact kr0 h i hi hv (seg_at hs hl) rfl hk
theorem diR [hs : Slt P t e c] (h : Hp S w0 w L) (i : Nat) (hL : L[i]? = some (ro ty c v n xs)) {kk : IntKind} {j : Nat} (hj : j < n) (hk : ∀ g cap, v = .slice (some ⟨g, 0, none⟩) n cap → KP (pr g (0 + j * c))) : Dv P wi (Instr.indexAt t v (.int kk (j : Int))) w KP := by
 have ho := h.get hL
 obtain ⟨h0, ⟨rfl, hn⟩ | ⟨g, cap, cur, rfl, _⟩⟩ := ho
 ·omega
 ·cases wi
  ·exact ⟨_, run_ia hj _, hk _ _ rfl⟩
  ·exact ⟨_, fun w' => run_ia hj w', hk _ _ rfl⟩
theorem bs0 [hs : Slt P t e c] (h : Hp S w0 w L) (hk : ∀ v w1, Hp S w0 w1 (ro e c v 0 [] :: L) → K v w1) : Bs P t 0 [] w K := by
 refine V_of (P := P) (v := .slice (some ⟨w.heap.size, 0, none⟩) 0 0) (w' := w.alloc (.cells #[] e)) ?_ (hk _ _ (h.row ((Ext.refl w).al _) ⟨by simp, .inr ⟨w.heap.size, 0, #[], rfl, Nat.le_refl _, heap_alloc_new w _, Nat.le_refl _, Nat.zero_le _, by simp, by simp⟩⟩))
 simp [Instr.buildSlice, run_underlying hs.un, hs.sz, newRow, Instr.fill]
 congr 2
 exact Array.eq_empty_of_size_eq_zero (by simp)
def Part (c : Nat) (v : Value) (n : Nat) (xs : List Value) (v' : Value) (m : Nat) (ys : List Value) : Prop := v'.ownBlock = v.ownBlock ∧ ∀ W, SlC W c v n xs → SlC W c v' m ys
end
end Go.Eng
namespace Go.Eng
open Go Go.RowKit Go.Proofs
section
variable {P : Program} {w : World} {K : Value → World → Prop} {KP : Value → Prop} {t : TypeId} {c wi : Bool} {j a b : Nat}
end
end Go.Eng
namespace Go.Eng
open Go Go.RowKit Go.Proofs
set_option maxRecDepth 100000
section
variable {P : Program} {t : TypeId} {n c m : Nat} {S : List Nat} {w0 w w' : World} {L : List Et} {g o b i k off cap : Nat} {ty e : TypeId} {cs cs' vs us xs ys : List Value} {v u : Value} {K : Value → World → Prop} {KP : Value → Prop} {KW : World → Prop} {rest : Prop} {wi : Bool}
def NoB (v : Value) (S : List Nat) : Prop := ∀ k, v.ownBlock = some k → k ∉ S
theorem Hp.blkS (h : Hp S w0 w L) (hb : Blk w0 g ty cs) (hs : g ∉ S) : Blk w g ty cs := (h.mo.block g hb.lt hs).trans hb
theorem SlC.hpS (hx : SlC w0 c v n xs) (h : Hp S w0 w L) (hs : NoB v S) : SlC w c v n xs := hx.mv fun k hk hl => h.mo.block k hl (hs k hk)
theorem CellsAt.hpS (hc : CellsAt w0 b o xs) (h : Hp S w0 w L) (hs : b ∉ S) : CellsAt w b o xs := fun i x hx => by
 have h1 := hc i x hx
 rw [World.cell?_of_block (h.mo.block b (World.block_lt_of_cell? w0 _ h1) hs)]
 exact h1
theorem dg1S [One P t] (h : Hp S w0 w L) (hb : Blk w0 g ty cs) (hs : g ∉ S) (hc : cs[o]? = some v) (hk : KP v) : Dv P false (Instr.loadAt t (pr g o)) w KP := ⟨_, run_ld1 (h.blkS hb hs) hc, hk⟩
theorem kg1S [One P t] (h : Hp S w0 w L) (hb : Blk w0 g ty cs) (hs : g ∉ S) (hc : cs[o]? = some v) (hk : rest) : Ke P (Instr.loadAt t (pr g o)) v w rest := ⟨run_ld1 (h.blkS hb hs) hc, hk⟩
end
section
variable {P : Program} {t T : TypeId} {n c m : Nat} {S : List Nat} {w0 w W W' : World} {L L' : List Et} {g o b i k B D : Nat} {ty e : TypeId} {cs cs' vs xs ys zs : List Value} {v u : Value} {K : Value → World → Prop} {KW : World → Prop}
def pickL (L : List Et) : List Nat → Option (List Et)
 | [] => some []
 | i :: is => match L[i]?, pickL L is with
  | some e, some r => some (e :: r)
  | _, _ => none
theorem pickL_mem : ∀ {is : List Nat} {L' : List Et}, pickL L is = some L' → ∀ e ∈ L', ∃ i ∈ is, L[i]? = some e
 | [], L', h, e, he => by cases h; simp at he
 | i :: is, L', h, e, he => by
  unfold pickL at h
  split at h
  ·next x r h1 h2 =>
   cases h
   rcases List.mem_cons.1 he with rfl | he
   ·exact ⟨i, by simp, h1⟩
   ·obtain ⟨j, hj, h3⟩ := pickL_mem h2 e he
    exact ⟨j, by simp [hj], h3⟩
  ·cases h
theorem pickL_nd (h : Hp S w0 w L) : ∀ {is : List Nat} {L' : List Et}, is.Nodup → pickL L is = some L' → L'.Pairwise fun a b => ∀ k ∈ a.ks, k ∉ b.ks
 | [], L', _, h => by cases h; exact .nil
 | i :: is, L', hd, hp => by
  unfold pickL at hp
  split at hp
  ·next x r h1 h2 =>
   cases hp
   have hd' := List.nodup_cons.1 hd
   refine .cons (fun y hy => ?_) (pickL_nd h hd'.2 h2)
   obtain ⟨j, hj, h3⟩ := pickL_mem h2 y hy
   exact h.ne h1 h3 (fun e => hd'.1 (e ▸ hj))
  ·cases hp
theorem Hp.pick (h : Hp S w0 w L) (is : List Nat) (hd : is.Nodup) (he : pickL L is = some L') : Hp S w0 w L' where
 mo := h.mo
 ok := fun e hm => by
  obtain ⟨i, _, h1⟩ := pickL_mem he e hm
  exact h.at h1
 ks := fun e hm => by
  obtain ⟨i, _, h1⟩ := pickL_mem he e hm
  exact h.ks e (List.mem_of_getElem? h1)
 nd := pickL_nd h hd he
theorem Hp.bk (h : Hp [] w0 W L) (hB : ∀ k ∈ L.flatMap Et.ks, k < B) (hw : w0.heap.size ≤ B) (b : Bk B W W') : Hp [] w0 W' L where
 mo := ⟨b.os.trans h.mo.os, b.tape.trans h.mo.tape, b.output.trans h.mo.output, Nat.le_trans h.mo.size b.size, fun k hk _ => by
  rcases b.block k (Nat.lt_of_lt_of_le hk h.mo.size) with h1 | ⟨h1, _⟩
  ·exact h1.trans (h.mo.block k hk (by simp))
  ·omega⟩
 ok := fun e he => (h.ok e he).mv b.size fun k hk hc => by
  rcases b.block k hk with h1 | ⟨h1, _⟩
  ·exact h1
  ·rcases hc with hc | ⟨hc, _⟩
   ·have := hB k (List.mem_flatMap.2 ⟨e, he, hc⟩); omega
   ·omega
 ks := fun e he k hk => ⟨Nat.lt_of_lt_of_le (h.ks e he k hk).1 b.size, (h.ks e he k hk).2⟩
 nd := h.nd
theorem SlC.bk (h : SlC W c v n xs) (b : Bk B W W') : SlC W' c v n xs := by
 obtain ⟨h0, h | ⟨b', o, cap, h1, h2, h3⟩⟩ := h
 ·exact ⟨h0, .inl h⟩
 ·exact ⟨h0, .inr ⟨b', o, cap, h1, h2, fun i x hx => b.cell (h3 i x hx)⟩⟩
def isRec : Option Obj → Bool
 | some (.loop _) => true
 | some (.deferred _) => true
 | _ => false
abbrev dfE (D : Nat) : Et := ⟨[D], fun w => w.heap[D]? = some (.deferred (some []))⟩
def frE (B : Nat) (W : World) : Et := ⟨(List.range W.heap.size).filter fun k => decide (B ≤ k) && isRec W.heap[k]?, fun w => Kf B W w⟩
theorem frE_mem : k ∈ (frE B W).ks ↔ k < W.heap.size ∧ B ≤ k ∧ isRec W.heap[k]? = true := by
 simp [frE]
theorem Hp.df (h : Hp [] w0 w L) (hD : w.heap[D]? = some (.deferred (some []))) (h0 : w0.heap.size ≤ D) (hn : D ∉ L.flatMap Et.ks) : Hp [] w0 w (dfE D :: L) :=
 h.nw (fun w' _ hb => (hb D (Array.getElem?_eq_some_iff.1 hD).1 (.inl (by simp))).trans hD) (fun k hk => by
  simp at hk; subst hk; exact ⟨(Array.getElem?_eq_some_iff.1 hD).1, .inl h0⟩) fun x hx k hk hc => by
  simp at hk; subst hk; exact hn (List.mem_flatMap.2 ⟨x, hx, hc⟩)
theorem Hp.fr (h : Hp [] w0 W L) (B : Nat) (hw : w0.heap.size ≤ B) (hc : ∀ k ∈ L.flatMap Et.ks, k < B ∨ isRec W.heap[k]? = false) : Hp [] w0 W (frE B W :: L) :=
 h.nw (fun w' hs hb => ⟨hs, fun k h1 h2 h3 => hb k h2 (.inl (frE_mem.2 ⟨h2, h1, by
  rcases h3 with ⟨r, h3⟩ | ⟨r, h3⟩ <;> rw [h3] <;> rfl⟩))⟩) (fun k hk => by
  have := frE_mem.1 hk
  exact ⟨this.1, .inl (by omega)⟩) fun x hx k hk hm => by
  have h1 := frE_mem.1 hk
  rcases hc k (List.mem_flatMap.2 ⟨x, hx, hm⟩) with h2 | h2
  ·omega
  ·rw [h1.2.2] at h2; cases h2
theorem Blk.nrec (h : Blk W b ty cs) : isRec W.heap[b]? = false := by
 unfold Blk at h; rw [h]; rfl
theorem SlC.nrec (h : SlC W c v n xs) (hn : 0 < xs.length) (hb : v.ownBlock = some b) : isRec W.heap[b]? = false := by
 obtain ⟨b', o, cap, h1, h2, h3⟩ := h.cell hn
 rw [h1] at hb
 cases hb
 have hc := h3 0 _ (List.getElem?_eq_getElem hn)
 have hc' : W.cell? ⟨b', o, none⟩ = _ := hc
 unfold World.cell? at hc'
 simp only at hc'
 rcases ho : W.heap[b']? with _ | x
 ·rfl
 ·rw [ho] at hc'
  cases x <;> first | rfl | simp at hc'
def Et.Simple (e : Et) : Prop := ∀ (B : Nat) (S : List Nat) (w : World), e.Q w → e.At B S w
theorem ro_sm {e : TypeId} {c n : Nat} {v : Value} {xs : List Value} : (ro e c v n xs).Simple := fun _ _ _ h => ro_at h
theorem bx_sm {g : Nat} {ty : TypeId} {cs : List Value} : (bx g ty cs).Simple := fun _ _ _ h => bx_at h
theorem Hp.cat1 (h : Hp S w0 w L) {a : Et} (h' : Hp [] w W [a]) (sa : a.Simple) : Hp S w0 W (a :: L) :=
 h.xn h'.ext (sa _ _ _ (h'.get (i := 0) rfl)) fun k hk => by
  have := h'.ks a (by simp) k hk
  exact ⟨by simpa using this.2, this.1⟩
theorem iaZ [Arr P t n c] {kk : IntKind} {z : Int} (h0 : 0 ≤ z) (hj : z.toNat < n) (hk : K (pr g (o + z.toNat * c)) w) : Ia P t (pr g o) (.int kk z) w K := by
 have e : z = ((z.toNat : Nat) : Int) := by omega
 rw [e]
 exact iaA hj (by simpa using hk)
theorem diZ {wi : Bool} {KP : Value → Prop} [Arr P t n c] {kk : IntKind} {z : Int} (h0 : 0 ≤ z) (hj : z.toNat < n) (hk : KP (pr g (o + z.toNat * c))) : Dv P wi (Instr.indexAt t (pr g o) (.int kk z)) w KP := by
 have e : z = ((z.toNat : Nat) : Int) := by omega
 rw [e]
 exact diA hj (by simpa using hk)
section
variable {x y : Int} {b : Bool}
end
end
class StrT (P : Program) (t : TypeId) : Prop where
 un : P.underlying t = some .string
section
variable {P : Program} {t T u a' b' : TypeId} {n c m : Nat} {S : List Nat} {w0 w w' : World} {L : List Et} {e : TypeId} {cs vs xs zs : List Value} {K : Value → World → Prop} {KP : Value → Prop} {wi : Bool} {s : List UInt8} {x y : Int}
section
variable {w1 : World} {g : Nat} {ty : TypeId}
theorem Jn1.lf {A : (Value → World → Prop) → Prop} {B : Value → World → Prop} (u : Value) (h : Hp S w0 w L) (hA : ∀ K : Value → World → Prop, (∀ w1, Hp S w0 w1 L → K u w1) → A K) (hB : ∀ w1, Hp S w0 w1 L → B u w1) : Jn1 A B :=
 Jn1.mk fun K hK => hA K fun w1 h1 => hK u w1 (hB w1 h1)
theorem Jn1.lfb {A : (Value → World → Prop) → Prop} {B : Value → World → Prop} (ty : TypeId) (cs : List Value) (h : Hp S w0 w L) (hA : ∀ K : Value → World → Prop, (∀ g w1, Hp S w0 w1 (bx g ty cs :: L) → K (pr g 0) w1) → A K) (hB : ∀ g w1, Hp S w0 w1 (bx g ty cs :: L) → B (pr g 0) w1) : Jn1 A B :=
 Jn1.mk fun K hK => hA K fun g w1 h1 => hK _ w1 (hB g w1 h1)
theorem Jn2.lf {A : (Value → Value → World → Prop) → Prop} {B : Value → Value → World → Prop} (u1 u2 : Value) (h : Hp S w0 w L) (hA : ∀ K : Value → Value → World → Prop, (∀ w1, Hp S w0 w1 L → K u1 u2 w1) → A K) (hB : ∀ w1, Hp S w0 w1 L → B u1 u2 w1) : Jn2 A B :=
 Jn2.mk fun K hK => hA K fun w1 h1 => hK u1 u2 w1 (hB w1 h1)
theorem Jn2.lfb {A : (Value → Value → World → Prop) → Prop} {B : Value → Value → World → Prop} (ty : TypeId) (cs : List Value) (u : Value) (h : Hp S w0 w L) (hA : ∀ K : Value → Value → World → Prop, (∀ g w1, Hp S w0 w1 (bx g ty cs :: L) → K (pr g 0) u w1) → A K) (hB : ∀ g w1, Hp S w0 w1 (bx g ty cs :: L) → B (pr g 0) u w1) : Jn2 A B :=
 Jn2.mk fun K hK => hA K fun g w1 h1 => hK _ _ w1 (hB g w1 h1)
theorem Jn2.lfc {A : (Value → Value → World → Prop) → Prop} {B : Value → Value → World → Prop} (t1 t2 : TypeId) (c1 c2 : List Value) (h : Hp S w0 w L) (hA : ∀ K : Value → Value → World → Prop, (∀ g1 g2 w1, Hp S w0 w1 (bx g1 t1 c1 :: bx g2 t2 c2 :: L) → K (pr g1 0) (pr g2 0) w1) → A K) (hB : ∀ g1 g2 w1, Hp S w0 w1 (bx g1 t1 c1 :: bx g2 t2 c2 :: L) → B (pr g1 0) (pr g2 0) w1) : Jn2 A B :=
 Jn2.mk fun K hK => hA K fun g1 g2 w1 h1 => hK _ _ w1 (hB g1 g2 w1 h1)
theorem Jn3.lfc {A : (Value → Value → Value → World → Prop) → Prop} {B : Value → Value → Value → World → Prop} (t1 t2 : TypeId) (c1 c2 : List Value) (u : Value) (h : Hp S w0 w L) (hA : ∀ K : Value → Value → Value → World → Prop, (∀ g1 g2 w1, Hp S w0 w1 (bx g1 t1 c1 :: bx g2 t2 c2 :: L) → K (pr g1 0) (pr g2 0) u w1) → A K) (hB : ∀ g1 g2 w1, Hp S w0 w1 (bx g1 t1 c1 :: bx g2 t2 c2 :: L) → B (pr g1 0) (pr g2 0) u w1) : Jn3 A B :=
 Jn3.mk fun K hK => hA K fun g1 g2 w1 h1 => hK _ _ _ w1 (hB g1 g2 w1 h1)
end
inductive PL : Nat → List Value → List (List Value) → Prop where
 | nil {c : Nat} : PL c [] []
 | cons {c : Nat} {v : Value} {x : List Value} {l : List Value} {m : List (List Value)} (h : v.cells = x.toArray) (hl : x.length = c) (r : PL c l m) : PL c (v :: l) (x :: m)
theorem PL.flat : ∀ {vs : List Value} {m : List (List Value)}, PL c vs m → vs.flatMap (fun v => v.cells.toList) = m.flatten ∧ (∀ v ∈ vs, v.cells = v.cells.toList.toArray ∧ v.cells.toList.length = c)
 | _, _, .nil => ⟨rfl, fun v hv => by simp at hv⟩
 | _, _, .cons (v := v) (x := x) h hl r => by
  obtain ⟨h1, h2⟩ := r.flat
  refine ⟨by rw [List.flatMap_cons, h1, h]; rfl, fun y hy => ?_⟩
  rcases List.mem_cons.1 hy with rfl | hy
  ·exact ⟨by simp, by rw [h]; simpa using hl⟩
  ·exact h2 y hy
theorem bsN {zs : List Value} [hs : Slt P t e c] [hm : Slm P t e zs] {m : List (List Value)} (h : Hp S w0 w L) (hp : PL c vs m) (hlen : vs.length = n) (hcz : c = zs.length) (h0 : 0 < zs.length) (hn : n * c ≤ 16777216) (hpos : 0 < n)
 (hk : ∀ v w1, Hp S w0 w1 (ro e c v n m.flatten :: L) → K v w1) : Bs P t n (lit 0 vs) w K := by
 subst hlen
 obtain ⟨h1, h2⟩ := hp.flat
 exact bsS (fun v => v.cells.toList) hcz h0 h vs h2 hn hpos fun v w1 _ h' => hk v w1 (h1 ▸ h')
theorem ExP3x {a b c : Value} {B : Value → Value → Value → Prop} (h : B a b c) : ExP (.tuple #[a, b, c]) 0 fun t1 => ExP (.tuple #[a, b, c]) 1 fun t2 => ExP (.tuple #[a, b, c]) 2 fun t3 => B t1 t2 t3 := h
section
variable {v : Value} {k : IntKind} {z : Int} {i : Nat} {ty : TypeId} {KP : Value → Prop}
theorem z_nat (h0 : 0 ≤ z) : z = ((z.toNat : Nat) : Int) := by omega
theorem iaHz [Slt P t e c] (h : Hp [] w0 w L) (hx : SlC w0 c v n xs) (h0 : 0 ≤ z) (hj : z.toNat < n) (hk : ∀ b o cap, v = .slice (some ⟨b, o, none⟩) n cap → CellsAt w0 b o xs → K (pr b (o + z.toNat * c)) w) : Ia P t v (.int k z) w K := by
 rw [z_nat h0]; exact iaH h hx hj (by simpa using hk)
theorem iaRz [Slt P t e c] (h : Hp S w0 w L) (i : Nat) (hL : L[i]? = some (ro ty c v n xs)) (h0 : 0 ≤ z) (hj : z.toNat < n) (hk : ∀ g cap, v = .slice (some ⟨g, 0, none⟩) n cap → K (pr g (0 + z.toNat * c)) w) : Ia P t v (.int k z) w K := by
 rw [z_nat h0]; exact iaR h i hL hj (by simpa using hk)
theorem diHz [Slt P t e c] (h : Hp [] w0 w L) (hx : SlC w0 c v n xs) (h0 : 0 ≤ z) (hj : z.toNat < n) (hk : ∀ b o cap, v = .slice (some ⟨b, o, none⟩) n cap → CellsAt w0 b o xs → KP (pr b (o + z.toNat * c))) : Dv P wi (Instr.indexAt t v (.int k z)) w KP := by
 rw [z_nat h0]; exact diH h hx hj (by simpa using hk)
theorem diRz [Slt P t e c] (h : Hp S w0 w L) (i : Nat) (hL : L[i]? = some (ro ty c v n xs)) (h0 : 0 ≤ z) (hj : z.toNat < n) (hk : ∀ g cap, v = .slice (some ⟨g, 0, none⟩) n cap → KP (pr g (0 + z.toNat * c))) : Dv P wi (Instr.indexAt t v (.int k z)) w KP := by
 rw [z_nat h0]; exact diR h i hL hj (by simpa using hk)
end
section
variable {v : Value} {lo hi : Nat} {k k' : IntKind} {z z' : Int}
theorem run_scH [hs : Slt P t e c] (h : SlC w c v n xs) (h2 : hi ≤ n) : ∃ v', (∀ W, (Instr.sliceAt t v none (some (.int k' (hi : Int))) none).run P W = .ok v' W) ∧ Part c v n xs v' hi (xs.take (hi * c)) := by
 obtain ⟨a, l, m, hv, rfl, hm⟩ := h.key
 refine ⟨.slice (if m = 0 then a else a.map (·.add (0 * c))) (hi - 0) (m - 0), fun W => ?_, ⟨by rw [hv]; exact part_key (l := l), fun W hW => by simpa using hW.part (Nat.zero_le hi) h2 hv⟩⟩
 subst hv
 have a2 : hi ≤ m := by omega
 simp [Instr.sliceAt, Instr.slice, Instr.sliceBounds, Instr.sliceBound, run_underlying hs.un, hs.sz, asIntOf, a2]
theorem scHn [Slt P t e c] (h : SlC w c v n xs) (h2 : hi ≤ n) (hk : ∀ v', Part c v n xs v' hi (xs.take (hi * c)) → K v' w) : Sc P t v none (some (.int k' (hi : Int))) none w K := by
 obtain ⟨v', h3, h4⟩ := run_scH (P := P) (t := t) (k' := k') h h2
 exact V_of (h3 w) (hk v' h4)
theorem dscH [Slt P t e c] (h : SlC w c v n xs) (h2 : hi ≤ n) (hk : ∀ v', Part c v n xs v' hi (xs.take (hi * c)) → KP v') : Dv P wi (Instr.sliceAt t v none (some (.int k' (hi : Int))) none) w KP := by
 obtain ⟨v', h3, h4⟩ := run_scH (P := P) (t := t) (k' := k') h h2
 cases wi
 ·exact ⟨_, h3 w, hk v' h4⟩
 ·exact ⟨_, h3, hk v' h4⟩
theorem run_scL [hs : Slt P t e c] (h : SlC w c v n xs) (h1 : lo ≤ n) : ∃ v', (∀ W, (Instr.sliceAt t v (some (.int k (lo : Int))) none none).run P W = .ok v' W) ∧ Part c v n xs v' (n - lo) (xs.drop (lo * c)) := by
 obtain ⟨a, l, m, hv, rfl, hm⟩ := h.key
 have hl : ∀ {W}, SlC W c v l xs → (xs.drop (lo * c)).take ((l - lo) * c) = xs.drop (lo * c) := fun hW => List.take_of_length_le (by rw [List.length_drop, hW.1, Nat.sub_mul]; omega)
 refine ⟨.slice (if m = lo then a else a.map (·.add (lo * c))) (l - lo) (m - lo), fun W => ?_, ⟨by rw [hv]; exact part_key (l := l), fun W hW => hl hW ▸ hW.part h1 (Nat.le_refl l) hv⟩⟩
 subst hv
 have a1 : lo ≤ l := h1
 simp [Instr.sliceAt, Instr.slice, Instr.sliceBounds, Instr.sliceBound, run_underlying hs.un, hs.sz, asIntOf, a1]
theorem scLn [Slt P t e c] (h : SlC w c v n xs) (h1 : lo ≤ n) (hk : ∀ v', Part c v n xs v' (n - lo) (xs.drop (lo * c)) → K v' w) : Sc P t v (some (.int k (lo : Int))) none none w K := by
 obtain ⟨v', h3, h4⟩ := run_scL (P := P) (t := t) (k := k) h h1
 exact V_of (h3 w) (hk v' h4)
theorem dscL [Slt P t e c] (h : SlC w c v n xs) (h1 : lo ≤ n) (hk : ∀ v', Part c v n xs v' (n - lo) (xs.drop (lo * c)) → KP v') : Dv P wi (Instr.sliceAt t v (some (.int k (lo : Int))) none none) w KP := by
 obtain ⟨v', h3, h4⟩ := run_scL (P := P) (t := t) (k := k) h h1
 cases wi
 ·exact ⟨_, h3 w, hk v' h4⟩
 ·exact ⟨_, h3, hk v' h4⟩
theorem scHz [Slt P t e c] (h : SlC w c v n xs) (h0 : 0 ≤ z) (h2 : z.toNat ≤ n) (hk : ∀ v', Part c v n xs v' z.toNat (xs.take (z.toNat * c)) → K v' w) : Sc P t v none (some (.int k' z)) none w K := by
 have e : z = ((z.toNat : Nat) : Int) := by omega
 rw [e]
 exact scHn h h2 (by simpa using hk)
end
end
end Go.Eng
namespace Go.Eng
open Go Go.RowKit Go.Proofs
set_option maxRecDepth 100000
theorem Lp1.mkK {a0 : Value} {w : World} {B : Value → World → (Value → World → Prop) → Prop} (I : Value → World → Prop) (μ : Value → World → Nat) (h0 : I a0 w)
 (h : ∀ (a0 : Value) (w : World), I a0 w → ∀ K : Value → World → Prop, (∀ b0 w', I b0 w' → μ b0 w' < μ a0 w → K b0 w') → B a0 w K) : Lp1 a0 w B :=
 Lp1.mk I μ h0 fun a0 w hI => h a0 w hI _ fun b0 w' h1 h2 => ⟨h1, h2⟩
theorem Lp2.mkK {a0 a1 : Value} {w : World} {B : Value → Value → World → (Value → Value → World → Prop) → Prop} (I : Value → Value → World → Prop) (μ : Value → Value → World → Nat) (h0 : I a0 a1 w)
 (h : ∀ (a0 a1 : Value) (w : World), I a0 a1 w → ∀ K : Value → Value → World → Prop, (∀ b0 b1 w', I b0 b1 w' → μ b0 b1 w' < μ a0 a1 w → K b0 b1 w') → B a0 a1 w K) : Lp2 a0 a1 w B :=
 Lp2.mk I μ h0 fun a0 a1 w hI => h a0 a1 w hI _ fun b0 b1 w' h1 h2 => ⟨h1, h2⟩
theorem Lp3.mkK {a0 a1 a2 : Value} {w : World} {B : Value → Value → Value → World → (Value → Value → Value → World → Prop) → Prop} (I : Value → Value → Value → World → Prop) (μ : Value → Value → Value → World → Nat) (h0 : I a0 a1 a2 w)
 (h : ∀ (a0 a1 a2 : Value) (w : World), I a0 a1 a2 w → ∀ K : Value → Value → Value → World → Prop, (∀ b0 b1 b2 w', I b0 b1 b2 w' → μ b0 b1 b2 w' < μ a0 a1 a2 w → K b0 b1 b2 w') → B a0 a1 a2 w K) : Lp3 a0 a1 a2 w B :=
 Lp3.mk I μ h0 fun a0 a1 a2 w hI => h a0 a1 a2 w hI _ fun b0 b1 b2 w' h1 h2 => ⟨h1, h2⟩
theorem Lp5.mkK {a0 a1 a2 a3 a4 : Value} {w : World} {B : Value → Value → Value → Value → Value → World → (Value → Value → Value → Value → Value → World → Prop) → Prop} (I : Value → Value → Value → Value → Value → World → Prop) (μ : Value → Value → Value → Value → Value → World → Nat) (h0 : I a0 a1 a2 a3 a4 w)
 (h : ∀ (a0 a1 a2 a3 a4 : Value) (w : World), I a0 a1 a2 a3 a4 w → ∀ K : Value → Value → Value → Value → Value → World → Prop, (∀ b0 b1 b2 b3 b4 w', I b0 b1 b2 b3 b4 w' → μ b0 b1 b2 b3 b4 w' < μ a0 a1 a2 a3 a4 w → K b0 b1 b2 b3 b4 w') → B a0 a1 a2 a3 a4 w K) : Lp5 a0 a1 a2 a3 a4 w B :=
 Lp5.mk I μ h0 fun a0 a1 a2 a3 a4 w hI => h a0 a1 a2 a3 a4 w hI _ fun b0 b1 b2 b3 b4 w' h1 h2 => ⟨h1, h2⟩
section
variable {P : Program} {S : List Nat} {w0 w : World} {L L' : List Et} {a b c : Et} {v : Value} {args first cap : Array Value} {K : Value → World → Prop} {pan : List PanicEntry → World → Prop} {f : FuncId}
theorem Hp.perm (h : Hp S w0 w L) (p : L.Perm L') : Hp S w0 w L' where
 mo := h.mo
 ok := fun e he => h.ok e (p.mem_iff.2 he)
 ks := fun e he => h.ks e (p.mem_iff.2 he)
 nd := (p.pairwise_iff (fun {x y} h k hk hx => h k hx hk)).1 h.nd
theorem cw1 (h : Hp S w0 w L) (hn : Enters P f) (hc : Calls P f (first ++ args ++ cap) w (Ret fun r w' => Ext w w' ∧ r = v)) (hk : ∀ w1, Hp S w0 w1 L → K v w1) : Cw P (.func (.func f) first cap) args w pan K :=
 Cw_i hn hc fun r w' ⟨x, e⟩ => by subst e; exact hk w' (h.x x)
section
variable {t e ty : TypeId} {n c n' c' g o : Nat} {xs cs : List Value} {KW : World → Prop} {u : Value}
theorem slc_c1 (h : SlC w c v n xs) : v.cells = #[v] ∧ v.oneCell' = true := by
 obtain ⟨a, l, m, rfl, _⟩ := h.key
 exact ⟨rfl, rfl⟩
theorem st1w [hO : One P t] (h : Hp S w0 w L) (i : Nat) (hi : L[i]? = some (bx g ty cs)) (hs : SlC w c v n xs) {cs' : List Value} (hw : wr o [v] cs = some cs')
 (hk : ∀ w1, Hp S w0 w1 (L.set i (bx g ty cs')) → KW w1) : Sto P t (pr g o) v w KW := st1 h i hi (slc_c1 hs).1 (slc_c1 hs).2 hw hk
end
class Ars (P : Program) (t : TypeId) (n c : outParam Nat) : Prop where
 sa : ∀ w g o, (Instr.sliceAt t (pr g o) none none none).run P w = .ok (.slice (some ⟨g, o, none⟩) n n) w
 h0 : 0 < n
theorem mkArs {t e : TypeId} {n c : Nat} {ti : TypeInfo} (hu : P.underlying t = some (.array n e)) (hi : P.info? e = some ti) (h0 : 0 < n) (hs : ti.size = c) : Ars P t n c where
 sa W g o := by
  have h1 : (n = 0) = False := by simp; omega
  simp [Instr.sliceAt, Instr.sliceBounds, run_underlying hu, Instr.sureAddr, Go.sizeOf, typeInfo, hi, h1]
  rfl
 h0 := h0
section
variable {t ty : TypeId} {n c g o : Nat} {cs : List Value} {KP : Value → Prop}
theorem bx_sl (h : Blk w g ty cs) (hl : cs.length = n * c) : SlC w c (.slice (some ⟨g, 0, none⟩) n n) n cs := by
 refine ⟨hl, .inr ⟨g, 0, n, rfl, Nat.le_refl _, fun i x hx => h.cell (by rw [Nat.zero_add]; exact hx)⟩⟩
end
theorem qZ {e : TypeId} {c n : Nat} {xs : List Value} (i : Nat) (h : Hp S w0 w L) (hi : L[i]? = some (ro e c v n xs)) : SlC w c v n xs := h.sl hi
theorem qY {e : TypeId} {c n : Nat} {xs : List Value} (i : Nat) (h : Hp S w0 w L) (hi : L[i]? = some (ro e c v n xs)) : v.cells = #[v] := by
 obtain ⟨a, l, m, rfl, _⟩ := (h.sl hi).key
 rfl
theorem clR {e : TypeId} {c n : Nat} {xs : List Value} {T : Value → Value} (h : Hp S w0 w L) (hn : Enters P f) (hc : Calls P f args w (Ret fun r w' => ∃ v, r = T v ∧ Hp [] w w' [ro e c v n xs])) (hk : ∀ v w1, Hp S w0 w1 (ro e c v n xs :: L) → K (T v) w1) : Cl P f args w pan K :=
 Cl_i hn hc fun r w' ⟨v, e, h'⟩ => by subst e; exact hk v w' (h.cat1 h' ro_sm)
theorem NcP_ok {a : Addr} {K : Value → Prop} (h : K (.pointer (some a))) : NcP (.pointer (some a)) K := h
end
end Go.Eng
namespace Go.Eng
open Go Go.RowKit Go.Proofs Go.MapKept
set_option maxRecDepth 100000
def mEn (val : Nat → Value) (k : Nat) : MapEntry := ⟨.int .i64 (k : Int), val k, k⟩
def MBlk (w : World) (b : Nat) (ks : List Nat) (val : Nat → Value) (c : Nat) : Prop := w.heap[b]? = some (.map (ks.map (mEn val)).toArray c)
abbrev mp (b : Nat) (ks : List Nat) (val : Nat → Value) (c : Nat) : Et := ⟨[b], fun w => MBlk w b ks val c⟩
theorem MBlk.lt {w : World} {b c : Nat} {ks : List Nat} {val : Nat → Value} (h : MBlk w b ks val c) : b < w.heap.size := (Array.getElem?_eq_some_iff.1 h).1
class MapI (P : Program) (t : TypeId) (k e : outParam TypeId) : Prop where
 ut : P.underlying t = some (.map k e)
 uk : P.underlying k = some (.int .i64)
 ze : ∃ z, ∀ w, (zeroValue e).run P w = .ok z w
theorem map_erase (val : Nat → Value) (k : Nat) : ∀ (ks : List Nat), k ∈ ks → (ks.map (mEn val)).eraseIdx (ks.idxOf k) = (ks.erase k).map (mEn val)
 | [], h => by cases h
 | a :: ks, h => by
  by_cases e : a = k
  ·subst e; simp
  ·have h2 : k ∈ ks := by
    rcases List.mem_cons.1 h with x | x
    ·exact absurd x.symm e
    ·exact x
   have : (a == k) = false := by simpa using e
   rw [List.idxOf_cons, this]
   simp only [cond_false, List.map_cons, List.eraseIdx_cons_succ]
   rw [map_erase val k ks h2, List.erase_cons_tail (by simpa using e), List.map_cons]
section
variable {P : Program} {t k e : TypeId} {S : List Nat} {w0 w : World} {L : List Et} {b c i : Nat} {ks : List Nat} {val : Nat → Value} {v : Value} {K : Value → World → Prop} {KW : World → Prop} {KP : Value → Prop}
theorem mo_put {b : Nat} {o : Obj} : Mo [b] w (w.putObj b o) := ⟨rfl, rfl, rfl, by simp, fun k hk hs => World.putObj_heap_other (by simpa using hs)⟩
end
def fEn {κ : Type} (kv : κ → Value) : Nat → List (κ × Value) → List MapEntry
 | _, [] => []
 | i, (a, v) :: l => ⟨kv a, v, i⟩ :: fEn kv (i + 1) l
def look {κ : Type} [DecidableEq κ] (a : κ) : List (κ × Value) → Nat → Option (Nat × Value)
 | [], _ => none
 | (b, v) :: l, i => if a = b then some (i, v) else look a l (i + 1)
def FBlk {κ : Type} (kv : κ → Value) (w : World) (b : Nat) (l : List (κ × Value)) : Prop := w.heap[b]? = some (.map (fEn kv 0 l).toArray l.length)
abbrev mf {κ : Type} (kv : κ → Value) (b : Nat) (l : List (κ × Value)) : Et := ⟨[b], fun w => FBlk kv w b l⟩
theorem FBlk.lt {κ : Type} {kv : κ → Value} {w : World} {b : Nat} {l : List (κ × Value)} (h : FBlk kv w b l) : b < w.heap.size := (Array.getElem?_eq_some_iff.1 h).1
theorem mf_at {κ : Type} {kv : κ → Value} {B : Nat} {S : List Nat} {b : Nat} {l : List (κ × Value)} {w : World} (h : FBlk kv w b l) : (mf kv b l).At B S w :=
 fun w' _ hb => (hb b h.lt (.inl (by simp))).trans h
theorem fEn_snoc {κ : Type} {kv : κ → Value} {a : κ} {v : Value} : ∀ (l : List (κ × Value)) (i : Nat), fEn kv i (l ++ [(a, v)]) = fEn kv i l ++ [⟨kv a, v, i + l.length⟩]
 | [], i => rfl
 | (b, u) :: l, i => by
  rw [List.cons_append, fEn, fEn, fEn_snoc l (i + 1), List.cons_append, List.length_cons]
  congr 3; congr 1; omega
theorem look_none {κ : Type} [DecidableEq κ] {a : κ} : ∀ {l : List (κ × Value)} {i : Nat}, a ∉ l.map (·.1) → look a l i = none
 | [], _, _ => rfl
 | (b, v) :: l, i, h => by
  rw [List.map_cons, List.mem_cons, not_or] at h
  rw [look, if_neg h.1]
  exact look_none h.2
theorem look_get {κ : Type} [DecidableEq κ] {a : κ} {v : Value} : ∀ {l : List (κ × Value)} {j i : Nat}, (l.map (·.1)).Nodup → l[j]? = some (a, v) → ∃ q, look a l i = some (q, v)
 | [], j, i, _, h => by simp at h
 | (b, u) :: l, 0, i, _, h => by
  have e : (b, u) = (a, v) := by simpa using h
  injection e with e1 e2
  subst e1; subst e2
  exact ⟨i, by rw [look, if_pos rfl]⟩
 | (b, u) :: l, j + 1, i, hn, h => by
  rw [List.map_cons, List.nodup_cons] at hn
  have h : l[j]? = some (a, v) := by simpa using h
  have hm : a ∈ l.map (·.1) := List.mem_map.2 ⟨_, List.mem_of_getElem? h, rfl⟩
  have hne : a ≠ b := fun e => hn.1 (e ▸ hm)
  rw [look, if_neg hne]
  exact look_get hn.2 h
class MapF (P : Program) (t : TypeId) (κ : outParam Type) [DecidableEq κ] (kv : outParam (κ → Value)) (k e : outParam TypeId) : Prop where
 ut : P.underlying t = some (.map k e)
 chk : ∀ (b : Bool) (a : κ) (w : World), (Instr.checkKey b 10000 k (kv a)).run P w = .ok () w
 fnd : ∀ (a : κ) (l : List (κ × Value)) (w : World), (Instr.findKey k (kv a) (fEn kv 0 l)).run P w = .ok (look a l 0) w
abbrev kvI (z : Int) : Value := .int .i64 z
theorem fndI (a : Int) : ∀ (l : List (Int × Value)) (i c : Nat), Instr.findNow (.int .i64) (kvI a) (fEn kvI c l) i = some (look a l i)
 | [], _, _ => rfl
 | (b, v) :: l, i, c => by
  rw [fEn]
  unfold Instr.findNow
  by_cases h : a = b
  ·subst h
   have : Instr.sameNow (.int .i64) (kvI a) (kvI a) = some true := by simp [Instr.sameNow]
   rw [show (MapEntry.mk (kvI a) v c).key = kvI a from rfl, this, look, if_pos rfl]
  ·have : Instr.sameNow (.int .i64) (kvI a) (kvI b) = some false := by simp [Instr.sameNow]; omega
   rw [show (MapEntry.mk (kvI b) v c).key = kvI b from rfl, this, look, if_neg h]
   exact fndI a l (i + 1) (c + 1)
theorem mapFI {P : Program} {t k e : TypeId} (h1 : P.underlying t = some (.map k e)) (h2 : P.underlying k = some (.int .i64)) : MapF P t Int kvI k e :=
 ⟨h1, fun b a w => MapKept.run_checkKey (P := P) (w := w) (k := .int .i64 a) h2 rfl b 9999, fun a l w => MapKept.run_findKey (P := P) (w := w) h2 (fndI a l 0 0)⟩
section
variable {P : Program} {t k e : TypeId} {κ : Type} [DecidableEq κ] {kv : κ → Value} {S : List Nat} {w0 w : World} {L : List Et} {b i : Nat} {l : List (κ × Value)} {a : κ} {v : Value} {K : Value → World → Prop} {KW : World → Prop} {KP : Value → Prop}
theorem mfS [hm : MapF P t κ kv k e] (h : Hp S w0 w L) (hk : ∀ b w1, Hp S w0 w1 (mf kv b [] :: L) → K (.map (some b)) w1) : Mm P t none w K := by
 refine V_of (P := P) (v := .map (some w.heap.size)) (w' := w.alloc (.map #[] 0)) ?_ (hk _ _ ?_)
 ·simp [Instr.makeMap]
 ·exact h.xn ((Ext.refl w).al _) (mf_at (World.alloc_heap_new w _)) (by simp)
theorem run_lkF [hm : MapF P t κ kv k e] (hb : FBlk kv w b l) {ok : Bool} {q : Nat} (hl : look a l 0 = some (q, v)) : (Instr.lookup t (.map (some b)) (kv a) ok).run P w = .ok (if ok then .tuple #[v, .bool true] else v) w := by
 have hc := fun bb => hm.chk bb a w
 have hf := hm.fnd a l w
 rw [hl] at hf
 simp [Instr.lookup, run_underlying hm.ut, MapKept.run_getObj_map hb, hc, hf, Result.andThen]
theorem run_lkN [hm : MapF P t κ kv k e] (hb : FBlk kv w b l) {ok : Bool} (hz : (zeroValue e).run P w = .ok v w) (hl : look a l 0 = none) : (Instr.lookup t (.map (some b)) (kv a) ok).run P w = .ok (if ok then .tuple #[v, .bool false] else v) w := by
 have hc := fun bb => hm.chk bb a w
 have hf := hm.fnd a l w
 rw [hl] at hf
 simp [Instr.lookup, run_underlying hm.ut, MapKept.run_getObj_map hb, hc, hf, hz, Result.andThen]
theorem lfG [hm : MapF P t κ kv k e] (hb : FBlk kv w b l) (hn : (l.map (·.1)).Nodup) {j : Nat} (hj : l[j]? = some (a, v)) (hk : K v w) : Lk P t (.map (some b)) (kv a) false w K := by
 obtain ⟨q, hq⟩ := look_get (i := 0) hn hj
 exact V_of (run_lkF hb hq) hk
theorem run_putF {o : Obj} (h : FBlk kv w b l) : (setObj b o).run P w = .ok () (w.putObj b o) := MapKept.run_setObj_map o h
theorem mfN [hm : MapF P t κ kv k e] (h : Hp S w0 w L) (i : Nat) (hi : L[i]? = some (mf kv b l)) (hn : a ∉ l.map (·.1)) (hk : ∀ w1, Hp S w0 w1 (L.set i (mf kv b (l ++ [(a, v)]))) → KW w1) : Mu P t (.map (some b)) (kv a) v w KW := by
 have hb : FBlk kv w b l := h.get hi
 have hf := hm.fnd a l w
 rw [look_none hn] at hf
 have hc := hm.chk false a w
 have ha : (fEn kv 0 l).toArray.push ⟨kv a, v, l.length⟩ = (fEn kv 0 (l ++ [(a, v)])).toArray := by
  rw [List.push_toArray, fEn_snoc, Nat.zero_add]
 have hr : (Instr.mapUpdate t (.map (some b)) (kv a) v).run P w = .ok () (w.putObj b (.map (fEn kv 0 (l ++ [(a, v)])).toArray (l ++ [(a, v)]).length)) := by
  have hp := run_putF (P := P) (o := .map (fEn kv 0 (l ++ [(a, v)])).toArray (l.length + 1)) hb
  unfold Instr.mapUpdate
  simp only [Sem.run_bind, run_underlying hm.ut, Result.andThen, MapKept.run_getObj_map hb, hc, hf, ha, hp, List.length_append, List.length_cons, List.length_nil, Nat.zero_add]
 refine ⟨_, hr, hk _ (h.up hi mo_put (mf_at (World.putObj_heap_same hb.lt)) fun k hk => .inl hk)⟩
end
end Go.Eng
namespace Go.Eng
open Go Go.RowKit Go.Proofs
set_option maxRecDepth 100000
section
variable {P : Program} {t T e : TypeId} {S : List Nat} {w0 w : World} {L : List Et} {g od os n cd cs c : Nat} {ty : TypeId} {xs vs xs' : List Value} {K : Value → World → Prop} {KP : Value → Prop}
end
end Go.Eng
namespace Go.Eng
open Go Go.RowKit Go.Proofs
section
variable {P : Program} {w : World} {K : Value → World → Prop} {t s d : TypeId} {c : Bool} {x y : Int}
theorem Bu_sr1 (h0 : 0 ≤ x) (hk : K (.int .u64 (x / 2)) w) : Bn P .shr t c (.int .u64 x) (.int .u64 1) w K := by
 have hm : min ((1 : Int).toNat) IntKind.u64.bits = 1 := by decide
 have e : x.fdiv (2 ^ 1) = x / 2 := by rw [Int.fdiv_eq_ediv_of_nonneg _ (by decide)]; rfl
 ((try simp -dsimp [go_sem, hm, e]); repeat (simp -dsimp (disch := omega) only [gL, gI]; try simp -dsimp [go_sem, hm, e])); exact hk
theorem Cv_i {k k' : IntKind} (hs : (P.underlying s).isSome = true) (hd : P.underlying d = some (.int k)) (hw : k.wrap x = y) (hk : K (.int k y) w) : Cv P s d (.int k' x) w K := by
 ((try simp -dsimp [go_sem, hs, hd, hw]); repeat (simp -dsimp (disch := omega) only [gL, gI]; try simp -dsimp [go_sem, hs, hd, hw])); exact hk
end
end Go.Eng
namespace Go.Eng
open Go Go.RowKit Go.Proofs
section
variable {P : Program} {S : List Nat} {w0 w w' : World} {L : List Et} {K : Value → World → Prop} {KP : Value → Prop} {KW : World → Prop} {s d t e : TypeId} {g k n cap o : Nat} {cs : List Value} {v : Value}
end
set_option maxRecDepth 100000
def RowB (u : TypeId) (v : Value) (n : Nat) (xs : List Value) (w : World) : Prop :=
 w.ownsRow 0 u 1 v n xs ∨ ∃ g cap zs, v = .slice (some ⟨g, 0, none⟩) n cap ∧ xs.length = n ∧ n + zs.length = cap ∧ w.heap[g]? = some (.cells (xs ++ zs).toArray u (cap, cap + 1))
abbrev rb (u : TypeId) (v : Value) (n : Nat) (xs : List Value) : Et := ⟨v.ownBlock.toList, RowB u v n xs⟩
section
variable {P : Program} {S : List Nat} {w0 w : World} {L : List Et} {K : Value → World → Prop} {t u T : TypeId} {n c : Nat} {xs ys : List Value} {v v2 y : Value}
theorem RowB.sl (h : RowB u v n xs w) : SlC w 1 v n xs := by
 rcases h with h | ⟨g, cap, zs, rfl, h1, h3, h4⟩
 ·exact ownsRow_sl h
 ·refine ⟨by omega, .inr ⟨g, 0, cap, rfl, by omega, fun i x hx => ?_⟩⟩
  have hi := (List.getElem?_eq_some_iff.1 hx).1
  have : (xs ++ zs)[i]? = some x := by rw [List.getElem?_append_left hi]; exact hx
  simp [World.cell?, h4, this]
end
def Full (v : Value) (n : Nat) : Prop := ∃ a, v = .slice a n n
section
variable {P : Program} {S : List Nat} {w0 w : World} {L : List Et} {K : Value → World → Prop} {KP : Value → Prop} {t u T : TypeId} {n m c j : Nat} {xs ys : List Value} {v v2 : Value} {wi : Bool}
theorem run_scF [hs : Slt P t u c] (h : SlC w c v n xs) (hj : j ≤ n) {k k' : IntKind} : ∃ v', (∀ W, (Instr.sliceAt t v none (some (.int k (j : Int))) (some (.int k' (j : Int)))).run P W = .ok v' W) ∧ Part c v n xs v' j (xs.take (j * c)) ∧ Full v' j := by
 obtain ⟨h0, ⟨rfl, rfl⟩ | ⟨b, o, cap, rfl, hcap, hcells⟩⟩ := h
 ·have : j = 0 := by omega
  subst this
  refine ⟨.slice none 0 0, fun W => ?_, ⟨rfl, fun W hW => ?_⟩, ⟨none, rfl⟩⟩
  ·simp [Instr.sliceAt, Instr.slice, Instr.sliceBounds, Instr.sliceBound, run_underlying hs.un, hs.sz, asIntOf]
  ·exact ⟨by simp, .inl ⟨rfl, rfl⟩⟩
 ·refine ⟨.slice (some ⟨b, o, none⟩) j j, fun W => ?_, ⟨rfl, fun W hW => ?_⟩, ⟨_, rfl⟩⟩
  ·have e : (⟨b, o, none⟩ : Addr).add 0 = ⟨b, o, none⟩ := by rw [addN, Nat.add_zero]
   have h1 : j ≤ cap := by omega
   by_cases hn : j = 0
   ·subst hn
    simp [Instr.sliceAt, Instr.slice, Instr.sliceBounds, Instr.sliceBound, run_underlying hs.un, hs.sz, asIntOf]
   ·simp [Instr.sliceAt, Instr.slice, Instr.sliceBounds, Instr.sliceBound, run_underlying hs.un, hs.sz, asIntOf, h1, e]
  ·obtain ⟨q0, ⟨q1, _⟩ | ⟨b', o', cap', q1, q2, q3⟩⟩ := hW
   ·cases q1
   ·cases q1
    refine ⟨by rw [List.length_take, q0, Nat.min_eq_left (Nat.mul_le_mul_right _ hj)], .inr ⟨b, o, j, rfl, Nat.le_refl _, fun i x hx => ?_⟩⟩
    rw [List.getElem?_take] at hx
    split at hx
    ·exact q3 i x hx
    ·cases hx
theorem dscF [Slt P t u c] (h : SlC w c v n xs) (hj : j ≤ n) {k k' : IntKind} (hk : ∀ v', Part c v n xs v' j (xs.take (j * c)) → Full v' j → KP v') : Dv P wi (Instr.sliceAt t v none (some (.int k (j : Int))) (some (.int k' (j : Int)))) w KP := by
 obtain ⟨v', h1, h2, h3⟩ := run_scF (P := P) (t := t) (k := k) (k' := k') h hj
 cases wi
 ·exact ⟨v', h1 w, hk v' h2 h3⟩
 ·exact ⟨v', h1, hk v' h2 h3⟩
theorem run_apF [hs : Slt P t u c] {zs0 : List Value} [hm : Slm P t u zs0] (hz0 : zs0.length = c) (hc0 : 0 < c) (ho : SlC w c v n xs) (hf : Full v n) (hs2 : SlC w c v2 m ys) (hm0 : 0 < m) (hy : ∀ y ∈ ys, y.oneCell' = true) (hn : n + m ≤ 16777216) :
 ∃ v' w', (Builtin.append_ #[t, t] T #[v, v2]).run P w = .ok v' w' ∧ w'.ownsRow w.heap.size u c v' (n + m) (xs ++ ys) ∧ Ext w w' := by
 obtain ⟨ti, z, hi, hz, hzc, hsz, h2⟩ := hm.inf
 have hzs : z.cells.size = c := by rw [hzc]; simpa using hz0
 have hsz1 : ti.size = c := by rw [hsz, hz0]
 have h63 : n + m ≤ maxLen := by unfold maxLen; omega
 have hby : (n + m) * ti.bytes ≤ 140737488355328 := by have := Nat.mul_le_mul hn h2; omega
 obtain ⟨hl, ⟨rfl, rfl⟩ | ⟨b, o, cap2, rfl, hcap, hcells⟩⟩ := hs2
 ·omega
 have hcells' : ∀ j u, ys[j]? = some u → w.cell? ((⟨b, o, none⟩ : Addr).add j) = some u := fun j u hu => (addN b o j).symm ▸ hcells j u hu
 obtain ⟨a, rfl⟩ := hf
 obtain ⟨hx0, ⟨hv, rfl⟩ | ⟨g, og, cap, hv, _, holds⟩⟩ := ho
 ·obtain ⟨rfl, _, _⟩ := Value.slice.inj hv
  have hx : xs = [] := List.eq_nil_of_length_eq_zero (by simpa using hx0)
  subst hx
  obtain ⟨v', w', hr, ho', hg, _⟩ := run_append_own w w.heap.size t T u ti z c ti.bytes hs.un hi hz hsz1 rfl hzs hc0 _ 0 [] (World.ownsRow_nil w _ u c) ⟨b, o, none⟩ m cap2 ys hl hcells' hy h63 hby (Nat.le_refl _)
  refine ⟨v', w', hr, ho', ?_⟩
  exact ⟨hg.os, hg.tape, hg.output, hg.size, fun k hk => hg.block k hk (by simp [Value.ownBlock])⟩
 ·cases hv
  have hr := run_append_grow (P := P) w t T u ti z hs.un hi hz ⟨g, og, none⟩ n n xs (by rw [hsz1]; exact hx0) (fun j x hx => by rw [addN]; exact holds j x hx) ⟨b, o, none⟩ m cap2 ys (by rw [hsz1]; exact hl) hcells' (by omega) (by simp only [maxLen] at h63; omega) (growslice_fits (by omega) hby)
  have hge := grownCap_ge w (n + m) n u
  have hcm' : grownCap w (n + m) n u ≤ maxLen := grownCap_le_maxLen w (n + m) n u h63
  have hlen : (xs ++ ys).length = (n + m) * c := by rw [List.length_append, hx0, hl, Nat.add_mul]
  refine ⟨_, _, hr, ⟨hlen, .inr ⟨w.heap.size, _, _, rfl, Nat.le_refl _, heap_alloc_new w.drew _, hge, hcm', ?_, ?_⟩⟩, ⟨rfl, rfl, rfl, by simp, fun k hk => heap_alloc_old w.drew _ k hk⟩⟩
  ·simp only [Array.size_append, List.size_toArray, size_zeroCells, hzs, hx0, hl, ← Nat.add_mul]
   congr 1
   omega
  ·simp only [Array.toList_append, List.append_assoc]
   rw [← List.append_assoc, ← hlen]
   exact List.take_left
theorem apF [hs : Slt P t u c] {zs0 : List Value} [hm : Slm P t u zs0] (hz0 : zs0.length = c) (hc0 : 0 < c) (h : Hp S w0 w L) (ho : SlC w c v n xs) (hf : Full v n) (hs2 : SlC w c v2 m ys) (hm0 : 0 < m) (hy : (ys.all fun x => x.oneCell') = true) (hn : n + m ≤ 16777216)
 (hk : ∀ v' w1, Hp S w0 w1 (ro u c v' (n + m) (xs ++ ys) :: L) → K v' w1) : Bt P .append #[t, t] T #[v, v2] w K := by
 obtain ⟨v', w', hr, ho', x⟩ := run_apF (P := P) (t := t) (T := T) hz0 hc0 ho hf hs2 hm0 (fun y hy' => List.all_eq_true.1 hy y hy') hn
 show V P (Builtin.append_ #[t, t] T #[v, v2]) w K
 exact V_of hr (hk v' w' (h.row x ho'))
end
abbrev vI (z : Int) : Value := .int .i64 z
class EqC (P : Program) (t : TypeId) (n : outParam Nat) : Prop where
 eq : ∀ (d : Nat) (w : World) (xs ys : List Int), xs.length = n → ys.length = n → (Op.equalIn (d + 8) t (.agg (xs.map vI).toArray) (.agg (ys.map vI).toArray)).run P w = .ok (decide (xs = ys)) w
inductive FL (P : Program) (N : Nat) : Nat → List Field → Nat → Prop
 | nil {o e : Nat} (h : o = e) : FL P N o [] e
 | int {o e : Nat} {f : Field} {fs : List Field} (hn : f.name ≠ "_") (hu : P.underlying f.type = some (.int .i64)) (h1 : One P f.type) (ho : f.offset = o) (h : FL P N (o + 1) fs e) : FL P N o (f :: fs) e
 | sub {o e m : Nat} {f : Field} {fs : List Field} (hn : f.name ≠ "_") (hq : ∀ (d : Nat) (w : World) (xs ys : List Int), xs.length = m → ys.length = m → (Op.equalIn (d + N + 1) f.type (.agg (xs.map vI).toArray) (.agg (ys.map vI).toArray)).run P w = .ok (decide (xs = ys)) w)
  (ha : Agg P f.type m) (ho : f.offset = o) (h : FL P N (o + m) fs e) : FL P N o (f :: fs) e
theorem take_split {α : Type} [DecidableEq α] {xs ys : List α} {o m e : Nat} (h1 : o + m ≤ e) (hx : e ≤ xs.length) (hy : e ≤ ys.length) :
 decide ((xs.drop o).take (e - o) = (ys.drop o).take (e - o)) = (decide ((xs.drop o).take m = (ys.drop o).take m) && decide ((xs.drop (o + m)).take (e - (o + m)) = (ys.drop (o + m)).take (e - (o + m)))) := by
 have key : ∀ zs : List α, (zs.drop o).take (e - o) = (zs.drop o).take m ++ (zs.drop (o + m)).take (e - (o + m)) := fun zs => by
  rw [show e - o = m + (e - (o + m)) by omega, List.take_add, List.drop_drop]
 rw [key xs, key ys, ← Bool.decide_and]
 apply decide_eq_decide.2
 constructor
 ·intro h
  exact List.append_inj h (by simp only [List.length_take, List.length_drop]; omega)
 ·rintro ⟨a, b⟩; rw [a, b]
theorem FL.le {P : Program} {N o e : Nat} {fs : List Field} (h : FL P N o fs e) : o ≤ e := by
 induction h with
 | nil h => omega
 | int _ _ _ _ _ ih => omega
 | sub _ _ _ _ _ ih => omega
theorem run_part1 {P : Program} {t : TypeId} [h : One P t] (w : World) {cs : Array Value} {o : Nat} {v : Value} (hv : cs[o]? = some v) : (part t cs o).run P w = .ok v w := by
 simp [part, h.ag, hv, Result.andThen]
theorem run_partA {P : Program} {t : TypeId} {m : Nat} [h : Agg P t m] (w : World) {cs : Array Value} {o : Nat} : (part t cs o).run P w = .ok (.agg (cs.extract o (o + m))) w := by
 simp [part, h.ag, h.sz, Result.andThen]
theorem ext_map {zs : List Int} {o m : Nat} : ((zs.map vI).toArray).extract o (o + m) = ((((zs.drop o).take m)).map vI).toArray := by
 rw [List.extract_toArray]
 simp [List.extract, List.map_take, List.map_drop]
theorem run_eqFL {P : Program} {N o e : Nat} {fs : List Field} (h : FL P N o fs e) : ∀ (d : Nat) (w : World) (xs ys : List Int), e ≤ xs.length → e ≤ ys.length → (Op.eqFields (d + N + 1) (xs.map vI).toArray (ys.map vI).toArray fs).run P w = .ok (decide ((xs.drop o).take (e - o) = (ys.drop o).take (e - o))) w := by
 induction h with
 | nil h => intro d w xs ys _ _; subst h; simp [Op.eqFields]
 | @int o e f fs hn hu h1 ho h ih =>
  intro d w xs ys hx hy
  have hle := h.le
  have hox : o < xs.length := by omega
  have hoy : o < ys.length := by omega
  have p1 : (part f.type (xs.map vI).toArray f.offset).run P w = .ok (vI xs[o]) w := run_part1 w (by rw [ho]; simp [hox])
  have p2 : (part f.type (ys.map vI).toArray f.offset).run P w = .ok (vI ys[o]) w := run_part1 w (by rw [ho]; simp [hoy])
  have p3 : (Op.equalIn (d + N + 1) f.type (vI xs[o]) (vI ys[o])).run P w = .ok (xs[o] == ys[o]) w := run_equalIn_int w (d + N) f.type .i64 .i64 _ _ hu
  have hs := take_split (xs := xs) (ys := ys) (o := o) (m := 1) (e := e) hle hx hy
  have ex : (xs.drop o).take 1 = [xs[o]] := by rw [List.drop_eq_getElem_cons hox]; rfl
  have ey : (ys.drop o).take 1 = [ys[o]] := by rw [List.drop_eq_getElem_cons hoy]; rfl
  rw [ex, ey] at hs
  rw [hs]
  unfold Op.eqFields
  rw [if_pos hn]
  simp only [Sem.run_bind, p1, p2, p3, Result.andThen_ok]
  by_cases hb : xs[o] = ys[o]
  ·rw [beq_iff_eq.2 hb]
   simp only [Bool.not_true, Bool.false_eq_true, if_false]
   rw [ih d w xs ys hx hy]
   simp [hb]
  ·rw [show (xs[o] == ys[o]) = false from beq_eq_false_iff_ne.2 hb]
   simp [hb]
 | @sub o e m f fs hn hq ha ho h ih =>
  intro d w xs ys hx hy
  have hle := h.le
  have p1 : (part f.type (xs.map vI).toArray f.offset).run P w = .ok (.agg (((xs.drop o).take m).map vI).toArray) w := by rw [run_partA, ho, ext_map]
  have p2 : (part f.type (ys.map vI).toArray f.offset).run P w = .ok (.agg (((ys.drop o).take m).map vI).toArray) w := by rw [run_partA, ho, ext_map]
  have p3 := hq d w ((xs.drop o).take m) ((ys.drop o).take m) (by simp only [List.length_take, List.length_drop]; omega) (by simp only [List.length_take, List.length_drop]; omega)
  have hs := take_split (xs := xs) (ys := ys) (o := o) (m := m) (e := e) hle hx hy
  rw [hs]
  unfold Op.eqFields
  rw [if_pos hn]
  simp only [Sem.run_bind, p1, p2, p3, Result.andThen_ok]
  by_cases hb : (xs.drop o).take m = (ys.drop o).take m
  ·rw [decide_eq_true hb]
   simp only [Bool.not_true, Bool.false_eq_true, if_false]
   rw [ih d w xs ys hx hy, Bool.true_and]
  ·rw [decide_eq_false hb]
   simp
abbrev EqN (P : Program) (t : TypeId) (n N : Nat) : Prop := ∀ (d : Nat) (w : World) (xs ys : List Int), xs.length = n → ys.length = n → (Op.equalIn (d + N + 2) t (.agg (xs.map vI).toArray) (.agg (ys.map vI).toArray)).run P w = .ok (decide (xs = ys)) w
theorem mkEqC {P : Program} {t : TypeId} {n N : Nat} {fs : Array Field} (hu : P.underlying t = some (.struct fs)) (hp : P.stoodInHeld t = false) (hf : FL P N 0 fs.toList n) :
 ∀ (d : Nat) (w : World) (xs ys : List Int), xs.length = n → ys.length = n → (Op.equalIn (d + N + 2) t (.agg (xs.map vI).toArray) (.agg (ys.map vI).toArray)).run P w = .ok (decide (xs = ys)) w := by
 intro d w xs ys hx hy
 have e : P.fieldsOf t = fs := by simp [Program.fieldsOf, hu]
 rw [run_equalIn_struct w (d + N + 1) t _ _ (by rw [e]; exact hu) hp, e, run_eqFL hf d w xs ys (by omega) (by omega)]
 simp only [List.drop_zero, Nat.sub_zero]
 rw [List.take_of_length_le (by omega), List.take_of_length_le (by omega)]
theorem EqC.of0 {P : Program} {t : TypeId} {n : Nat} (h : ∀ (d : Nat) (w : World) (xs ys : List Int), xs.length = n → ys.length = n → (Op.equalIn (d + 0 + 2) t (.agg (xs.map vI).toArray) (.agg (ys.map vI).toArray)).run P w = .ok (decide (xs = ys)) w) : EqC P t n := ⟨fun d => h (d + 6)⟩
theorem EqC.of1 {P : Program} {t : TypeId} {n : Nat} (h : ∀ (d : Nat) (w : World) (xs ys : List Int), xs.length = n → ys.length = n → (Op.equalIn (d + 1 + 2) t (.agg (xs.map vI).toArray) (.agg (ys.map vI).toArray)).run P w = .ok (decide (xs = ys)) w) : EqC P t n := ⟨fun d => h (d + 5)⟩
section
variable {P : Program} {t : TypeId} {n : Nat} {c : Bool} {w : World} {K : Value → World → Prop} {KP : Value → Prop} {wi : Bool}
theorem EqC.run [h : EqC P t n] (w : World) {xs ys : List Int} (hx : xs.length = n) (hy : ys.length = n) : (Op.equal t (.agg (xs.map vI).toArray) (.agg (ys.map vI).toArray)).run P w = .ok (decide (xs = ys)) w := h.eq 9992 w xs ys hx hy
end
theorem perm_erase {α : Type} : ∀ {l : List α} {i : Nat} (h : i < l.length), (l[i] :: l.eraseIdx i).Perm l
 | x :: l, 0, _ => .refl _
 | x :: l, i + 1, h => by
  have h' : i < l.length := by simpa using h
  have ih := perm_erase (l := l) (i := i) h'
  show (l[i] :: x :: l.eraseIdx i).Perm (x :: l)
  exact (List.Perm.swap _ _ _).trans (ih.cons x)
structure Rw where
 v : Value
 n : Nat
 xs : List Value
def ros (e : TypeId) (c : Nat) (l : List Rw) : List Et := l.map fun r => ro e c r.v r.n r.xs
section
variable {S : List Nat} {w0 w : World} {L : List Et} {e : TypeId} {c : Nat}
theorem ros_take {l : List Rw} {r : Rw} {i : Nat} (hi : l[i]? = some r) (h : Hp S w0 w (ros e c l ++ L)) : Hp S w0 w (ro e c r.v r.n r.xs :: (ros e c (l.eraseIdx i) ++ L)) := by
 refine h.perm ?_
 obtain ⟨hl, rfl⟩ := List.getElem?_eq_some_iff.1 hi
 have := (perm_erase hl).symm
 exact ((this.map _).append_right L)
end
end Go.Eng
namespace Go.Eng
open Go Go.RowKit Go.Proofs Go.MapKept
set_option maxRecDepth 100000
abbrev kvA (z : Int × Int) : Value := .agg #[.int .i64 z.1, .int .i64 z.2]
section
variable {P : Program} {t k e i : TypeId}
theorem run_eqA2 (h2 : P.underlying k = some (.array 2 i)) [h1 : One P i] (h3 : P.underlying i = some (.int .i64)) (d : Nat) (w : World) (a b : Int × Int) : (Op.equalIn (d + 2) k (kvA a) (kvA b)).run P w = .ok (decide (a = b)) w := by
 obtain ⟨a1, a2⟩ := a
 obtain ⟨b1, b2⟩ := b
 have e1 := run_equalIn_int (P := P) w d i .i64 .i64 a1 b1 h3
 have e2 := run_equalIn_int (P := P) w d i .i64 .i64 a2 b2 h3
 have p : ∀ (x y : Int) (j : Nat) (v : Value), #[Value.int .i64 x, .int .i64 y][j]? = some v → (part i #[Value.int .i64 x, .int .i64 y] j).run P w = .ok v w := fun x y j v h => run_part1 w h
 have p1 := p a1 a2 0 _ rfl
 have p2 := p a1 a2 1 _ rfl
 have p3 := p b1 b2 0 _ rfl
 have p4 := p b1 b2 1 _ rfl
 unfold Op.equalIn
 simp only [Sem.run_bind, run_underlying h2, Result.andThen_ok, h1.sz]
 simp only [Std.Legacy.Range.forIn_eq_forIn_range', Std.Legacy.Range.size, Nat.sub_zero, Nat.add_sub_cancel, Nat.div_one]
 by_cases h : a1 = b1
 ·by_cases h' : a2 = b2
  ·subst h; subst h'
   simp [List.range', p1, p2, e1, e2, Result.andThen_ok]
  ·subst h
   simp [List.range', p1, p2, p3, p4, e1, e2, Result.andThen_ok, h', show (a2 == b2) = false from beq_eq_false_iff_ne.2 h']
 ·simp [List.range', p1, p2, p3, p4, e1, e2, Result.andThen_ok, h, show (a1 == b1) = false from beq_eq_false_iff_ne.2 h]
theorem fndA (h2 : P.underlying k = some (.array 2 i)) [h1 : One P i] (h3 : P.underlying i = some (.int .i64)) (w : World) (a : Int × Int) : ∀ (l : List ((Int × Int) × Value)) (j c : Nat), (Instr.findAsking k (kvA a) (fEn kvA c l) j).run P w = .ok (look a l j) w
 | [], _, _ => by simp [fEn, Instr.findAsking, look]
 | (b, v) :: l, j, c => by
  have hq : (Op.equal k (kvA a) (kvA b)).run P w = .ok (decide (a = b)) w := run_eqA2 h2 h3 9998 w a b
  rw [fEn]
  unfold Instr.findAsking
  simp only [Sem.run_bind, hq, Result.andThen_ok, look]
  by_cases h : a = b
  ·rw [decide_eq_true h, if_pos rfl, if_pos h]; rfl
  ·rw [decide_eq_false h, if_neg (by decide), if_neg h]
   exact fndA h2 h3 w a l (j + 1) (c + 1)
theorem mapFA {i : TypeId} (ht : P.underlying t = some (.map k e)) (h2 : P.underlying k = some (.array 2 i)) (h1 : One P i) (h3 : P.underlying i = some (.int .i64)) : MapF P t (Int × Int) kvA k e where
 ut := ht
 chk := fun b a w => by
  obtain ⟨a1, a2⟩ := a
  have p1 : (part i #[Value.int .i64 a1, .int .i64 a2] 0).run P w = .ok (.int .i64 a1) w := run_part1 w rfl
  have p2 : (part i #[Value.int .i64 a1, .int .i64 a2] 1).run P w = .ok (.int .i64 a2) w := run_part1 w rfl
  have c1 : ∀ z, (Instr.checkKey b 9999 i (.int .i64 z)).run P w = .ok () w := fun z => MapKept.run_checkKey (P := P) (w := w) (k := .int .i64 z) h3 rfl b 9998
  unfold Instr.checkKey
  simp only [Sem.run_bind, run_underlying h2, Result.andThen_ok, h1.sz]
  simp only [Std.Legacy.Range.forIn_eq_forIn_range', Std.Legacy.Range.size, Nat.sub_zero, Nat.add_sub_cancel, Nat.div_one]
  simp [List.range', p1, p2, c1, h1.sz, Result.andThen_ok]
 fnd := fun a l w => by
  cases l with
  | nil => simp [Instr.findKey, Instr.findNow, fEn, look, run_underlying h2, Result.andThen_ok]
  | cons x l =>
   obtain ⟨b, v⟩ := x
   have : (Instr.findKey k (kvA a) (fEn kvA 0 ((b, v) :: l))).run P w = (Instr.findAsking k (kvA a) (fEn kvA 0 ((b, v) :: l))).run P w := by
    rw [fEn]
    simp [Instr.findKey, Instr.findNow, Instr.sameNow, run_underlying h2, Result.andThen_ok]
   rw [this]
   exact fndA h2 h3 w a _ 0 0
section
variable {κ : Type} [DecidableEq κ] {kv : κ → Value} {w : World} {b : Nat} {l : List (κ × Value)} {a : κ} {v : Value} {K : Value → World → Prop} {KP : Value → Prop}
theorem dlfZ [hm : MapF P t κ kv k e] (hb : FBlk kv w b l) (hz : ∀ w, (zeroValue e).run P w = .ok v w) (hn : a ∉ l.map (·.1)) (hk : KP v) : Dv P false (Instr.lookup t (.map (some b)) (kv a) false) w KP :=
 ⟨_, run_lkN hb (hz w) (look_none hn), hk⟩
end
end
end Go.Eng
namespace Go.Eng
open Go Go.RowKit Go.Proofs
set_option maxRecDepth 100000
section
variable {P : Program} {t T e : TypeId} {S : List Nat} {w0 w : World} {L : List Et} {g od n cap c : Nat} {ty : TypeId} {xs zs : List Value} {K : Value → World → Prop}
theorem clS [hs : Slt P t e c] [hz : Zer P e zs] (hzc : zs.length = c) (h1 : (zs.all fun x => x.oneCell') = true) (h : Hp S w0 w L) (i : Nat) (hi : L[i]? = some (bx g ty xs)) (hle : od + n * c ≤ xs.length)
 (hk : ∀ ys w1, ys.length = n * c → Hp S w0 w1 (L.set i (bx g ty (xs.take od ++ ys ++ xs.drop (od + n * c)))) → K (.tuple #[]) w1) : Bt P .clear #[t] T #[.slice (some ⟨g, od, none⟩) n cap] w K := by
 have hb : Blk w g ty xs := h.get hi
 by_cases hn : n = 0
 ·subst hn
  have hr : (Builtin.clear_ #[t] T #[.slice (some ⟨g, od, none⟩) 0 cap]).run P w = .ok (.tuple #[]) w := by
   unfold Builtin.clear_
   simp [run_underlying hs.un, Result.andThen]
  show V P (Builtin.clear_ #[t] T #[.slice (some ⟨g, od, none⟩) 0 cap]) w K
  refine V_of hr (hk [] w (by simp) ?_)
  have e1 : xs.take od ++ [] ++ xs.drop (od + 0 * c) = xs := by simp
  rw [e1]
  have e2 : L.set i (bx g ty xs) = L := by
   obtain ⟨h1, h2⟩ := List.getElem?_eq_some_iff.1 hi
   rw [← h2]; exact List.set_getElem_self h1
  rw [e2]; exact h
 ·obtain ⟨z, hz1, hz2⟩ := hz.zr
  obtain ⟨ys, hys⟩ : ∃ ys, ys = (Builtin.zeroCells zs.toArray n).toList := ⟨_, rfl⟩
  have hyl : ys.length = n * c := by rw [hys, ← hzc]; simp [Builtin.zeroCells]
  have hy1 : ∀ y ∈ ys, y.oneCell' = true := by
   intro y hy
   rw [hys] at hy
   simp only [Builtin.zeroCells, Array.toList_map, List.mem_map, Array.toList_range, List.mem_range, List.size_toArray] at hy
   obtain ⟨j, hj, rfl⟩ := hy
   have h0 : 0 < zs.length := by
    rcases Nat.eq_zero_or_pos zs.length with h0 | h0
    ·rw [h0] at hj; simp at hj
    ·exact h0
   have hlt : j % zs.length < zs.length := Nat.mod_lt _ h0
   have : zs.toArray[j % zs.length]! = zs[j % zs.length] := by simp [hlt]
   rw [this]
   exact List.all_eq_true.1 h1 _ (List.getElem_mem hlt)
  have hr := run_storeCells_at P g od ty ys 0 xs.toArray w hb (by simpa [hyl] using hle) hy1
  have hrun : ∃ w', (Builtin.clear_ #[t] T #[.slice (some ⟨g, od, none⟩) n cap]).run P w = .ok (.tuple #[]) w' ∧ Mo [g] w w' ∧ Blk w' g ty (xs.take od ++ ys ++ xs.drop (od + n * c)) := by
   refine ⟨w.setRow g (xs.take od ++ ys ++ xs.drop (od + ys.length)).toArray, ?_, ⟨rfl, rfl, rfl, ?_, fun k hk hs => ?_⟩, ?_⟩
   ·unfold Builtin.clear_
    cases n with
    | zero => exact absurd rfl hn
    | succ n => simp [run_underlying hs.un, Result.andThen, hz1, hz2, ← hys, hr]
   ·simp [World.setRow]
   ·have : k ≠ g := by simpa using hs
    simp [World.setRow, Array.getElem?_modify, this.symm]
   ·unfold Blk
    rw [setRow_heap w g xs.toArray _ ty _ hb, hyl]
  obtain ⟨w', r1, r2, r3⟩ := hrun
  show V P (Builtin.clear_ #[t] T #[.slice (some ⟨g, od, none⟩) n cap]) w K
  exact V_of r1 (hk ys w' hyl (h.up hi r2 (bx_at r3) fun k hk => .inl hk))
theorem ro_bx {c cap : Nat} {u : TypeId} (h : Hp S w0 w (ro u c (.slice (some ⟨g, 0, none⟩) n cap) n xs :: L)) : ∃ rm, n ≤ cap ∧ (xs ++ rm).length = cap * c ∧ Hp S w0 w (bx g u (xs ++ rm) :: L) := by
 obtain ⟨h1, ⟨h2, _⟩ | ⟨g', cap', cur, h2, h3, h4, h5, h6, h7, h8⟩⟩ := (h.get (i := 0) rfl : World.ownsRow _ _ _ _ _ _ _)
 ·cases h2
 ·injection h2 with a b d
  injection a with a
  injection a with a
  subst a; subst d
  have e : cur.toList = xs ++ cur.toList.drop (n * c) := by rw [← h8, List.take_append_drop]
  refine ⟨cur.toList.drop (n * c), h5, by rw [← e]; simpa using h7, ?_⟩
  rw [← e]
  exact h.as (i := 0) rfl (bx_at (by unfold Blk; simpa using h4)) fun k hk => by simpa [Value.ownBlock] using hk
theorem bx_ro {c cap m : Nat} {u : TypeId} {ys : List Value} (h : Hp S w0 w (bx g u ys :: L)) (hl : ys.length = cap * c) (hm : m ≤ cap) (hc : cap ≤ maxLen) : Hp S w0 w (ro u c (.slice (some ⟨g, 0, none⟩) m cap) m (ys.take (m * c)) :: L) := by
 have hb : Blk w g u ys := h.get (i := 0) rfl
 refine h.as (i := 0) rfl (ro_at ⟨?_, .inr ⟨g, cap, ys.toArray, rfl, Nat.zero_le _, hb, hm, hc, by simpa using hl, by simp⟩⟩) fun k hk => by simpa [Value.ownBlock] using hk
 rw [List.length_take, hl]
 have := Nat.mul_le_mul_right c hm
 omega
end
end Go.Eng
namespace Go.Eng
open Go Go.RowKit Go.Proofs
set_option maxRecDepth 100000
section
variable {P : Program} {vs : Array Value} {i : Nat} {x : Value} {w : World} {K : Value → World → Prop} {KP : Value → Prop}
end
end Go.Eng
namespace Go.Eng
open Go Go.RowKit Go.Proofs
end Go.Eng
namespace Go.Eng
open Go Go.RowKit Go.Proofs
theorem oneC {w : World} {c n : Nat} {v : Value} {xs a b : List Value} (h : SlC w c v n xs) (ha : (a.all fun x => x.oneCell') = true) (hb : (b.all fun x => x.oneCell') = true) : ((a ++ v :: b).all fun x => x.oneCell') = true := by
 rw [List.all_append, List.all_cons, ha, hb, (slc_c1 h).2]
 rfl
end Go.Eng
namespace Go.Eng
open Go Go.RowKit
set_option maxRecDepth 100000
def lvF (L : World → Prop) (R : Ending → World → Prop) : FrameMode → World → Prop
 | .returning, w => L w
 | .panicking c, w => R (.panicked c) w
 | .run, _ => False
def dfF (L : World → Prop) (R : Ending → World → Prop) : Ending → FrameMode → World → Prop
 | .returned _, u, w => lvF L R (settle u) w
 | .panicked c, u, w => lvF L R (raised u c) w
 | .outgrown, _, w => R .outgrown w
abbrev lvQ (P : Program) (n : Nat) (rs : List ResultVar) (s1 : Sl) (R : Ending → World → Prop) : FrameMode → World → Prop := lvF (fun w => resF P n s1 w rs [] fun vs => R (.returned (tup vs)) w) R
abbrev dfK (P : Program) (n : Nat) (rs : List ResultVar) (s1 : Sl) (R : Ending → World → Prop) : Ending → FrameMode → World → Prop := dfF (fun w => resF P n s1 w rs [] fun vs => R (.returned (tup vs)) w) R
abbrev CallsW (P : Program) (f : FuncId) (args : Array Value) (u : FrameMode) (w : World) (K : Ending → FrameMode → World → Prop) : Prop := CallsDIn Fence.wide 8 P f args u w K
def finD (P : Program) (n : Nat) (rs : List ResultVar) (s1 : Sl) (f : FuncId) (args : Array Value) (R : Ending → World → Prop) : Exit → St → World → Prop
 | .normal, _, w => CallsW P f args .returning w (dfK P n rs s1 R)
 | .ret, _, w => CallsW P f args .returning w (dfK P n rs s1 R)
 | .panic c, _, w => CallsW P f args (.panicking c) w (dfK P n rs s1 R)
 | _, _, _ => False
theorem finD_pan {P : Program} {n : Nat} {rs : List ResultVar} {s1 : Sl} {f : FuncId} {args : Array Value} {R : Ending → World → Prop} : PanOK (finD P n rs s1 f args R) := fun c st st' w hd h => h
def resOk (n : Nat) (ms : List Nat) : List ResultVar → Bool
 | [] => true
 | .tmp t :: rs => !memB t ms && Nat.blt t n && resOk n ms rs
 | .cell a _ :: rs => !memB a ms && Nat.blt a n && resOk n ms rs
theorem resF_same {P : Program} {n : Nat} {ms : List Nat} {s s' : Sl} {w : World} (h : Same n ms s s') : ∀ {rs : List ResultVar} {acc : List Value} {K : List Value → Prop}, resOk n ms rs = true → resF P n s w rs acc K → resF P n s' w rs acc K
 | [], acc, K, _, h1 => h1
 | .tmp t :: rs, acc, K, hr, h1 => by
  simp only [resOk, Bool.and_eq_true, Bool.not_eq_true'] at hr
  obtain ⟨⟨a, b⟩, c⟩ := hr
  have hb : t < n := by simpa [Nat.blt_eq] using b
  have e : sl n s' t = sl n s t := by rw [sl_eq, sl_eq, if_pos hb, if_pos hb, h t hb (fun hm => by rw [memB_iff.2 hm] at a; cases a)]
  unfold resF at h1 ⊢
  rw [e]
  exact resF_same h c h1
 | .cell t ty :: rs, acc, K, hr, h1 => by
  simp only [resOk, Bool.and_eq_true, Bool.not_eq_true'] at hr
  obtain ⟨⟨a, b⟩, c⟩ := hr
  have hb : t < n := by simpa [Nat.blt_eq] using b
  have e : sl n s' t = sl n s t := by rw [sl_eq, sl_eq, if_pos hb, if_pos hb, h t hb (fun hm => by rw [memB_iff.2 hm] at a; cases a)]
  unfold resF at h1 ⊢
  rw [e]
  obtain ⟨x, hx, h2⟩ := h1
  exact ⟨x, hx, resF_same h c h2⟩
def DReg (P : Program) (n : Nat) (ops : Array Oper) (s s1 : Sl) (d : Deferred) : Prop :=
 ∀ (w : World) (Q : Exit → Act → World → Prop), Q .normal ⟨toA n s1, [d]⟩ w → wpOpsIn Fence.wide 9 P ops Q (List.range ops.size) ⟨toA n s, []⟩ w
theorem lvQ_leaves {P : Program} {fn : Func} {s1 s2 : Sl} {ms : List Nat} {R : Ending → World → Prop} (hsame : Same fn.ntmps ms s1 s2) (hr : resOk fn.ntmps ms fn.results.toList = true) :
 ∀ {u : FrameMode} {w : World}, lvQ P fn.ntmps fn.results.toList s1 R u w → LeavesIn Fence.wide 9 P fn (toA fn.ntmps s2) R [] u w
 | .returning, w, h => results_of (R := fun v => R (.returned v) w) (resF_same hsame hr h)
 | .panicking c, w, h => h
 | .run, w, h => h.elim
def Df (P : Program) (f : FuncId) (args : Array Value) (u : FrameMode) (w : World) (L : World → Prop) (R : Ending → World → Prop) (_ : Tag R := .mk) : Prop := CallsW P f args u w (dfF L R)
def dfOp (n : Nat) : List Oper → Sl → Option (Sl × FuncId × List Value × List Value)
 | [⟨some j, .makeFunc (.func f) first caps, _, _, _, none⟩, ⟨none, .defer ⟨.value (.tmp j'), args, _⟩, _, _, _, none⟩], s => match Nat.beq j j' with
  | true => match Nat.blt j n with
   | true => some ((j, .func (.func f) (first.toList.map (ev n s)).toArray (caps.toList.map (ev n s)).toArray) :: s, f, caps.toList.map (ev n s), first.toList.map (ev n s) ++ args.toList.map (ev n ((j, .func (.func f) (first.toList.map (ev n s)).toArray (caps.toList.map (ev n s)).toArray) :: s)))
   | false => none
  | false => none
 | [⟨none, .defer ⟨.value (.func f), args, _⟩, _, _, _, none⟩], s => some (s, f, [], args.toList.map (ev n s))
 | _, _ => none
def SeqE (P : Program) (n : Nat) (rs : List ResultVar) (ops : Array Oper) (B : Code) (hB : H) (fd : FuncId) (R : Ending → World → Prop) : Exit → St → World → Prop
 | .normal, st, w => match dfOp n ops.toList st.s with
  | some (s1, f, cap, dargs) => match Nat.beq f fd with
   | true => wpA P n false B hB (finD P n rs s1 fd (dargs ++ cap).toArray R) ⟨s1, [⟨.fn (.func fd) cap.toArray, dargs.toArray⟩]⟩ w
   | false => False
  | none => False
 | _, _, _ => False
theorem seqE_pan {P : Program} {n : Nat} {rs : List ResultVar} {ops : Array Oper} {B : Code} {hB : H} {fd : FuncId} {R : Ending → World → Prop} : PanOK (SeqE P n rs ops B hB fd R) := fun c st st' w hd h => h
theorem evs (n : Nat) (s : Sl) (d : List Deferred) (l : Array Operand) : l.map (Act.eval ⟨toA n s, d⟩) = (l.toList.map (ev n s)).toArray := by
 apply Array.toList_inj.1
 rw [eval_toA]
 simp
theorem dreg1 {P : Program} {n j : Nat} {f : FuncId} {first caps args : Array Operand} {ty ty2 : TypeId} {ps ps2 : String} {af af2 : Array Edge} {at' : Array TypeId} {s : Sl} (hj : j < n) :
 DReg P n #[⟨some j, .makeFunc (.func f) first caps, ty, ps, af, none⟩, ⟨none, .defer ⟨.value (.tmp j), args, at'⟩, ty2, ps2, af2, none⟩] s
  ((j, .func (.func f) (first.toList.map (ev n s)).toArray (caps.toList.map (ev n s)).toArray) :: s)
  ⟨.fn (.func f) (caps.toList.map (ev n s)).toArray, (first.toList.map (ev n s) ++ args.toList.map (ev n ((j, .func (.func f) (first.toList.map (ev n s)).toArray (caps.toList.map (ev n s)).toArray) :: s))).toArray⟩ := by
 intro w Q hQ
 have hmf : ∀ (fn : Fn) (first cap : Array Value) (w : World), (Instr.makeFunc fn first cap).run P w = .ok (.func fn first cap) w := fun _ _ _ _ => rfl
 show wpOpsIn Fence.wide 9 P _ Q [0, 1] _ w
 have hput := put_act n s [] (some j) (.func (.func f) (first.toList.map (ev n s)).toArray (caps.toList.map (ev n s)).toArray)
 simp only [wpOpsIn, List.getElem?_toArray, List.getElem?_cons_zero, Region.wanted, if_true, Oper.wpIn, Oper.semAt_none]
 refine ⟨fun _ _ => trivial, ?_⟩
 have r1 : (execOp (Act.eval ⟨toA n s, []⟩) ⟨some j, .makeFunc (.func f) first caps, ty, ps, af, none⟩).run P w = .ok (.value (.func (.func f) (first.toList.map (ev n s)).toArray (caps.toList.map (ev n s)).toArray)) w := by
  simp [execOp, hmf, evs]
 rw [show Fence.wide.round = none from rfl, Oper.semAt_none, r1, Oper.uponIn_value, hput]
 simp only [List.getElem?_cons_succ, List.getElem?_cons_zero, Region.wanted, if_true]
 refine ⟨fun _ _ => trivial, ?_⟩
 have r2 : (execOp (Act.eval ⟨toA n (putO (some j) (.func (.func f) (first.toList.map (ev n s)).toArray (caps.toList.map (ev n s)).toArray) s), []⟩) ⟨none, .defer ⟨.value (.tmp j), args, at'⟩, ty2, ps2, af2, none⟩).run P w =
  .ok (.defer ⟨.fn (.func f) (caps.toList.map (ev n s)).toArray, (first.toList.map (ev n s) ++ args.toList.map (ev n ((j, .func (.func f) (first.toList.map (ev n s)).toArray (caps.toList.map (ev n s)).toArray) :: s))).toArray⟩) w := by
  have e : Act.eval ⟨toA n (putO (some j) (.func (.func f) (first.toList.map (ev n s)).toArray (caps.toList.map (ev n s)).toArray) s), []⟩ (.tmp j) = .func (.func f) (first.toList.map (ev n s)).toArray (caps.toList.map (ev n s)).toArray := by
   rw [eval_toA]
   show sl n _ j = _
   rw [sl_eq, if_pos hj]
   exact gt_same _ _ _
  simp only [execOp, resolve, e, evs, Deferred.ofValue]
  simp [putO]
 rw [Oper.semAt_none, r2, Oper.uponIn_defer]
 exact hQ
theorem dreg2 {P : Program} {n : Nat} {f : FuncId} {args : Array Operand} {ty2 : TypeId} {ps2 : String} {af2 : Array Edge} {at' : Array TypeId} {s : Sl} :
 DReg P n #[⟨none, .defer ⟨.value (.func f), args, at'⟩, ty2, ps2, af2, none⟩] s s ⟨.fn (.func f) #[], (args.toList.map (ev n s)).toArray⟩ := by
 intro w Q hQ
 show wpOpsIn Fence.wide 9 P _ Q [0] _ w
 simp only [wpOpsIn, List.getElem?_toArray, List.getElem?_cons_zero, Region.wanted, if_true, Oper.wpIn, Oper.semAt_none]
 refine ⟨fun _ _ => trivial, ?_⟩
 have r2 : (execOp (Act.eval ⟨toA n s, []⟩) ⟨none, .defer ⟨.value (.func f), args, at'⟩, ty2, ps2, af2, none⟩).run P w = .ok (.defer ⟨.fn (.func f) #[], (args.toList.map (ev n s)).toArray⟩) w := by
  have e : Act.eval ⟨toA n s, []⟩ (.func f) = .func (.func f) #[] #[] := rfl
  simp only [execOp, resolve, e, evs, Deferred.ofValue]
  simp
 rw [show Fence.wide.round = none from rfl, Oper.semAt_none, r2, Oper.uponIn_defer]
 exact hQ
theorem dfOp_reg {P : Program} {n : Nat} {l : List Oper} {s s1 : Sl} {f : FuncId} {cap dargs : List Value} (h : dfOp n l s = some (s1, f, cap, dargs)) : DReg P n l.toArray s s1 ⟨.fn (.func f) cap.toArray, dargs.toArray⟩ := by
 unfold dfOp at h
 split at h
 ·split at h
  ·next hj =>
   split at h
   ·next hjn =>
    have hj := Nat.eq_of_beq_eq_true hj
    subst hj
    cases h
    exact dreg1 (by simpa [Nat.blt_eq] using hjn)
   ·cases h
  ·cases h
 ·cases h
  exact dreg2
 ·cases h
theorem enterE {P : Program} {f fd : FuncId} {fn : Func} {A B : Code} {i1 : Nat} {ops1 : Array Oper} {hA hB : H} {args : List Value} {w : World} {R : Ending → World → Prop} (hf : P.funcs[f]? = some fn)
 (hb : fn.body = some (.seq A (.seq (.region i1 ops1 false) B))) (hn : Nat.ble args.length fn.ntmps = true) (hm : P.follows .mixedOrders = true) (hro : norf B = true)
 (hna : norf A = true) (hr : resOk fn.ntmps (mods B) fn.results.toList = true) (hE : Proofs.Enters P fd)
 (hs : wpA P fn.ntmps false A hA (SeqE P fn.ntmps fn.results.toList ops1 B hB fd R) ⟨ini 0 args, []⟩ w) : Calls P f args.toArray w R := by
 refine (callsIn_wide (n := 9)).1 (callsIn_of_wp_defers hf hb trivial ?_ rfl)
 rw [← toA_ini args fn.ntmps (by simpa using hn)]
 refine wpIn_seq (wpIn_mono (wpA_sound hm A false none (fun _ => rfl) hA _ _ w seqE_pan hs) ?_)
 rintro e a w1 ⟨s, d', rfl, _, hdd, hq⟩
 cases e with
 | normal =>
  have hd : d' = [] := hdd hna
  subst hd
  have hq : (match dfOp fn.ntmps ops1.toList s with
   | some (s1, f, cap, dargs) => (match Nat.beq f fd with
    | true => wpA P fn.ntmps false B hB (finD P fn.ntmps fn.results.toList s1 fd (dargs ++ cap).toArray R) ⟨s1, [⟨.fn (.func fd) cap.toArray, dargs.toArray⟩]⟩ w1
    | false => False)
   | none => False) := hq
  cases hdf : dfOp fn.ntmps ops1.toList s with
  | none => rw [hdf] at hq; exact hq.elim
  | some x =>
   obtain ⟨s1, f', cap, dargs⟩ := x
   rw [hdf] at hq
   simp only at hq
   cases hbq : Nat.beq f' fd with
   | false => rw [hbq] at hq; exact hq.elim
   | true =>
    rw [hbq] at hq
    have := Nat.eq_of_beq_eq_true hbq
    subst this
    have hreg := dfOp_reg (P := P) hdf
    refine wpIn_seq (wpIn_region (hreg _ _ ?_))
    refine wpIn_mono (wpA_sound hm B false none (fun _ => rfl) hB _ ⟨s1, [⟨.fn (.func f') cap.toArray, dargs.toArray⟩]⟩ w1 finD_pan hq) ?_
    rintro e a w2 ⟨s2, d2, rfl, hsame, hd2, hq2⟩
    have hd2 := hd2 hro
    subst hd2
    have hinv : (invoke (.fn (.func f') cap.toArray) dargs.toArray).run P w2 = .ok (.enter f' (dargs ++ cap).toArray) w2 := by
     show (callFunc f' (dargs.toArray ++ cap.toArray)).run P w2 = _
     rw [show dargs.toArray ++ cap.toArray = (dargs ++ cap).toArray by simp]
     exact hE _ _
    have key : ∀ {u : FrameMode}, u ≠ .run → CallsW P f' (dargs ++ cap).toArray u w2 (dfK P fn.ntmps fn.results.toList s1 R) → LeavesIn Fence.wide 9 P fn (toA fn.ntmps s2) R [⟨.fn (.func f') cap.toArray, dargs.toArray⟩] u w2 := fun {u} hu h => by
     refine leavesIn_cons hu (fun h => by cases h) hinv (fun _ _ => trivial) (CallsDIn.mono h fun e u' w' hk => ?_)
     cases e with
     | returned v => exact lvQ_leaves hsame hr hk
     | panicked c => exact lvQ_leaves hsame hr hk
     | outgrown => exact hk
    cases e with
    | normal => exact key (by simp) hq2
    | ret => exact key (by simp) hq2
    | panic c => exact key (by simp) hq2
    | _ => exact hq2.elim
 | _ => exact hq.elim
end Go.Eng
namespace Go.Eng
open Go Go.RowKit Go.Proofs
set_option maxRecDepth 100000
theorem Mo.nilB {B : List Nat} {a b : World} (h : Mo [] a b) : Mo B a b := h.mono (by simp)
def Fai (c : List PanicEntry) (S : List Nat) (w0 : World) : Ending → World → Prop := fun e w' => e = .panicked c ∧ Mo S w0 w'
section
variable {P : Program} {f : FuncId} {args first cap : Array Value} {w w0 : World} {c : List PanicEntry} {S : List Nat} {pan : List PanicEntry → World → Prop} {K : Value → World → Prop} {L : List Et}
theorem Cl_p (hn : Enters P f) (h : Calls P f args w (Fai c S w)) (hk : ∀ w', Mo S w w' → pan c w') : Cl P f args w pan K := by
 unfold Cl N
 rw [hn]
 exact h.mono fun e w' ⟨he, hs⟩ => by subst he; exact hk w' hs
theorem Cw_p (hn : Enters P f) (h : Calls P f (first ++ args ++ cap) w (Fai c S w)) (hk : ∀ w', Mo S w w' → pan c w') : Cw P (.func (.func f) first cap) args w pan K := by
 unfold Cw N
 simp only [Deferred.ofValue, Sem.run_bind, Sem.run_pure, Result.andThen_ok, invoke]
 rw [hn]
 exact h.mono fun e w' ⟨he, hs⟩ => by subst he; exact hk w' hs
theorem clp {R : Ending → World → Prop} (h : Hp S w0 w L) (hn : Enters P f) (hc : Calls P f args w (Fai c [] w)) (hR : R = Fai c S w0) : Cl P f args w (Pk R) K :=
 Cl_p hn hc fun w' m => by subst hR; exact ⟨rfl, (h.x m.ext).mo⟩
theorem Fai.mono {S S' : List Nat} {w0 w1 : World} (hm : Mo S' w0 w1) (hS : ∀ k ∈ S, k ∈ S' ∨ w0.heap.size ≤ k) {e : Ending} {w' : World} (h : Fai c S w1 e w') : Fai c S' w0 e w' :=
 ⟨h.1, ⟨h.2.os.trans hm.os, h.2.tape.trans hm.tape, h.2.output.trans hm.output, Nat.le_trans hm.size h.2.size, fun k hk hs => by
  refine (h.2.block k (Nat.lt_of_lt_of_le hk hm.size) fun hc => ?_).trans (hm.block k hk hs)
  rcases hS k hc with h1 | h1
  ·exact hs h1
  ·omega⟩⟩
end
section
variable {P : Program} {t e : TypeId} {c g o n cap j lo hi : Nat} {S : List Nat} {w0 w : World} {L : List Et} {kk kk' : IntKind} {K : Value → World → Prop} {KP : Value → Prop} {wi : Bool} {ty : TypeId} {cs vs r : List Value}
theorem iaB [hs : Slt P t e c] (hj : j < n) (hk : K (pr g (o + j * c)) w) : Ia P t (.slice (some ⟨g, o, none⟩) n cap) (.int kk (j : Int)) w K := by
 refine V_of ?_ hk
 have hn : j < n := hj
 simp [Instr.indexAt, run_underlying hs.un, hs.sz, asIntOf, addN, hn]
theorem leB [hs : Slt P t e c] {T : TypeId} (hk : K (.int .i64 (n : Int)) w) : Bt P .len #[t] T #[.slice (some ⟨g, o, none⟩) n cap] w K := Bt_lenL ⟨_, hs.un⟩ hk
theorem scBL [hs : Slt P t e c] (h1 : lo ≤ n) (h2 : lo < cap) (hk : K (.slice (some ⟨g, o + lo * c, none⟩) (n - lo) (cap - lo)) w) : Sc P t (.slice (some ⟨g, o, none⟩) n cap) (some (.int kk (lo : Int))) none none w K := by
 refine V_of ?_ hk
 have h3 : ¬ (cap = lo) := by omega
 simp [Instr.sliceAt, Instr.slice, Instr.sliceBounds, Instr.sliceBound, run_underlying hs.un, hs.sz, asIntOf, h1, h3, addN]
theorem scBH [hs : Slt P t e c] (h1 : hi ≤ cap) (h2 : 0 < cap) (hk : K (.slice (some ⟨g, o, none⟩) hi cap) w) : Sc P t (.slice (some ⟨g, o, none⟩) n cap) none (some (.int kk (hi : Int))) none w K := by
 refine V_of ?_ hk
 have h3 : ¬ (cap = 0) := by omega
 simp [Instr.sliceAt, Instr.slice, Instr.sliceBounds, Instr.sliceBound, run_underlying hs.un, hs.sz, asIntOf, h1, h3, addN]
theorem cut_at {cs : List Value} (h0 : o ≤ cs.length) (h : cs.drop o = vs ++ r) (hl : vs.length = n) : cut o n cs = some vs := by
 unfold cut
 rw [dropO_eq, if_pos h0, takeO_eq, if_pos (by rw [h, List.length_append]; omega), h, ← hl, List.take_left]
theorem wr_at {cs : List Value} (h : o + vs.length ≤ cs.length) : wr o vs cs = some (cs.take o ++ vs ++ cs.drop (o + vs.length)) := by
 unfold wr; rw [wrO_eq, if_pos h]
end
section
variable {S S0 : List Nat} {w0 w w' : World} {Lc Lr L L' : List Et} {e : Et} {Q : World → Prop}
theorem Hp.base (h : Hp S0 w0 w (Lc ++ Lr)) (hs : ∀ e ∈ Lc, e.Simple) : Hp (Lc.flatMap Et.ks) w w Lc where
 mo := .refl _ _
 ok := fun e he => hs e he _ _ _ (h.ok e (List.mem_append_left _ he)).get
 ks := fun e he k hk => ⟨(h.ks e (List.mem_append_left _ he) k hk).1, .inr (List.mem_flatMap.2 ⟨e, he, hk⟩)⟩
 nd := (List.pairwise_append.1 h.nd).1
theorem Hp.call (h : Hp S0 w0 w (Lc ++ Lr)) (h' : Hp (Lc.flatMap Et.ks) w w' L') (hs : ∀ e ∈ L', e.Simple) : Hp S0 w0 w' (L' ++ Lr) := by
 have hin : ∀ k ∈ Lc.flatMap Et.ks, k < w.heap.size ∧ (w0.heap.size ≤ k ∨ k ∈ S0) := fun k hk => by
  obtain ⟨e, he, hke⟩ := List.mem_flatMap.1 hk
  exact h.ks e (List.mem_append_left _ he) k hke
 have hdis : ∀ x ∈ Lr, ∀ k ∈ x.ks, k ∉ Lc.flatMap Et.ks := fun x hx k hk hc => by
  obtain ⟨e, he, hke⟩ := List.mem_flatMap.1 hc
  exact (List.pairwise_append.1 h.nd).2.2 e he x hx k hke hk
 have hmo : Mo S0 w0 w' := ⟨h'.mo.os.trans h.mo.os, h'.mo.tape.trans h.mo.tape, h'.mo.output.trans h.mo.output, Nat.le_trans h.mo.size h'.mo.size, fun k hk hn => by
  refine (h'.mo.block k (Nat.lt_of_lt_of_le hk h.mo.size) fun hc => ?_).trans (h.mo.block k hk hn)
  rcases (hin k hc).2 with h1 | h1
  ·omega
  ·exact hn h1⟩
 refine ⟨hmo, fun e he => ?_, fun e he k hk => ?_, List.pairwise_append.2 ⟨h'.nd, (List.pairwise_append.1 h.nd).2.1, fun a ha b hb k hk hkb => ?_⟩⟩
 ·rcases List.mem_append.1 he with he | he
  ·exact hs e he _ _ _ (h'.ok e he).get
  ·refine (h.ok e (List.mem_append_right _ he)).mv h'.mo.size fun k hk hc => h'.mo.block k hk fun hS => ?_
   rcases hc with hc | ⟨h1, h2⟩
   ·exact hdis e he k hc hS
   ·rcases (hin k hS).2 with h3 | h3
    ·omega
    ·exact h2 h3
 ·rcases List.mem_append.1 he with he | he
  ·refine ⟨(h'.ks e he k hk).1, ?_⟩
   rcases (h'.ks e he k hk).2 with h1 | h1
   ·exact .inl (Nat.le_trans h.mo.size h1)
   ·exact (hin k h1).2
  ·exact ⟨Nat.lt_of_lt_of_le (h.ks e (List.mem_append_right _ he) k hk).1 h'.mo.size, (h.ks e (List.mem_append_right _ he) k hk).2⟩
 ·have h1 := (h.ks b (List.mem_append_right _ hb) k hkb).1
  rcases (h'.ks a ha k hk).2 with h2 | h2
  ·omega
  ·exact hdis b hb k hkb h2
theorem Hp.all (h : Hp S w0 w (Lc ++ Lr)) (hs : e.Simple) (hQ : ∀ w, (∀ x ∈ Lc, x.Q w) → e.Q w) (hk : ∀ k ∈ e.ks, ∃ x ∈ Lc, k ∈ x.ks) : Hp S w0 w (e :: Lr) where
 mo := h.mo
 ok := fun x hx => by
  rcases List.mem_cons.1 hx with rfl | hx
  ·exact hs _ _ _ (hQ w fun y hy => (h.ok y (List.mem_append_left _ hy)).get)
  ·exact h.ok x (List.mem_append_right _ hx)
 ks := fun x hx k hkx => by
  rcases List.mem_cons.1 hx with rfl | hx
  ·obtain ⟨y, hy, hky⟩ := hk k hkx
   exact h.ks y (List.mem_append_left _ hy) k hky
  ·exact h.ks x (List.mem_append_right _ hx) k hkx
 nd := List.pairwise_cons.2 ⟨fun x hx k hkx hc => by
  obtain ⟨y, hy, hky⟩ := hk k hkx
  exact (List.pairwise_append.1 h.nd).2.2 y hy x hx k hky hc, (List.pairwise_append.1 h.nd).2.1⟩
end
section
variable {P : Program} {t e u T : TypeId} {c g o n m cap j lo hi mx : Nat} {S : List Nat} {w0 w : World} {L : List Et} {kk kk' kk2 : IntKind} {K : Value → World → Prop} {KP : Value → Prop} {wi : Bool} {ty : TypeId} {xs ys vs r : List Value} {v2 : Value}
theorem sl_bx (hb : Blk w g u xs) (hl : n * c ≤ xs.length) (hn : n ≤ cap) : SlC w c (.slice (some ⟨g, 0, none⟩) n cap) n (xs.take (n * c)) := by
 refine ⟨by rw [List.length_take]; omega, .inr ⟨g, 0, cap, rfl, hn, fun i x hx => ?_⟩⟩
 rw [List.getElem?_take] at hx
 split at hx
 ·rw [Nat.zero_add, cell_of_row w g i xs.toArray u (0, 0) hb]
  simpa using hx
 ·cases hx
theorem dscBH [hs : Slt P t e c] (h1 : hi ≤ cap) (h2 : 0 < cap) (hk : KP (.slice (some ⟨g, o, none⟩) hi cap)) : Dv P wi (Instr.sliceAt t (.slice (some ⟨g, o, none⟩) n cap) none (some (.int kk (hi : Int))) none) w KP := by
 have h3 : ¬ (cap = 0) := by omega
 have hr : ∀ w, (Instr.sliceAt t (.slice (some ⟨g, o, none⟩) n cap) none (some (.int kk (hi : Int))) none).run P w = .ok (.slice (some ⟨g, o, none⟩) hi cap) w := fun w => by
  simp [Instr.sliceAt, Instr.slice, Instr.sliceBounds, Instr.sliceBound, run_underlying hs.un, hs.sz, asIntOf, h1, h3, addN]
 cases wi
 ·exact ⟨_, hr w, hk⟩
 ·exact ⟨_, hr, hk⟩
theorem scB3 [hs : Slt P t e c] (h1 : lo ≤ hi) (h2 : hi ≤ mx) (h3 : mx ≤ cap) (hk : ∀ v', K v' w) : Sc P t (.slice (some ⟨g, o, none⟩) n cap) (some (.int kk (lo : Int))) (some (.int kk' (hi : Int))) (some (.int kk2 (mx : Int))) w K := by
 refine V_of (v := .slice (if mx = lo then some ⟨g, o, none⟩ else (some ⟨g, o, none⟩ : Option Addr).map (·.add (lo * c))) (hi - lo) (mx - lo)) ?_ (hk _)
 simp [Instr.sliceAt, Instr.slice, Instr.sliceBounds, Instr.sliceBound, run_underlying hs.un, hs.sz, asIntOf, h1, h2, h3]
theorem scBX [hs : Slt P t e c] (h1 : lo ≤ hi) (h2 : hi ≤ cap) (h3 : lo < cap) (hk : K (.slice (some ⟨g, o + lo * c, none⟩) (hi - lo) (cap - lo)) w) : Sc P t (.slice (some ⟨g, o, none⟩) n cap) (some (.int kk (lo : Int))) (some (.int kk' (hi : Int))) none w K := by
 refine V_of ?_ hk
 have h4 : ¬ (cap = lo) := by omega
 simp [Instr.sliceAt, Instr.slice, Instr.sliceBounds, Instr.sliceBound, run_underlying hs.un, hs.sz, asIntOf, h1, h2, h4, addN]
theorem apBx [hs : Slt P t u c] {zs0 : List Value} [hm : Slm P t u zs0] (hz0 : zs0.length = c) (h : Hp S w0 w L) (i : Nat) (hL : L[i]? = some (bx g u xs)) (hs2 : SlC w c v2 m ys) (hy : ∀ y ∈ ys, y.oneCell' = true) (hroom : n + m ≤ cap) (hfit : (n + m) * c ≤ xs.length)
 (hk : ∀ w1, Hp S w0 w1 (L.set i (bx g u (xs.take (n * c) ++ ys ++ xs.drop ((n + m) * c)))) → K (.slice (some ⟨g, 0, none⟩) (n + m) cap) w1) : Bt P .append #[t, t] T #[.slice (some ⟨g, 0, none⟩) n cap, v2] w K := by
 obtain ⟨ti, z, h1, h2, h3, h4, h5⟩ := hm.inf
 have hsz : ti.size = c := by rw [h4, hz0]
 have hb : Blk w g u xs := h.get hL
 have hl := hs2.1
 rcases hs2.2 with ⟨rfl, rfl⟩ | ⟨b, off, cap2, rfl, hcap, hcells⟩
 ·have e0 : ys = [] := List.eq_nil_of_length_eq_zero (by simpa using hl)
  subst e0
  show V P (Builtin.append_ #[t, t] T #[.slice (some ⟨g, 0, none⟩) n cap, .slice none 0 0]) w K
  refine V_of (v := .slice (some ⟨g, 0, none⟩) (n + 0) cap) (w' := w) ?_ (hk w ?_)
  ·simp [Builtin.append_, run_underlying hs.un, sizeOf, typeInfo, h1, Builtin.lenOf, Builtin.firstCells, storeCells]
   intro hc
   omega
  ·have e1 : xs.take (n * c) ++ [] ++ xs.drop ((n + 0) * c) = xs := by simp
   rw [e1]
   have e2 : L.set i (bx g u xs) = L := by
    obtain ⟨q1, q2⟩ := List.getElem?_eq_some_iff.1 hL
    rw [← q2]; exact List.set_getElem_self q1
   rw [e2]; exact h
 ·have hcells' : ∀ j x, ys[j]? = some x → w.cell? ((⟨b, off, none⟩ : Addr).add j) = some x := fun j x hx => (addN b off j).symm ▸ hcells j x hx
  have hfit2 : n * ti.size + ys.length ≤ xs.toArray.size := by
   rw [hsz, hl, ← Nat.add_mul]; simpa using hfit
  have hr := run_append_room (P := P) w t T u ti hs.un h1 g n cap xs.toArray hb ⟨b, off, none⟩ m cap2 ys (by rw [hsz]; exact hl) hcells' hy hroom hfit2
  rw [hsz] at hr
  show V P (Builtin.append_ #[t, t] T #[.slice (some ⟨g, 0, none⟩) n cap, .slice (some ⟨b, off, none⟩) m cap2]) w K
  have e3 : n * c + ys.length = (n + m) * c := by rw [hl, Nat.add_mul]
  have hm2 : Mo [g] w (w.setRow g (xs.take (n * c) ++ ys ++ xs.drop ((n + m) * c)).toArray) := by
   refine ⟨rfl, rfl, rfl, by simp [World.setRow], fun k hk hs => ?_⟩
   have : k ≠ g := by simpa using hs
   simp [World.setRow, Array.getElem?_modify, this.symm]
  have hb2 : Blk (w.setRow g (xs.take (n * c) ++ ys ++ xs.drop ((n + m) * c)).toArray) g u (xs.take (n * c) ++ ys ++ xs.drop ((n + m) * c)) := by
   unfold Blk
   rw [setRow_heap w g xs.toArray _ u _ hb]
  have hr' := hr
  rw [e3] at hr'
  exact V_of hr' (hk _ (h.up hL hm2 (bx_at hb2) fun k hk => .inl hk))
end
section
variable {P : Program} {t e u T ti : TypeId} {c g o n m cap j lo hi nd cd k : Nat} {S : List Nat} {w0 w : World} {L : List Et} {kk kk' : IntKind} {K : Value → World → Prop} {KP : Value → Prop} {wi : Bool} {ty : TypeId} {xs ys xs' : List Value} {v2 : Value}
theorem dscBL [hs : Slt P t e c] (h1 : lo ≤ n) (h2 : lo < cap) (hk : KP (.slice (some ⟨g, o + lo * c, none⟩) (n - lo) (cap - lo))) : Dv P wi (Instr.sliceAt t (.slice (some ⟨g, o, none⟩) n cap) (some (.int kk (lo : Int))) none none) w KP := by
 have h3 : ¬ (cap = lo) := by omega
 have hr : ∀ w, (Instr.sliceAt t (.slice (some ⟨g, o, none⟩) n cap) (some (.int kk (lo : Int))) none none).run P w = .ok (.slice (some ⟨g, o + lo * c, none⟩) (n - lo) (cap - lo)) w := fun w => by
  simp [Instr.sliceAt, Instr.slice, Instr.sliceBounds, Instr.sliceBound, run_underlying hs.un, hs.sz, asIntOf, h1, h3, addN]
 cases wi
 ·exact ⟨_, hr w, hk⟩
 ·exact ⟨_, hr, hk⟩
theorem capB [hs : Slt P t e c] (hk : K (.int .i64 (cap : Int)) w) : Bt P .cap #[t] T #[.slice (some ⟨g, o, none⟩) n cap] w K := by
 show V P (Builtin.cap_ #[t] T #[.slice (some ⟨g, o, none⟩) n cap]) w K
 refine V_of ?_ hk
 simp [Builtin.cap_, run_underlying hs.un, goInt]
theorem cpX [hs : Slt P t e c] (h : Hp S w0 w L) (i : Nat) (hi : L[i]? = some (bx g ty xs)) (hs2 : SlC w c v2 m ys) (hk2 : Nat.min m nd = k) (hy : ∀ y ∈ ys.take (k * c), y.oneCell' = true) (hfit : o + k * c ≤ xs.length)
 (hk : ∀ w1, Hp S w0 w1 (L.set i (bx g ty (xs.take o ++ ys.take (k * c) ++ xs.drop (o + k * c)))) → K (.int .i64 (k : Int)) w1) : Bt P .copy #[t, t] T #[.slice (some ⟨g, o, none⟩) nd cd, v2] w K := by
 have hb : Blk w g ty xs := h.get hi
 have hl := hs2.1
 have hkm : k ≤ m := by rw [← hk2]; exact Nat.min_le_left _ _
 have hkl : k * c ≤ ys.length := by rw [hl]; exact Nat.mul_le_mul_right _ hkm
 have htl : (ys.take (k * c)).length = k * c := by rw [List.length_take]; omega
 have hf : (Builtin.firstCells c k v2).run P w = .ok (ys.take (k * c)).toArray w := by
  rcases hs2.2 with ⟨rfl, rfl⟩ | ⟨b, off, cap2, rfl, hcap, hcells⟩
  ·have : k = 0 := by omega
   subst this
   rw [run_firstCells_none]; simp
  ·exact run_firstCells_some w c k ⟨b, off, none⟩ m cap2 _ htl fun j v hv => by
    rw [List.getElem?_take] at hv
    split at hv
    ·exact (addN b off j).symm ▸ hcells j v hv
    ·cases hv
 have hlen : ∃ a b, v2 = .slice a m b := by
  rcases hs2.2 with ⟨rfl, rfl⟩ | ⟨b, off, cap2, rfl, hcap, hcells⟩
  ·exact ⟨_, _, rfl⟩
  ·exact ⟨_, _, rfl⟩
 obtain ⟨a2, b2, rfl⟩ := hlen
 have hr := run_storeCells_at P g o ty (ys.take (k * c)) 0 xs.toArray w hb (by rw [htl]; simpa using hfit) hy
 have hrun : ∃ w', (Builtin.copy_ #[t, t] T #[.slice (some ⟨g, o, none⟩) nd cd, .slice a2 m b2]).run P w = .ok (.int .i64 (k : Int)) w' ∧ Mo [g] w w' ∧ Blk w' g ty (xs.take o ++ ys.take (k * c) ++ xs.drop (o + k * c)) := by
  refine ⟨w.setRow g (xs.take o ++ ys.take (k * c) ++ xs.drop (o + (ys.take (k * c)).length)).toArray, ?_, ⟨rfl, rfl, rfl, ?_, fun k hk hs => ?_⟩, ?_⟩
  ·unfold Builtin.copy_
   simp [run_underlying hs.un, Result.andThen, Builtin.lenOf, hs.sz, hk2, hf, hr, goInt]
  ·simp [World.setRow]
  ·have : k ≠ g := by simpa using hs
   simp [World.setRow, Array.getElem?_modify, this.symm]
  ·unfold Blk
   rw [setRow_heap w g xs.toArray _ ty _ hb, htl]
 obtain ⟨w', r1, r2, r3⟩ := hrun
 show V P (Builtin.copy_ #[t, t] T #[.slice (some ⟨g, o, none⟩) nd cd, .slice a2 m b2]) w K
 exact V_of r1 (hk _ (h.up hi r2 (bx_at r3) fun k hk => .inl hk))
theorem apZ [hs : Slt P t u c] {zs0 : List Value} [hm : Slm P t u zs0] (hz0 : zs0.length = c) (hc0 : 0 < c) {tn : TypeId} (htn : P.underlying tn = some (.int .i64)) (h : Hp S w0 w L) (hs2 : SlC w c (.slice (some ⟨g, o, none⟩) n cap) n xs) (hk0 : 0 < k) (hg : cap < n + k) (hn : n + k ≤ 16777216)
 (hk : ∀ g' G rm w1, n + k ≤ G → G ≤ maxLen → (xs ++ rm).length = G * c → Hp S w0 w1 (bx g' u (xs ++ rm) :: L) → K (.slice (some ⟨g', 0, none⟩) (n + k) G) w1) :
 Bt P .append #[t, tn] T #[.slice (some ⟨g, o, none⟩) n cap, .int .i64 (k : Int)] w K := by
 obtain ⟨tinf, z, hi, hz, hzc, hsz, h2⟩ := hm.inf
 have hzs : z.cells.size = c := by rw [hzc]; simpa using hz0
 have hsz1 : tinf.size = c := by rw [hsz, hz0]
 have h63 : n + k ≤ maxLen := by unfold maxLen; omega
 have hby : (n + k) * tinf.bytes ≤ 140737488355328 := by have := Nat.mul_le_mul hn h2; omega
 have hkb : k * tinf.bytes ≤ 281474976710656 := by
  have := Nat.mul_le_mul (show k ≤ n + k by omega) (Nat.le_refl tinf.bytes)
  omega
 have hl := hs2.1
 have hold : (Builtin.firstCells tinf.size n (.slice (some ⟨g, o, none⟩) n cap)).run P w.drew = .ok xs.toArray w.drew := by
  rw [hsz1]
  rcases hs2.2 with ⟨hc, _⟩ | ⟨b, off, cap2, hv, hcap, hcells⟩
  ·cases hc
  ·cases hv
   exact run_firstCells_some w.drew c n ⟨g, o, none⟩ n cap _ hl fun j v hv => (addN g o j).symm ▸ hcells j v hv
 have hr := Lib.run_append_grow_zeros (P := P) w t tn T u tinf z .i64 .i64 hs.un htn hi hz (some ⟨g, o, none⟩) n cap xs hold k hk0 (by omega) hg (by simp only [maxLen] at h63; omega) hkb (growslice_fits (by omega) hby)
 have hge := grownCap_ge w (n + k) cap u
 have hcm := grownCap_le_maxLen w (n + k) cap u h63
 obtain ⟨G, hG⟩ : ∃ G, G = grownCap w (n + k) cap u := ⟨_, rfl⟩
 rw [← hG] at hr hge hcm
 obtain ⟨rm, hrm⟩ : ∃ rm, rm = (Builtin.zeroCells z.cells k).toList ++ (Builtin.zeroCells z.cells (G - (n + k))).toList := ⟨_, rfl⟩
 have earr : (xs.toArray ++ Builtin.zeroCells z.cells k ++ Builtin.zeroCells z.cells (G - (n + k))) = (xs ++ rm).toArray := by
  apply Array.ext'
  rw [hrm]
  simp
 rw [earr] at hr
 show V P (Builtin.append_ #[t, tn] T #[.slice (some ⟨g, o, none⟩) n cap, .int .i64 (k : Int)]) w K
 refine V_of hr (hk _ G rm _ hge hcm ?_ (h.dr.al (xs ++ rm) u))
 have l1 : ∀ q, (Builtin.zeroCells z.cells q).toList.length = q * c := fun q => by rw [Array.length_toList, size_zeroCells, hzs]
 rw [hrm, List.length_append, List.length_append, l1, l1, hl, ← Nat.add_mul, ← Nat.add_mul]
 congr 1
 omega
end
end Go.Eng
