/-
  Contracts and plain lemmas. By an AI agent.
-/
import Derived.Test.YthdhnhghjecfkaaGreatSsJ
import Derived.Test.YthdhnhghjecfkaaGreatRows
import Derived.ProofKit
import Derived.OpenShut
import Derived.LaidMore
import Derived.MakeChecks
import Derived.ChangeSame
import Derived.WideShapes
import Derived.Handed
import Derived.Carry
set_option linter.unusedSimpArgs false
set_option linter.unusedVariables false
set_option linter.unusedSectionVars false
namespace Go.Proofs.YthdhnhghjecfkaaGreat
open Go Go.Eng Go.Proofs Go.RowKit Go.ChangeShapes Go.WideShapes
set_option maxRecDepth 100000
theorem own : ownKnob Tryz.prog.godebug = none := by kernel_rfl
section
variable {H : Type} {enc : TypeId × Value → H} {w : World} {sp : Nat → Bool} {held : Bool}
theorem list_of {α : Type} {P : Nat → α → Prop} : ∀ {n : Nat}, (∀ i, i < n → ∃ x, P i x) → ∃ l : List α, l.length = n ∧ ∀ i x, l[i]? = some x → P i x
 | 0, _ => ⟨[], rfl, fun i x h => by simp at h⟩
 | n + 1, h => by
  obtain ⟨l, h1, h2⟩ := list_of (P := P) (n := n) (fun i hi => h i (by omega))
  obtain ⟨x, hx⟩ := h n (by omega)
  refine ⟨l ++ [x], by simp [h1], fun i y hy => ?_⟩
  by_cases hi : i < l.length
  ·rw [List.getElem?_append_left hi] at hy; exact h2 i y hy
  ·rw [List.getElem?_append_right (by omega)] at hy
   have hi2 : i - l.length = 0 := by
    rcases Nat.eq_zero_or_pos (i - l.length) with h | h
    ·exact h
    ·rw [List.getElem?_eq_none (by simp only [List.length_singleton]; omega)] at hy; cases hy
   rw [hi2] at hy
   simp at hy
   subst hy
   rw [show i = n by omega]; exact hx
theorem flat_get {α : Type} {f : α → List Value} {c : Nat} (hf : ∀ a, (f a).length = c) : ∀ {l : List α} {k : Nat} {u : Value}, (l.flatMap f)[k]? = some u → ∃ i r a, l[i]? = some a ∧ (f a)[r]? = some u ∧ k = i * c + r ∧ r < c
 | [], k, u, h => by simp at h
 | a :: l, k, u, h => by
  rw [List.flatMap_cons] at h
  by_cases hk : k < (f a).length
  ·rw [List.getElem?_append_left hk] at h
   exact ⟨0, k, a, rfl, h, by omega, by rw [← hf a]; exact hk⟩
  ·rw [List.getElem?_append_right (by omega), hf] at h
   obtain ⟨i, r, b, h1, h2, h3, h4⟩ := flat_get hf h
   have := hf a
   exact ⟨i + 1, r, b, by simpa using h1, h2, by rw [Nat.add_mul]; omega, h4⟩
theorem open_sl {α : Type} {t e : TypeId} {c b0 : Nat} {r : Reach} {v : Value} {d : DataW H} {ps : List MemPlace} (f : α → List Value) (φ : α → Prop) (ht : Tryz.prog.underlying t = some (.slice e)) (hc : Tryz.prog.cellsOf e = c) (hf : ∀ a, (f a).length = c)
 (hel : ∀ n cs x, DataW.trod enc Tryz.prog w 0 sp held n e cs = some x → ∃ a, cs = f a ∧ φ a)
 (hval : Value.okWide Tryz.prog w r b0 t v) (hd : DataW.Trod enc Tryz.prog w 0 sp held t v d ps) : ∃ l : List α, SlC w c v l.length (l.flatMap f) ∧ (∀ a ∈ l, φ a) ∧ l.length ≤ maxLen := by
 obtain ⟨a, len, cap, rfl⟩ := okWide_slice ht hval
 obtain ⟨fuel, hd⟩ := hd
 rcases DataW.trod_slice ht hd with ⟨h1, _⟩ | ⟨a', len', cap', elems, rest, n, _, h1, _, hb, hl, hm, hlen, hels, _⟩
 ·simp [Value.cells] at h1
  obtain ⟨rfl, rfl, rfl⟩ := h1
  exact ⟨[], ⟨by simp, .inl ⟨rfl, rfl⟩⟩, by simp, by simp⟩
 ·simp [Value.cells] at h1
  obtain ⟨rfl, rfl, rfl⟩ := h1
  have hs : a'.spot = none := by
   simp only [Value.okWide, ht, Cell.okWide, Cell.ok] at hval
   exact hval.2.2.2.1
  obtain ⟨b, o, s⟩ := a'
  simp only at hs
  subst hs
  have each : ∀ i, i < len → ∃ x : α, φ x ∧ ∀ r u, (f x)[r]? = some u → w.cell? ⟨b, o + i * c + r, none⟩ = some u := by
   intro i hi
   have h2 := hels i hi
   rw [hc, List.getElem?_eq_getElem (by omega)] at h2
   obtain ⟨cs, h3, h4⟩ := Option.bind_eq_some_iff.1 h2
   obtain ⟨x, rfl, hx⟩ := hel _ _ _ h4
   refine ⟨x, hx, fun r u hu => ?_⟩
   obtain ⟨_, h5, h6⟩ := World.cells?_some h3
   have hr : r < c := by rw [← hf x]; exact (List.getElem?_eq_some_iff.1 hu).1
   have h7 := h6 r hr
   rw [hu, addN, addN] at h7
   exact h7
  obtain ⟨l, h2, h3⟩ := list_of (P := fun i x => φ x ∧ ∀ r u, (f x)[r]? = some u → w.cell? ⟨b, o + i * c + r, none⟩ = some u) each
  refine ⟨l, ⟨flat_len hf l, .inr ⟨b, o, cap, by rw [h2], by omega, fun k u hk => ?_⟩⟩, fun x hx => ?_, by omega⟩
  ·obtain ⟨i, r, x, h4, h5, rfl, _⟩ := flat_get hf hk
   have := (h3 i x h4).2 r u h5
   rw [← Nat.add_assoc]; exact this
  ·obtain ⟨i, hi⟩ := List.getElem?_of_mem hx
   exact (h3 i x hi).1
end
section
variable {H : Type} {enc : TypeId × Value → H} {w w' : World} {base : Nat} {sp : Nat → Bool} {held : Bool}
theorem handed_plain {a : Assume} {C : Checked} {os : Os} {f : FuncId} {fn : Func} {s : ChangeSpec} {conds : List PathCond} {apart fresh handsOn again : Bool}
 (own : ownKnob C.prog.godebug = none) (started : os.Started) (noInit : C.prog.inits.idxOf? f = none) (hfn : C.prog.funcs[f]? = some fn)
 (witness : ∃ (w : World) (tape : Tape) (i : Input), w.os = os ∧ (w.forCall tape i).Shaped C.prog ∧ i.vars = [] ∧ Input.okWide C.prog (w.forCall tape i) .any w.heap.size f i ∧
  ((s.pre enc C.prog fn conds apart (w.forCall tape i).memory i.args ∧ True) ∧ sizedMet enc C.prog fn (OpenSpec.ofChange s) apart (w.forCall tape i).memory i.args) ∧ a.holds C.prog (lone (Frame.enter C.prog f i.args .normal) [] (w.forCall tape i)))
 (contract : ∀ (W : World) (base : Nat) (args : Array Value) (ds gs : List (DataW H)) (before : List MemPlace), W.ShapedOpen C.prog →
  (∀ (j : Nat) t v, fn.params[j]? = some t → args[j]? = some v → Value.okWide C.prog W .any base t v) →
  DataW.Whole enc C.prog fn.params.toList s.vars apart W args.toList ds gs before →
  Calls C.prog f args W fun e W' => ∃ v, e = .returned v ∧ s.post enc C.prog fn apart fresh handsOn again W args v W') :
 ReturnsInHanded a C os f .any (fun w args => s.pre enc C.prog fn conds apart w args ∧ sizedMet enc C.prog fn (OpenSpec.ofChange s) apart w args) (s.post enc C.prog fn apart fresh handsOn again) := by
 have witness' : ∃ (w : World) (tape : Tape) (i : Input), w.os = os ∧ (w.forCall tape i).Shaped C.prog ∧ i.vars = [] ∧ Input.okWide C.prog (w.forCall tape i) .any w.heap.size f i ∧
  (s.pre enc C.prog fn conds apart (w.forCall tape i).memory i.args ∧ sizedMet enc C.prog fn (OpenSpec.ofChange s) apart (w.forCall tape i).memory i.args) ∧ a.holds C.prog (lone (Frame.enter C.prog f i.args .normal) [] (w.forCall tape i)) := by
  obtain ⟨w, tape, i, h1, h2, h3, h4, ⟨⟨h5, _⟩, h6⟩, h7⟩ := witness
  exact ⟨w, tape, i, h1, h2, h3, h4, ⟨h5, h6⟩, h7⟩
 refine returnsInHanded_of_calls own started noInit witness' ?_
 intro w tape i _ hsh _ hok hpre _
 obtain ⟨_, _, _, fn', hfn', _, _, _, _, hval⟩ := hok
 have e : fn' = fn := Option.some.inj (hfn'.symm.trans hfn)
 subst e
 obtain ⟨⟨ds, gs, before, hw, _⟩, _⟩ := hpre
 have hw' := DataW.Whole.of_heap (w' := w.forCall tape i) (by rfl) hw
 refine (contract (w.forCall tape i) w.heap.size i.args ds gs before hsh hval hw').mono fun e W' ⟨v, he, hp⟩ => ?_
 subst he
 exact ChangeSpec.post_blind hp
end
section
variable {H : Type} {enc : TypeId × Value → H} {w : World} {sp : Nat → Bool} {held : Bool}
theorem laidOutT : laidOutB Tryz.prog = true := by kernel_rfl
theorem i64_wf {z : Int} (h : (Lit.int .i64 z).wf = true) : I64 z := by
 simp only [Lit.wf, Bool.and_eq_true, decide_eq_true_eq] at h
 have h1 : IntKind.i64.min = -9223372036854775808 := by decide
 have h2 : IntKind.i64.max = 9223372036854775807 := by decide
 rw [h1, h2] at h
 exact h
theorem okWide_arr {t e : TypeId} {m : Nat} {r : Reach} {b0 : Nat} {v : Value} (ht : Tryz.prog.underlying t = some (.array m e)) (h : Value.okWide Tryz.prog w r b0 t v) : ∃ cs, v = .agg cs ∧ cs.size = Tryz.prog.cellsOf t := by
 simp only [Value.okWide, ht] at h
 obtain ⟨cs, h1, h2, _⟩ := h
 exact ⟨cs, h1, h2⟩
theorem arr_list {n : Nat} {cs : Array Value} (h : cs.size = n) : ∃ l : List Value, cs = l.toArray ∧ l.length = n := ⟨cs.toList, by simp, by simpa using h⟩
theorem el_I (n : Nat) (cs : List Value) (x : DataW H × List MemPlace) (h : DataW.trod enc Tryz.prog w 0 sp held n 3 cs = some x) : ∃ a : Int, cs = fI a ∧ I64 a := by
 obtain ⟨n0, e0, _, k0⟩ := DataW.trod_int Tryz.underlying3 h
 exact ⟨n0, e0, i64_wf k0⟩
theorem el_I4 (n : Nat) (cs : List Value) (x : DataW H × List MemPlace) (h : DataW.trod enc Tryz.prog w 0 sp held n 46 cs = some x) : ∃ a : I4, cs = fQ a ∧ I64 a.1 ∧ I64 a.2.1 ∧ I64 a.2.2.1 ∧ I64 a.2.2.2 := by
 have hc2 : Tryz.prog.cellsOf 46 = 4 := by kernel_rfl
 have hc1 : Tryz.prog.cellsOf 3 = 1 := by kernel_rfl
 obtain ⟨xs, m, _, _, hcl, hl, hi⟩ := DataW.trod_array Tryz.underlying46 h
 rw [hc2] at hcl
 match cs, hcl with
 | [c0, c1, c2, c3], _ =>
  match xs, hl with
  | [y0, y1, y2, y3], _ =>
   have h0 := hi 0 (by decide)
   have h1 := hi 1 (by decide)
   have h2 := hi 2 (by decide)
   have h3 := hi 3 (by decide)
   simp [hc1] at h0 h1 h2 h3
   obtain ⟨n0, e0, _, k0⟩ := DataW.trod_int Tryz.underlying3 h0
   obtain ⟨n1, e1, _, k1⟩ := DataW.trod_int Tryz.underlying3 h1
   obtain ⟨n2, e2, _, k2⟩ := DataW.trod_int Tryz.underlying3 h2
   obtain ⟨n3, e3, _, k3⟩ := DataW.trod_int Tryz.underlying3 h3
   simp at e0 e1 e2 e3
   subst e0; subst e1; subst e2; subst e3
   exact ⟨(n0, n1, n2, n3), rfl, i64_wf k0, i64_wf k1, i64_wf k2, i64_wf k3⟩
theorem open_Is {b0 : Nat} {r : Reach} {v : Value} {d : DataW H} {ps : List MemPlace} (hval : Value.okWide Tryz.prog w r b0 25 v) (hd : DataW.Trod enc Tryz.prog w 0 sp held 25 v d ps) : ∃ l : List Int, SlC w 1 v l.length (l.flatMap fI) ∧ (∀ a ∈ l, I64 a) ∧ l.length ≤ maxLen :=
 open_sl fI (fun a : Int => I64 a) Tryz.underlying25 (by kernel_rfl) (fun _ => rfl) el_I hval hd
theorem open_I4s {b0 : Nat} {r : Reach} {v : Value} {d : DataW H} {ps : List MemPlace} (hval : Value.okWide Tryz.prog w r b0 22 v) (hd : DataW.Trod enc Tryz.prog w 0 sp held 22 v d ps) : ∃ l : List I4, SlC w 4 v l.length (l.flatMap fQ) ∧ (∀ a ∈ l, I64 a.1 ∧ I64 a.2.1 ∧ I64 a.2.2.1 ∧ I64 a.2.2.2) ∧ l.length ≤ maxLen :=
 open_sl fQ (fun a : I4 => I64 a.1 ∧ I64 a.2.1 ∧ I64 a.2.2.1 ∧ I64 a.2.2.2) Tryz.underlying22 (by kernel_rfl) (fun _ => rfl) el_I4 hval hd
theorem open_I4 {b0 : Nat} {r : Reach} {v : Value} {d : DataW H} {ps : List MemPlace} (hval : Value.okWide Tryz.prog w r b0 46 v) (hd : DataW.Trod enc Tryz.prog w 0 sp held 46 v d ps) : ∃ a : I4, v = .agg #[.int .i64 a.1, .int .i64 a.2.1, .int .i64 a.2.2.1, .int .i64 a.2.2.2] ∧ (I64 a.1 ∧ I64 a.2.1 ∧ I64 a.2.2.1 ∧ I64 a.2.2.2) := by
 obtain ⟨cs, rfl, _⟩ := okWide_arr Tryz.underlying46 hval
 obtain ⟨fuel, hd⟩ := hd
 obtain ⟨a, ha, hi⟩ := el_I4 fuel _ _ hd
 refine ⟨a, ?_, hi⟩
 have : cs.toList = fQ a := by simpa [Value.cells] using ha
 rw [show cs = (fQ a).toArray from Array.toList_inj.1 this]
end
end Go.Proofs.YthdhnhghjecfkaaGreat
