/-
  Contracts of functions of the program, and plain lemmas on numbers and strings. By an AI agent.
-/
import Derived.Test.YthpcmmfijelbaaaGreatDoorQMem
import Derived.Test.YthpcmmfijelbaaaGreatDoorQFnC
import Derived.OpenShut
import Derived.ChangeSame
import Derived.WideShapes
import Derived.Handed
set_option linter.unusedSimpArgs false
set_option linter.unusedVariables false
set_option linter.unusedSectionVars false
namespace Go.Proofs.YthpcmmfijelbaaaGreatDoor
open Go Go.Eng Go.Proofs Go.RowKit Go.ChangeShapes Go.WideShapes
set_option maxRecDepth 100000
section
variable {H : Type} {enc : TypeId × Value → H} {w w' : World} {base : Nat} {sp : Nat → Bool} {held : Bool}
theorem open_R {r : Reach} {b0 : Nat} {v : Value} {d : DataW H} {ps : List MemPlace} (hval : Value.okWide Tryz.prog w r b0 23 v) (hd : DataW.Trod enc Tryz.prog w base sp held 23 v d ps) :
    ∃ s0 s1 : ByteArray, v = .agg #[.string s0, .string s1] ∧ d = .agg [.lit (.string s0.data.toList), .lit (.string s1.data.toList)] ∧ ps = [] ∧ s0.size ≤ maxLen ∧ s1.size ≤ maxLen := by
  obtain ⟨cs, rfl, hc⟩ := okWide_struct Tryz.underlying23 hval
  obtain ⟨fuel, hf⟩ := hd
  have hc2 : Tryz.prog.cellsOf 23 = 2 := by kernel_rfl
  have hc1 : Tryz.prog.cellsOf 9 = 1 := by kernel_rfl
  rw [hc2] at hc
  obtain ⟨a, b, rfl⟩ : ∃ a b, cs = #[a, b] := by
    rcases cs with ⟨l⟩
    match l, hc with
    | [a, b], _ => exact ⟨a, b, rfl⟩
  obtain ⟨y0, y1, n, hx, _, h0, h1⟩ := trod_struct2 Tryz.underlying23 hf
  simp only [Value.cells, hc1] at h0 h1
  obtain ⟨s0, e0, rfl, k0⟩ := DataW.trod_string Tryz.underlying9 h0
  obtain ⟨s1, e1, rfl, k1⟩ := DataW.trod_string Tryz.underlying9 h1
  simp at e0 e1
  subst e0; subst e1
  simp only [Prod.mk.injEq] at hx
  exact ⟨s0, s1, rfl, hx.1, hx.2, k0, k1⟩
theorem shut_R {s0 s1 : ByteArray} (k0 : s0.size ≤ maxLen) (k1 : s1.size ≤ maxLen) : DataW.Trod enc Tryz.prog w base sp held 23 (.agg #[.string s0, .string s1]) (.agg [.lit (.string s0.data.toList), .lit (.string s1.data.toList)]) [] := by
  have hc2 : Tryz.prog.cellsOf 23 = 2 := by kernel_rfl
  have hc1 : Tryz.prog.cellsOf 9 = 1 := by kernel_rfl
  refine ⟨2, trod_struct2_mk (y0 := (_, [])) (y1 := (_, [])) Tryz.underlying23 (by rw [hc2]; rfl) ?_ ?_⟩
  · simp [Value.cells, hc1, DataW.trod, Tryz.underlying9, k0]
  · simp [Value.cells, hc1, DataW.trod, Tryz.underlying9, k1]
theorem okWide_arr {t e : TypeId} {m : Nat} {r : Reach} {b0 : Nat} {v : Value} (ht : Tryz.prog.underlying t = some (.array m e)) (h : Value.okWide Tryz.prog w r b0 t v) : ∃ cs, v = .agg cs ∧ cs.size = Tryz.prog.cellsOf t := by
  simp only [Value.okWide, ht] at h
  obtain ⟨cs, h1, h2, _⟩ := h
  exact ⟨cs, h1, h2⟩
theorem open_I4 {r : Reach} {b0 : Nat} {v : Value} {d : DataW H} {ps : List MemPlace} (hval : Value.okWide Tryz.prog w r b0 24 v) (hd : DataW.Trod enc Tryz.prog w base sp held 24 v d ps) :
    ∃ x0 x1 x2 x3 : Int, v = .agg #[.int .i64 x0, .int .i64 x1, .int .i64 x2, .int .i64 x3] ∧ d = .agg [.lit (.int .i64 x0), .lit (.int .i64 x1), .lit (.int .i64 x2), .lit (.int .i64 x3)] ∧ ps = [] ∧
      (Lit.int .i64 x0).wf = true ∧ (Lit.int .i64 x1).wf = true ∧ (Lit.int .i64 x2).wf = true ∧ (Lit.int .i64 x3).wf = true := by
  obtain ⟨cs, rfl, hc⟩ := okWide_arr Tryz.underlying24 hval
  obtain ⟨fuel, hf⟩ := hd
  have hc2 : Tryz.prog.cellsOf 24 = 4 := by kernel_rfl
  have hc1 : Tryz.prog.cellsOf 3 = 1 := by kernel_rfl
  rw [hc2] at hc
  obtain ⟨a, b, c, e, rfl⟩ : ∃ a b c e, cs = #[a, b, c, e] := by
    rcases cs with ⟨l⟩
    match l, hc with
    | [a, b, c, e], _ => exact ⟨a, b, c, e, rfl⟩
  obtain ⟨xs, m, _, hx, _, hl, hi⟩ := DataW.trod_array Tryz.underlying24 hf
  match xs, hl with
  | [y0, y1, y2, y3], _ =>
    have h0 := hi 0 (by decide)
    have h1 := hi 1 (by decide)
    have h2 := hi 2 (by decide)
    have h3 := hi 3 (by decide)
    simp [Value.cells, hc1] at h0 h1 h2 h3
    obtain ⟨n0, e0, rfl, k0⟩ := DataW.trod_int Tryz.underlying3 h0
    obtain ⟨n1, e1, rfl, k1⟩ := DataW.trod_int Tryz.underlying3 h1
    obtain ⟨n2, e2, rfl, k2⟩ := DataW.trod_int Tryz.underlying3 h2
    obtain ⟨n3, e3, rfl, k3⟩ := DataW.trod_int Tryz.underlying3 h3
    simp at e0 e1 e2 e3
    subst e0; subst e1; subst e2; subst e3
    simp at hx
    exact ⟨n0, n1, n2, n3, rfl, hx.1, hx.2, k0, k1, k2, k3⟩
theorem shut_I4 {x0 x1 x2 x3 : Int} (k0 : (Lit.int .i64 x0).wf = true) (k1 : (Lit.int .i64 x1).wf = true) (k2 : (Lit.int .i64 x2).wf = true) (k3 : (Lit.int .i64 x3).wf = true) :
    DataW.Trod enc Tryz.prog w base sp held 24 (.agg #[.int .i64 x0, .int .i64 x1, .int .i64 x2, .int .i64 x3]) (.agg [.lit (.int .i64 x0), .lit (.int .i64 x1), .lit (.int .i64 x2), .lit (.int .i64 x3)]) [] := by
  have hc2 : Tryz.prog.cellsOf 24 = 4 := by kernel_rfl
  have hc1 : Tryz.prog.cellsOf 3 = 1 := by kernel_rfl
  have r4 : List.range 4 = [0, 1, 2, 3] := rfl
  refine ⟨2, ?_⟩
  simp [DataW.trod, Tryz.underlying24, Tryz.underlying3, Value.cells, hc1, hc2, r4, k0, k1, k2, k3]
theorem open_I2 {r : Reach} {b0 : Nat} {v : Value} {d : DataW H} {ps : List MemPlace} (hval : Value.okWide Tryz.prog w r b0 47 v) (hd : DataW.Trod enc Tryz.prog w base sp held 47 v d ps) :
    ∃ x0 x1 : Int, v = .agg #[.int .i64 x0, .int .i64 x1] ∧ d = .agg [.lit (.int .i64 x0), .lit (.int .i64 x1)] ∧ ps = [] ∧ (Lit.int .i64 x0).wf = true ∧ (Lit.int .i64 x1).wf = true := by
  obtain ⟨cs, rfl, hc⟩ := okWide_arr Tryz.underlying47 hval
  obtain ⟨fuel, hf⟩ := hd
  have hc2 : Tryz.prog.cellsOf 47 = 2 := by kernel_rfl
  have hc1 : Tryz.prog.cellsOf 3 = 1 := by kernel_rfl
  rw [hc2] at hc
  obtain ⟨a, b, rfl⟩ : ∃ a b, cs = #[a, b] := by
    rcases cs with ⟨l⟩
    match l, hc with
    | [a, b], _ => exact ⟨a, b, rfl⟩
  obtain ⟨xs, m, _, hx, _, hl, hi⟩ := DataW.trod_array Tryz.underlying47 hf
  match xs, hl with
  | [y0, y1], _ =>
    have h0 := hi 0 (by decide)
    have h1 := hi 1 (by decide)
    simp [Value.cells, hc1] at h0 h1
    obtain ⟨n0, e0, rfl, k0⟩ := DataW.trod_int Tryz.underlying3 h0
    obtain ⟨n1, e1, rfl, k1⟩ := DataW.trod_int Tryz.underlying3 h1
    simp at e0 e1
    subst e0; subst e1
    simp at hx
    exact ⟨n0, n1, rfl, hx.1, hx.2, k0, k1⟩
theorem shut_I2 {x0 x1 : Int} (k0 : (Lit.int .i64 x0).wf = true) (k1 : (Lit.int .i64 x1).wf = true) :
    DataW.Trod enc Tryz.prog w base sp held 47 (.agg #[.int .i64 x0, .int .i64 x1]) (.agg [.lit (.int .i64 x0), .lit (.int .i64 x1)]) [] := by
  have hc2 : Tryz.prog.cellsOf 47 = 2 := by kernel_rfl
  have hc1 : Tryz.prog.cellsOf 3 = 1 := by kernel_rfl
  have r2 : List.range 2 = [0, 1] := rfl
  refine ⟨2, ?_⟩
  simp [DataW.trod, Tryz.underlying47, Tryz.underlying3, Value.cells, hc1, hc2, r2, k0, k1]
theorem handed_shaped {a : Assume} {C : Checked} {os : Os} {f : FuncId} {fn : Func} {s : ChangeSpec} {conds : List PathCond} {apart fresh handsOn again : Bool} {X : World → Array Value → Prop}
    (hX : ∀ (w w' : World) (args : Array Value), w.heap = w'.heap → X w args → X w' args)
    (own : ownKnob C.prog.godebug = none) (started : os.Started) (noInit : C.prog.inits.idxOf? f = none) (hfn : C.prog.funcs[f]? = some fn)
    (witness : ∃ (w : World) (tape : Tape) (i : Input), w.os = os ∧ (w.forCall tape i).Shaped C.prog ∧ i.vars = [] ∧ Input.okWide C.prog (w.forCall tape i) .any w.heap.size f i ∧
      ((s.pre enc C.prog fn conds apart (w.forCall tape i).memory i.args ∧ X (w.forCall tape i).memory i.args) ∧ sizedMet enc C.prog fn (OpenSpec.ofChange s) apart (w.forCall tape i).memory i.args) ∧ a.holds C.prog (lone (Frame.enter C.prog f i.args .normal) [] (w.forCall tape i)))
    (contract : ∀ (W : World) (base : Nat) (args : Array Value) (ds gs : List (DataW H)) (before : List MemPlace), W.ShapedOpen C.prog →
      (∀ (j : Nat) t v, fn.params[j]? = some t → args[j]? = some v → Value.okWide C.prog W .any base t v) →
      DataW.Whole enc C.prog fn.params.toList s.vars apart W args.toList ds gs before → X W args →
      Calls C.prog f args W fun e W' => ∃ v, e = .returned v ∧ s.post enc C.prog fn apart fresh handsOn again W args v W') :
    ReturnsInHanded a C os f .any (fun w args => (s.pre enc C.prog fn conds apart w args ∧ X w args) ∧ sizedMet enc C.prog fn (OpenSpec.ofChange s) apart w args) (s.post enc C.prog fn apart fresh handsOn again) := by
  refine returnsInHanded_of_calls own started noInit witness ?_
  intro w tape i _ hsh _ hok hpre _
  obtain ⟨_, _, _, fn', hfn', _, _, _, _, hval⟩ := hok
  have e : fn' = fn := Option.some.inj (hfn'.symm.trans hfn)
  subst e
  obtain ⟨⟨⟨ds, gs, before, hw, _⟩, hx⟩, _⟩ := hpre
  have hw' := DataW.Whole.of_heap (w' := w.forCall tape i) (by rfl) hw
  refine (contract (w.forCall tape i) w.heap.size i.args ds gs before hsh hval hw' (hX _ _ _ (by rfl) hx)).mono fun e W' ⟨v, he, hp⟩ => ?_
  subst he
  exact ChangeSpec.post_blind hp
theorem maxV_of_shaped {W : World} (h : W.ShapedOpen Tryz.prog) : MaxV W :=
  Go.Proofs.cell_of_shapedOpen_int (zero := #[.int .i64 0]) (t := 3) h (of_decide_eq_true (by kernel_rfl)) (by kernel_rfl) rfl (by kernel_rfl) (by kernel_rfl) Tryz.underlying3
end
end Go.Proofs.YthpcmmfijelbaaaGreatDoor
