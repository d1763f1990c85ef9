/-
  Contracts and plain lemmas. By an AI agent.
-/
import Derived.Test.YtnocjgmmglmfiaaGreatDoorCardP
set_option linter.unusedSimpArgs false
set_option linter.unusedVariables false
set_option linter.unusedSectionVars false
namespace Go.Proofs.YtnocjgmmglmfiaaGreatDoor
open Go Go.Eng Go.Proofs Go.Num Go.RowKit Go.ChangeShapes Go.WideShapes
set_option maxRecDepth 100000
set_option linter.unusedVariables false
set_option linter.unusedSectionVars false
section
variable {H : Type} {enc : TypeId × Value → H} {w w' : World} {base : Nat} {sp : Nat → Bool} {held : Bool}
theorem handed_shaped {a : Assume} {C : Checked} {os : Os} {f : FuncId} {fn : Func} {s : ChangeSpec} {conds : List PathCond} {apart fresh handsOn again : Bool} {X : World → Array Value → Prop}
    (hX : ∀ (w w' : World) (args : Array Value), w.heap = w'.heap → X w args → X w' args)
    (own : ownKnob C.prog.godebug = none) (started : os.Started) (noInit : C.prog.inits.idxOf? f = none) (hfn : C.prog.funcs[f]? = some fn)
    (witness : ∃ (w : World) (tape : Tape) (i : Input), w.os = os ∧ (w.forCall tape i).Shaped C.prog ∧ i.vars = [] ∧ Input.okWide C.prog (w.forCall tape i) .any w.heap.size f i ∧
      ((s.pre enc C.prog fn conds apart (w.forCall tape i).memory i.args ∧ X (w.forCall tape i).memory i.args) ∧ sizedMet enc C.prog fn (OpenSpec.ofChange s) apart (w.forCall tape i).memory i.args) ∧ a.holds C.prog (lone (Frame.enter C.prog f i.args .normal) [] (w.forCall tape i)))
    (contract : ∀ (W : World) (base : Nat) (args : Array Value) (ds gs : List (DataW H)) (before : List MemPlace), W.ShapedOpen C.prog →
      (∀ (j : Nat) t v, fn.params[j]? = some t → args[j]? = some v → Value.okWide C.prog W .any base t v) →
      DataW.Whole enc C.prog fn.params.toList s.vars apart W args.toList ds gs before → X W args →
      Calls C.prog f args W fun e W' => ∃ v, e = .returned v ∧ s.post enc C.prog fn apart fresh handsOn again W args v W') :
    ReturnsInHanded a C os f .any (fun w args => (s.pre enc C.prog fn conds apart w args ∧ X w args) ∧ sizedMet enc C.prog fn (OpenSpec.ofChange s) apart w args) (s.post enc C.prog fn apart fresh handsOn again) := by
  refine returnsInHanded_of_calls own started noInit witness ?_
  intro w tape i _ hsh _ hok hpre _
  obtain ⟨_, _, _, fn', hfn', _, _, _, _, hval⟩ := hok
  have e : fn' = fn := Option.some.inj (hfn'.symm.trans hfn)
  subst e
  obtain ⟨⟨⟨ds, gs, before, hw, _⟩, hx⟩, _⟩ := hpre
  have hw' := DataW.Whole.of_heap (w' := w.forCall tape i) (by rfl) hw
  refine (contract (w.forCall tape i) w.heap.size i.args ds gs before hsh hval hw' (hX _ _ _ (by rfl) hx)).mono fun e W' ⟨v, he, hp⟩ => ?_
  subst he
  exact ChangeSpec.post_blind hp
end
theorem laid_at {P : Program} {w : World} {n : String} {d : DataW Unit} : ∀ {l : List (String × DataW Unit)} {ps : List MemPlace}, DataW.LaidVars P w l ps → (n, d) ∈ l →
    ∃ g t cs fuel p, P.globalNamed n = some g ∧ (P.globals[g]?).map (·.type) = some t ∧ w.var? P n = some cs ∧ DataW.trod (fun _ => ()) P w 0 (fun _ => true) false fuel t cs.toList = some (d, p)
  | [], _, _, h => by cases h
  | (m, e) :: r, ps, h, hm => by
    obtain ⟨g, t, cs, fuel, p, q, h1, h2, h3, h4, h5, _⟩ := h
    rcases List.mem_cons.1 hm with he | hm
    · cases he
      exact ⟨g, t, cs, fuel, p, h1, h2, h3, h4⟩
    · exact laid_at h5 hm
abbrev theLaid : List (String × DataW Unit) := Rows.estimateUnbiasedRow.laid
theorem tab_of_laid {w : World} (h : laidMetH Tryz.prog theLaid w) : Tab w := by
  rw [MakeChecks.laidMetH_plain _ _ _ (by kernel_rfl)] at h
  obtain ⟨ps, hl, _⟩ := h
  obtain ⟨g, t, cs, fuel, p, h1, h2, h3, h4⟩ := laid_at (n := "internal/strconv.uint64pow10") (d := Rows.laid_internal_strconv_uint64pow10) hl (List.mem_cons_of_mem _ (List.mem_cons_of_mem _ (List.mem_cons_self ..)))
  obtain rfl := Option.some.inj ((show Tryz.prog.globalNamed "internal/strconv.uint64pow10" = some 4 by kernel_rfl).symm.trans h1)
  obtain rfl := Option.some.inj ((show (Tryz.prog.globals[4]?).map (·.type) = some 189 by kernel_rfl).symm.trans h2)
  have h5 := Lib.cells_of_tab (k := .u64) (zs := Lib.pow10Tab) Tryz.underlying189 Tryz.underlying161 (by kernel_rfl) (by kernel_rfl) h4
  show w.var? _ _ = _
  rw [h3]
  exact congrArg some (Array.toList_inj.1 h5)
theorem blk_R {w : World} {n : String} {g : Nat} {zero : Array Value} {a b : List UInt8} {d : DataW Unit} (hs : w.ShapedOpen Tryz.prog) (h : laidMetH Tryz.prog theLaid w) (hm : (n, d) ∈ theLaid) (hd : d = .agg [.lit (.string a), .lit (.string b)])
    (hg : Tryz.prog.globalNamed n = some g) (hlt : g < Tryz.prog.globals.size) (ht : (Tryz.prog.globals[g]?).map (·.type) = some tR) (h0 : ((begin Tryz.prog (fun _ _ => 0) default).world.heap[g]?).bind Obj.row? = some (zero, tR)) : Blk w g tR [str a, str b] := by
  rw [MakeChecks.laidMetH_plain _ _ _ (by kernel_rfl)] at h
  obtain ⟨ps, hl, _⟩ := h
  obtain ⟨g', t, cs, fuel, p, h1, h2, h3, h4⟩ := laid_at hl hm
  obtain rfl := Option.some.inj (hg.symm.trans h1)
  obtain rfl := Option.some.inj (ht.symm.trans h2)
  obtain ⟨cs', h5, _, _⟩ := hs.1 g zero tR hlt h0
  unfold World.var? at h3
  rw [hg] at h3
  simp only [Option.bind_some, h5, Option.some.injEq] at h3
  subst h3
  subst hd
  obtain ⟨y0, y1, n', hx, hlen, k0, k1⟩ := trod_struct2 Tryz.underlying30 h4
  have hc2 : Tryz.prog.cellsOf 30 = 2 := by kernel_rfl
  have hc1 : Tryz.prog.cellsOf 9 = 1 := by kernel_rfl
  rw [hc2] at hlen
  obtain ⟨u, v, hcs⟩ : ∃ u v, cs'.toList = [u, v] := by
    match hq : cs'.toList, hlen with
    | [u, v], _ => exact ⟨u, v, rfl⟩
  rw [hcs] at k0 k1
  simp only [hc1] at k0 k1
  obtain ⟨s0, e0, rfl, _⟩ := DataW.trod_string Tryz.underlying9 k0
  obtain ⟨s1, e1, rfl, _⟩ := DataW.trod_string Tryz.underlying9 k1
  simp at e0 e1
  subst e0; subst e1
  simp at hx
  obtain ⟨⟨hx0, hx1⟩, _⟩ := hx
  unfold Blk
  rw [h5]
  have : cs' = [str a, str b].toArray := by
    apply Array.toList_inj.1
    rw [hcs, hx0, hx1]
  rw [this]
theorem en_of {w : World} (hs : w.ShapedOpen Tryz.prog) (h : laidMetH Tryz.prog theLaid w) : En w :=
  ⟨⟨blk_R hs h (n := "latecomer/estimate.zero") (d := Rows.laid_latecomer_estimate_zero) (zero := #[str [], str []]) (by simp [theLaid, Rows.estimateUnbiasedRow]) rfl (by kernel_rfl) (of_decide_eq_true (by kernel_rfl)) (by kernel_rfl) (by kernel_rfl),
    blk_R hs h (n := "latecomer/estimate.one") (d := Rows.laid_latecomer_estimate_one) (zero := #[str [], str []]) (by simp [theLaid, Rows.estimateUnbiasedRow]) rfl (by kernel_rfl) (of_decide_eq_true (by kernel_rfl)) (by kernel_rfl) (by kernel_rfl)⟩, tab_of_laid h⟩
section
variable {H : Type} {enc : TypeId × Value → H} {w : World} {sp : Nat → Bool} {held : Bool}
theorem laidOutT : laidOutB Tryz.prog = true := by kernel_rfl
theorem i64_wf {z : Int} (h : (Lit.int .i64 z).wf = true) : I64 z := by
  simp only [Lit.wf, Bool.and_eq_true, decide_eq_true_eq] at h
  have h1 : IntKind.i64.min = -9223372036854775808 := by decide
  have h2 : IntKind.i64.max = 9223372036854775807 := by decide
  rw [h1, h2] at h
  exact h
theorem el_I3 (n : Nat) (cs : List Value) (x : DataW H × List MemPlace) (h : DataW.trod enc Tryz.prog w 0 sp held n 53 cs = some x) : ∃ a : I3, cs = fT a ∧ (I64 a.1 ∧ I64 a.2.1 ∧ I64 a.2.2) := by
  have hc2 : Tryz.prog.cellsOf 53 = 3 := by kernel_rfl
  have hc1 : Tryz.prog.cellsOf 3 = 1 := by kernel_rfl
  obtain ⟨xs, m, _, _, hcl, hl, hi⟩ := DataW.trod_array Tryz.underlying53 h
  rw [hc2] at hcl
  match cs, hcl with
  | [a, b, c], _ =>
    match xs, hl with
    | [y0, y1, y2], _ =>
      have h0 := hi 0 (by decide)
      have h1 := hi 1 (by decide)
      have h2 := hi 2 (by decide)
      simp [hc1] at h0 h1 h2
      obtain ⟨n0, e0, _, k0⟩ := DataW.trod_int Tryz.underlying3 h0
      obtain ⟨n1, e1, _, k1⟩ := DataW.trod_int Tryz.underlying3 h1
      obtain ⟨n2, e2, _, k2⟩ := DataW.trod_int Tryz.underlying3 h2
      simp at e0 e1 e2
      subst e0; subst e1; subst e2
      exact ⟨(n0, n1, n2), rfl, i64_wf k0, i64_wf k1, i64_wf k2⟩
abbrev fD (a : Int × Int) : List Value := [.int .i64 a.1, .int .i64 a.2]
theorem el_I2 (n : Nat) (cs : List Value) (x : DataW H × List MemPlace) (h : DataW.trod enc Tryz.prog w 0 sp held n 46 cs = some x) : ∃ a : Int × Int, cs = fD a ∧ (I64 a.1 ∧ I64 a.2) := by
  have hc2 : Tryz.prog.cellsOf 46 = 2 := by kernel_rfl
  have hc1 : Tryz.prog.cellsOf 3 = 1 := by kernel_rfl
  obtain ⟨xs, m, _, _, hcl, hl, hi⟩ := DataW.trod_array Tryz.underlying46 h
  rw [hc2] at hcl
  match cs, hcl with
  | [a, b], _ =>
    match xs, hl with
    | [y0, y1], _ =>
      have h0 := hi 0 (by decide)
      have h1 := hi 1 (by decide)
      simp [hc1] at h0 h1
      obtain ⟨n0, e0, _, k0⟩ := DataW.trod_int Tryz.underlying3 h0
      obtain ⟨n1, e1, _, k1⟩ := DataW.trod_int Tryz.underlying3 h1
      simp at e0 e1
      subst e0; subst e1
      exact ⟨(n0, n1), rfl, i64_wf k0, i64_wf k1⟩
theorem el_R (n : Nat) (cs : List Value) (x : DataW H × List MemPlace) (h : DataW.trod enc Tryz.prog w 0 sp held n 30 cs = some x) : ∃ a : RS, cs = fR a ∧ (a.1.length ≤ maxLen ∧ a.2.length ≤ maxLen) := by
  have hc2 : Tryz.prog.cellsOf 30 = 2 := by kernel_rfl
  have hc1 : Tryz.prog.cellsOf 9 = 1 := by kernel_rfl
  obtain ⟨y0, y1, m, _, hcl, h0, h1⟩ := trod_struct2 Tryz.underlying30 h
  rw [hc2] at hcl
  match cs, hcl with
  | [a, b], _ =>
    simp only [hc1] at h0 h1
    obtain ⟨s0, e0, _, k0⟩ := DataW.trod_string Tryz.underlying9 h0
    obtain ⟨s1, e1, _, k1⟩ := DataW.trod_string Tryz.underlying9 h1
    simp at e0 e1
    subst e0; subst e1
    exact ⟨(s0.data.toList, s1.data.toList), rfl, by simpa using k0, by simpa using k1⟩
theorem open_I3s {b0 : Nat} {r : Reach} {v : Value} {d : DataW H} {ps : List MemPlace} (hval : Value.okWide Tryz.prog w r b0 22 v) (hd : DataW.Trod enc Tryz.prog w 0 sp held 22 v d ps) : ∃ l : List I3, SlC w 3 v l.length (l.flatMap fT) ∧ I3ok l ∧ l.length ≤ maxLen :=
  open_sl fT (fun a => I64 a.1 ∧ I64 a.2.1 ∧ I64 a.2.2) Tryz.underlying22 (by kernel_rfl) (fun _ => rfl) el_I3 hval hd
theorem open_I2s {b0 : Nat} {r : Reach} {v : Value} {d : DataW H} {ps : List MemPlace} (hval : Value.okWide Tryz.prog w r b0 43 v) (hd : DataW.Trod enc Tryz.prog w 0 sp held 43 v d ps) : ∃ l : List (Int × Int), SlC w 2 v l.length (l.flatMap fD) ∧ (∀ a ∈ l, I64 a.1 ∧ I64 a.2) ∧ l.length ≤ maxLen :=
  open_sl fD (fun a => I64 a.1 ∧ I64 a.2) Tryz.underlying43 (by kernel_rfl) (fun _ => rfl) el_I2 hval hd
theorem open_Rs {b0 : Nat} {r : Reach} {v : Value} {d : DataW H} {ps : List MemPlace} (hval : Value.okWide Tryz.prog w r b0 23 v) (hd : DataW.Trod enc Tryz.prog w 0 sp held 23 v d ps) : ∃ l : List RS, SlR w v l ∧ (∀ a ∈ l, a.1.length ≤ maxLen ∧ a.2.length ≤ maxLen) ∧ l.length ≤ maxLen :=
  open_sl fR (fun a => a.1.length ≤ maxLen ∧ a.2.length ≤ maxLen) Tryz.underlying23 (by kernel_rfl) (fun _ => rfl) el_R hval hd
end
end Go.Proofs.YtnocjgmmglmfiaaGreatDoor
