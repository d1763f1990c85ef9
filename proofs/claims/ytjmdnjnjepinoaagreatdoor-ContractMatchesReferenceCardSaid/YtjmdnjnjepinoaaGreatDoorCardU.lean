/-
  Contracts and plain lemmas. By an AI agent.
-/
import Derived.Test.YtjmdnjnjepinoaaGreatDoorCardQ
set_option linter.unusedSimpArgs false
set_option linter.unusedVariables false
set_option linter.unusedSectionVars false
namespace Go.Proofs.YtjmdnjnjepinoaaGreatDoor
open Go Go.Eng Go.Proofs Go.Num Go.RowKit Go.ChangeShapes Go.WideShapes
set_option maxRecDepth 100000
section
variable {H : Type} {enc : TypeId × Value → H} {w w' : World} {base : Nat} {sp : Nat → Bool} {held : Bool}
theorem handed_shaped {a : Assume} {C : Checked} {os : Os} {f : FuncId} {fn : Func} {s : ChangeSpec} {conds : List PathCond} {apart fresh handsOn again : Bool} {X : World → Array Value → Prop}
 (hX : ∀ (w w' : World) (args : Array Value), w.heap = w'.heap → X w args → X w' args)
 (own : ownKnob C.prog.godebug = none) (started : os.Started) (noInit : C.prog.inits.idxOf? f = none) (hfn : C.prog.funcs[f]? = some fn)
 (witness : ∃ (w : World) (tape : Tape) (i : Input), w.os = os ∧ (w.forCall tape i).Shaped C.prog ∧ i.vars = [] ∧ Input.okWide C.prog (w.forCall tape i) .any w.heap.size f i ∧
  ((s.pre enc C.prog fn conds apart (w.forCall tape i).memory i.args ∧ X (w.forCall tape i).memory i.args) ∧ sizedMet enc C.prog fn (OpenSpec.ofChange s) apart (w.forCall tape i).memory i.args) ∧ a.holds C.prog (lone (Frame.enter C.prog f i.args .normal) [] (w.forCall tape i)))
 (contract : ∀ (W : World) (base : Nat) (args : Array Value) (ds gs : List (DataW H)) (before : List MemPlace), W.ShapedOpen C.prog →
  (∀ (j : Nat) t v, fn.params[j]? = some t → args[j]? = some v → Value.okWide C.prog W .any base t v) →
  DataW.Whole enc C.prog fn.params.toList s.vars apart W args.toList ds gs before → X W args →
  Calls C.prog f args W fun e W' => ∃ v, e = .returned v ∧ s.post enc C.prog fn apart fresh handsOn again W args v W') :
 ReturnsInHanded a C os f .any (fun w args => (s.pre enc C.prog fn conds apart w args ∧ X w args) ∧ sizedMet enc C.prog fn (OpenSpec.ofChange s) apart w args) (s.post enc C.prog fn apart fresh handsOn again) := by
 refine returnsInHanded_of_calls own started noInit witness ?_
 intro w tape i _ hsh _ hok hpre _
 obtain ⟨_, _, _, fn', hfn', _, _, _, _, hval⟩ := hok
 have e : fn' = fn := Option.some.inj (hfn'.symm.trans hfn)
 subst e
 obtain ⟨⟨⟨ds, gs, before, hw, _⟩, hx⟩, _⟩ := hpre
 have hw' := DataW.Whole.of_heap (w' := w.forCall tape i) (by rfl) hw
 refine (contract (w.forCall tape i) w.heap.size i.args ds gs before hsh hval hw' (hX _ _ _ (by rfl) hx)).mono fun e W' ⟨v, he, hp⟩ => ?_
 subst he
 exact ChangeSpec.post_blind hp
end
theorem laid_at {P : Program} {w : World} {n : String} {d : DataW Unit} : ∀ {l : List (String × DataW Unit)} {ps : List MemPlace}, DataW.LaidVars P w l ps → (n, d) ∈ l →
 ∃ g t cs fuel p, P.globalNamed n = some g ∧ (P.globals[g]?).map (·.type) = some t ∧ w.var? P n = some cs ∧ DataW.trod (fun _ => ()) P w 0 (fun _ => true) false fuel t cs.toList = some (d, p)
 | [], _, _, h => by cases h
 | (m, e) :: r, ps, h, hm => by
  obtain ⟨g, t, cs, fuel, p, q, h1, h2, h3, h4, h5, _⟩ := h
  rcases List.mem_cons.1 hm with he | hm
  ·cases he
   exact ⟨g, t, cs, fuel, p, h1, h2, h3, h4⟩
  ·exact laid_at h5 hm
abbrev theLaid : List (String × DataW Unit) := Rows.contractExactRow.laid
theorem tab_of_laid {w : World} (h : laidMetH Tryz.prog theLaid w) : Tab w := by
 rw [MakeChecks.laidMetH_plain _ _ _ (by kernel_rfl)] at h
 obtain ⟨ps, hl, _⟩ := h
 obtain ⟨g, t, cs, fuel, p, h1, h2, h3, h4⟩ := laid_at (n := "internal/strconv.uint64pow10") (d := Rows.laid_internal_strconv_uint64pow10) hl (List.mem_cons_of_mem _ (List.mem_cons_of_mem _ (List.mem_cons_self ..)))
 obtain rfl := Option.some.inj ((show Tryz.prog.globalNamed "internal/strconv.uint64pow10" = some 1 by kernel_rfl).symm.trans h1)
 obtain rfl := Option.some.inj ((show (Tryz.prog.globals[1]?).map (·.type) = some 194 by kernel_rfl).symm.trans h2)
 have h5 := Lib.cells_of_tab (k := .u64) (zs := Lib.pow10Tab) Tryz.underlying194 Tryz.underlying172 (by kernel_rfl) (by kernel_rfl) h4
 show w.var? _ _ = _
 rw [h3]
 exact congrArg some (Array.toList_inj.1 h5)
theorem blk_R {w : World} {n : String} {g : Nat} {zero : Array Value} {a b : List UInt8} {d : DataW Unit} (hs : w.ShapedOpen Tryz.prog) (h : laidMetH Tryz.prog theLaid w) (hm : (n, d) ∈ theLaid) (hd : d = .agg [.lit (.string a), .lit (.string b)])
 (hg : Tryz.prog.globalNamed n = some g) (hlt : g < Tryz.prog.globals.size) (ht : (Tryz.prog.globals[g]?).map (·.type) = some tR) (h0 : ((begin Tryz.prog (fun _ _ => 0) default).world.heap[g]?).bind Obj.row? = some (zero, tR)) : Blk w g tR [str a, str b] := by
 rw [MakeChecks.laidMetH_plain _ _ _ (by kernel_rfl)] at h
 obtain ⟨ps, hl, _⟩ := h
 obtain ⟨g', t, cs, fuel, p, h1, h2, h3, h4⟩ := laid_at hl hm
 obtain rfl := Option.some.inj (hg.symm.trans h1)
 obtain rfl := Option.some.inj (ht.symm.trans h2)
 obtain ⟨cs', h5, _, _⟩ := hs.1 g zero tR hlt h0
 unfold World.var? at h3
 rw [hg] at h3
 simp only [Option.bind_some, h5, Option.some.injEq] at h3
 subst h3
 subst hd
 obtain ⟨y0, y1, n', hx, hlen, k0, k1⟩ := trod_struct2 Tryz.underlying23 h4
 have hc2 : Tryz.prog.cellsOf 23 = 2 := by kernel_rfl
 have hc1 : Tryz.prog.cellsOf 9 = 1 := by kernel_rfl
 rw [hc2] at hlen
 obtain ⟨u, v, hcs⟩ : ∃ u v, cs'.toList = [u, v] := by
  match hq : cs'.toList, hlen with
  | [u, v], _ => exact ⟨u, v, rfl⟩
 rw [hcs] at k0 k1
 simp only [hc1] at k0 k1
 obtain ⟨s0, e0, rfl, _⟩ := DataW.trod_string Tryz.underlying9 k0
 obtain ⟨s1, e1, rfl, _⟩ := DataW.trod_string Tryz.underlying9 k1
 simp at e0 e1
 subst e0; subst e1
 simp at hx
 obtain ⟨⟨hx0, hx1⟩, _⟩ := hx
 unfold Blk
 rw [h5]
 have : cs' = [str a, str b].toArray := by
  apply Array.toList_inj.1
  rw [hcs, hx0, hx1]
 rw [this]
theorem en_of {w : World} (hs : w.ShapedOpen Tryz.prog) (h : laidMetH Tryz.prog theLaid w) : En w :=
 ⟨tab_of_laid h, blk_R hs h (n := "latecomer/contract.zero") (d := Rows.laid_latecomer_contract_zero) (zero := #[str [], str []]) (by simp [theLaid, Rows.contractExactRow]) rfl (by kernel_rfl) (of_decide_eq_true (by kernel_rfl)) (by kernel_rfl) (by kernel_rfl)⟩
section
variable {H : Type} {enc : TypeId × Value → H} {w : World} {sp : Nat → Bool} {held : Bool}
theorem laidOutT : laidOutB Tryz.prog = true := by kernel_rfl
theorem i64_wf {z : Int} (h : (Lit.int .i64 z).wf = true) : I64 z := by
 simp only [Lit.wf, Bool.and_eq_true, decide_eq_true_eq] at h
 have h1 : IntKind.i64.min = -9223372036854775808 := by decide
 have h2 : IntKind.i64.max = 9223372036854775807 := by decide
 rw [h1, h2] at h
 exact h
theorem el_I (n : Nat) (cs : List Value) (x : DataW H × List MemPlace) (h : DataW.trod enc Tryz.prog w 0 sp held n 3 cs = some x) : ∃ a : Int, cs = fI a ∧ I64 a := by
 obtain ⟨n0, e0, _, k0⟩ := DataW.trod_int Tryz.underlying3 h
 exact ⟨n0, e0, i64_wf k0⟩
theorem el_I2 (n : Nat) (cs : List Value) (x : DataW H × List MemPlace) (h : DataW.trod enc Tryz.prog w 0 sp held n 85 cs = some x) : ∃ a : Int × Int, cs = f2 a ∧ (I64 a.1 ∧ I64 a.2) := by
 have hc2 : Tryz.prog.cellsOf 85 = 2 := by kernel_rfl
 have hc1 : Tryz.prog.cellsOf 3 = 1 := by kernel_rfl
 obtain ⟨xs, m, _, _, hcl, hl, hi⟩ := DataW.trod_array Tryz.underlying85 h
 rw [hc2] at hcl
 match cs, hcl with
 | [c0, c1], _ =>
  match xs, hl with
  | [y0, y1], _ =>
   have h0 := hi 0 (by decide)
   have h1 := hi 1 (by decide)
   simp [hc1] at h0 h1
   obtain ⟨n0, e0, _, k0⟩ := DataW.trod_int Tryz.underlying3 h0
   obtain ⟨n1, e1, _, k1⟩ := DataW.trod_int Tryz.underlying3 h1
   simp at e0 e1
   subst e0; subst e1
   exact ⟨(n0, n1), rfl, i64_wf k0, i64_wf k1⟩
theorem el_I5 (n : Nat) (cs : List Value) (x : DataW H × List MemPlace) (h : DataW.trod enc Tryz.prog w 0 sp held n 69 cs = some x) : ∃ a : I5, cs = f5 a ∧ (I64 a.1 ∧ I64 a.2.1 ∧ I64 a.2.2.1 ∧ I64 a.2.2.2.1 ∧ I64 a.2.2.2.2) := by
 have hc2 : Tryz.prog.cellsOf 69 = 5 := by kernel_rfl
 have hc1 : Tryz.prog.cellsOf 3 = 1 := by kernel_rfl
 obtain ⟨xs, m, _, _, hcl, hl, hi⟩ := DataW.trod_array Tryz.underlying69 h
 rw [hc2] at hcl
 match cs, hcl with
 | [c0, c1, c2, c3, c4], _ =>
  match xs, hl with
  | [y0, y1, y2, y3, y4], _ =>
   have h0 := hi 0 (by decide)
   have h1 := hi 1 (by decide)
   have h2 := hi 2 (by decide)
   have h3 := hi 3 (by decide)
   have h4 := hi 4 (by decide)
   simp [hc1] at h0 h1 h2 h3 h4
   obtain ⟨n0, e0, _, k0⟩ := DataW.trod_int Tryz.underlying3 h0
   obtain ⟨n1, e1, _, k1⟩ := DataW.trod_int Tryz.underlying3 h1
   obtain ⟨n2, e2, _, k2⟩ := DataW.trod_int Tryz.underlying3 h2
   obtain ⟨n3, e3, _, k3⟩ := DataW.trod_int Tryz.underlying3 h3
   obtain ⟨n4, e4, _, k4⟩ := DataW.trod_int Tryz.underlying3 h4
   simp at e0 e1 e2 e3 e4
   subst e0; subst e1; subst e2; subst e3; subst e4
   exact ⟨(n0, n1, n2, n3, n4), rfl, i64_wf k0, i64_wf k1, i64_wf k2, i64_wf k3, i64_wf k4⟩
theorem el_D (n : Nat) (cs : List Value) (x : DataW H × List MemPlace) (h : DataW.trod enc Tryz.prog w 0 sp held n 67 cs = some x) : ∃ a : Du, cs = fU a ∧ (I64 a.1 ∧ I64 a.2.1 ∧ I64 a.2.2) := by
 have hc2 : Tryz.prog.cellsOf 67 = 3 := by kernel_rfl
 have hc1 : Tryz.prog.cellsOf 3 = 1 := by kernel_rfl
 obtain ⟨xs, m, _, _, hcl, hl, hi⟩ := DataW.trod_struct Tryz.underlying67 h
 rw [hc2] at hcl
 match cs, hcl with
 | [c0, c1, c2], _ =>
  match xs, hl with
  | [y0, y1, y2], _ =>
   have h0 := hi 0 _ rfl
   have h1 := hi 1 _ rfl
   have h2 := hi 2 _ rfl
   simp [hc1] at h0 h1 h2
   obtain ⟨n0, e0, _, k0⟩ := DataW.trod_int Tryz.underlying3 h0
   obtain ⟨n1, e1, _, k1⟩ := DataW.trod_int Tryz.underlying3 h1
   obtain ⟨n2, e2, _, k2⟩ := DataW.trod_int Tryz.underlying3 h2
   simp at e0 e1 e2
   subst e0; subst e1; subst e2
   exact ⟨(n0, n1, n2), rfl, i64_wf k0, i64_wf k1, i64_wf k2⟩
theorem el_R (n : Nat) (cs : List Value) (x : DataW H × List MemPlace) (h : DataW.trod enc Tryz.prog w 0 sp held n 23 cs = some x) : ∃ a : RS, cs = fR a ∧ (a.1.length ≤ maxLen ∧ a.2.length ≤ maxLen) := by
 have hc2 : Tryz.prog.cellsOf 23 = 2 := by kernel_rfl
 have hc1 : Tryz.prog.cellsOf 9 = 1 := by kernel_rfl
 obtain ⟨y0, y1, m, _, hcl, h0, h1⟩ := trod_struct2 Tryz.underlying23 h
 rw [hc2] at hcl
 match cs, hcl with
 | [a, b], _ =>
  simp only [hc1] at h0 h1
  obtain ⟨s0, e0, _, k0⟩ := DataW.trod_string Tryz.underlying9 h0
  obtain ⟨s1, e1, _, k1⟩ := DataW.trod_string Tryz.underlying9 h1
  simp at e0 e1
  subst e0; subst e1
  exact ⟨(s0.data.toList, s1.data.toList), rfl, by simpa using k0, by simpa using k1⟩
theorem open_Is {b0 : Nat} {r : Reach} {v : Value} {d : DataW H} {ps : List MemPlace} (hval : Value.okWide Tryz.prog w r b0 27 v) (hd : DataW.Trod enc Tryz.prog w 0 sp held 27 v d ps) : ∃ l : List Int, SlC w 1 v l.length (l.flatMap fI) ∧ (∀ a ∈ l, I64 a) ∧ l.length ≤ maxLen :=
 open_sl fI (fun a => I64 a) Tryz.underlying27 (by kernel_rfl) (fun _ => rfl) el_I hval hd
theorem open_I2s {b0 : Nat} {r : Reach} {v : Value} {d : DataW H} {ps : List MemPlace} (hval : Value.okWide Tryz.prog w r b0 52 v) (hd : DataW.Trod enc Tryz.prog w 0 sp held 52 v d ps) : ∃ l : List (Int × Int), SlC w 2 v l.length (l.flatMap f2) ∧ (∀ a ∈ l, I64 a.1 ∧ I64 a.2) ∧ l.length ≤ maxLen :=
 open_sl f2 (fun a => I64 a.1 ∧ I64 a.2) Tryz.underlying52 (by kernel_rfl) (fun _ => rfl) el_I2 hval hd
theorem open_I5s {b0 : Nat} {r : Reach} {v : Value} {d : DataW H} {ps : List MemPlace} (hval : Value.okWide Tryz.prog w r b0 29 v) (hd : DataW.Trod enc Tryz.prog w 0 sp held 29 v d ps) : ∃ l : List I5, SlC w 5 v l.length (l.flatMap f5) ∧ (∀ a ∈ l, I64 a.1 ∧ I64 a.2.1 ∧ I64 a.2.2.1 ∧ I64 a.2.2.2.1 ∧ I64 a.2.2.2.2) ∧ l.length ≤ maxLen :=
 open_sl f5 (fun a => I64 a.1 ∧ I64 a.2.1 ∧ I64 a.2.2.1 ∧ I64 a.2.2.2.1 ∧ I64 a.2.2.2.2) Tryz.underlying29 (by kernel_rfl) (fun _ => rfl) el_I5 hval hd
theorem open_Ds {b0 : Nat} {r : Reach} {v : Value} {d : DataW H} {ps : List MemPlace} (hval : Value.okWide Tryz.prog w r b0 32 v) (hd : DataW.Trod enc Tryz.prog w 0 sp held 32 v d ps) : ∃ l : List Du, SlC w 3 v l.length (l.flatMap fU) ∧ (∀ a ∈ l, I64 a.1 ∧ I64 a.2.1 ∧ I64 a.2.2) ∧ l.length ≤ maxLen :=
 open_sl fU (fun a => I64 a.1 ∧ I64 a.2.1 ∧ I64 a.2.2) Tryz.underlying32 (by kernel_rfl) (fun _ => rfl) el_D hval hd
theorem open_Rs {b0 : Nat} {r : Reach} {v : Value} {d : DataW H} {ps : List MemPlace} (hval : Value.okWide Tryz.prog w r b0 28 v) (hd : DataW.Trod enc Tryz.prog w 0 sp held 28 v d ps) : ∃ l : List RS, SlR w v l ∧ (∀ a ∈ l, a.1.length ≤ maxLen ∧ a.2.length ≤ maxLen) ∧ l.length ≤ maxLen :=
 open_sl fR (fun a => a.1.length ≤ maxLen ∧ a.2.length ≤ maxLen) Tryz.underlying28 (by kernel_rfl) (fun _ => rfl) el_R hval hd
theorem okWide_arr {t e : TypeId} {m : Nat} {r : Reach} {b0 : Nat} {v : Value} (ht : Tryz.prog.underlying t = some (.array m e)) (h : Value.okWide Tryz.prog w r b0 t v) : ∃ cs, v = .agg cs ∧ cs.size = Tryz.prog.cellsOf t := by
 simp only [Value.okWide, ht] at h
 obtain ⟨cs, h1, h2, _⟩ := h
 exact ⟨cs, h1, h2⟩
theorem arr_list {n : Nat} {cs : Array Value} (h : cs.size = n) : ∃ l : List Value, cs = l.toArray ∧ l.length = n := ⟨cs.toList, by simp, by simpa using h⟩
theorem open_I4 {r : Reach} {b0 : Nat} {v : Value} {d : DataW H} {ps : List MemPlace} (hval : Value.okWide Tryz.prog w r b0 26 v) (hd : DataW.Trod enc Tryz.prog w 0 sp held 26 v d ps) :
 ∃ x0 x1 x2 x3 : Int, v = .agg #[.int .i64 x0, .int .i64 x1, .int .i64 x2, .int .i64 x3] ∧ I64 x0 ∧ I64 x1 ∧ I64 x2 ∧ I64 x3 := by
 obtain ⟨cs, rfl, hc⟩ := okWide_arr Tryz.underlying26 hval
 obtain ⟨fuel, hf⟩ := hd
 have hc2 : Tryz.prog.cellsOf 26 = 4 := by kernel_rfl
 have hc1 : Tryz.prog.cellsOf 3 = 1 := by kernel_rfl
 rw [hc2] at hc
 obtain ⟨l, rfl, hl4⟩ := arr_list hc
 match l, hl4 with
 | [a, b, c, e], _ =>
  obtain ⟨xs, m, _, hx, _, hl, hi⟩ := DataW.trod_array Tryz.underlying26 hf
  match xs, hl with
  | [y0, y1, y2, y3], _ =>
   have h0 := hi 0 (by decide)
   have h1 := hi 1 (by decide)
   have h2 := hi 2 (by decide)
   have h3 := hi 3 (by decide)
   simp [Value.cells, hc1] at h0 h1 h2 h3
   obtain ⟨n0, e0, _, k0⟩ := DataW.trod_int Tryz.underlying3 h0
   obtain ⟨n1, e1, _, k1⟩ := DataW.trod_int Tryz.underlying3 h1
   obtain ⟨n2, e2, _, k2⟩ := DataW.trod_int Tryz.underlying3 h2
   obtain ⟨n3, e3, _, k3⟩ := DataW.trod_int Tryz.underlying3 h3
   simp at e0 e1 e2 e3
   subst e0; subst e1; subst e2; subst e3
   exact ⟨n0, n1, n2, n3, rfl, i64_wf k0, i64_wf k1, i64_wf k2, i64_wf k3⟩
theorem open_Con {r : Reach} {b0 : Nat} {v : Value} {d : DataW H} {ps : List MemPlace} (hval : Value.okWide Tryz.prog w r b0 25 v) (hd : DataW.Trod enc Tryz.prog w 0 sp held 25 v d ps) :
 ∃ (tm gr : Int) (p : RS) (cap : Int), v = .agg #[.int .i64 tm, .int .i64 gr, str p.1, str p.2, .int .i64 cap] ∧ I64 tm ∧ I64 gr ∧ I64 cap := by
 obtain ⟨cs, rfl, hc⟩ := okWide_struct Tryz.underlying25 hval
 obtain ⟨fuel, hf⟩ := hd
 have hc2 : Tryz.prog.cellsOf 25 = 5 := by kernel_rfl
 have hcr : Tryz.prog.cellsOf 23 = 2 := by kernel_rfl
 have hc1 : Tryz.prog.cellsOf 3 = 1 := by kernel_rfl
 rw [hc2] at hc
 obtain ⟨l, rfl, hl5⟩ := arr_list hc
 match l, hl5 with
 | [a, b, c, e, f], _ =>
  obtain ⟨xs, m, _, hx, _, hl, hi⟩ := DataW.trod_struct Tryz.underlying25 hf
  match xs, hl with
  | [y0, y1, y2, y3], _ =>
   have h0 := hi 0 _ rfl
   have h1 := hi 1 _ rfl
   have h2 := hi 2 _ rfl
   have h3 := hi 3 _ rfl
   simp [Value.cells, hc1, hcr] at h0 h1 h2 h3
   obtain ⟨n0, e0, _, k0⟩ := DataW.trod_int Tryz.underlying3 h0
   obtain ⟨n1, e1, _, k1⟩ := DataW.trod_int Tryz.underlying3 h1
   obtain ⟨p, e2, _⟩ := el_R _ _ _ h2
   obtain ⟨n3, e3, _, k3⟩ := DataW.trod_int Tryz.underlying3 h3
   simp at e0 e1 e2 e3
   obtain ⟨e2, e4⟩ := e2
   subst e0; subst e1; subst e2; subst e3; subst e4
   exact ⟨n0, n1, p, n3, rfl, i64_wf k0, i64_wf k1, i64_wf k3⟩
theorem open_Late {b0 : Nat} {r : Reach} {v : Value} {d : DataW H} {ps : List MemPlace} (hval : Value.okWide Tryz.prog w r b0 31 v) (hd : DataW.Trod enc Tryz.prog w 0 sp held 31 v d ps) :
 ∃ (rq lt : Int) (a : Option Addr) (n k : Nat) (l : List RS), v = .agg #[.int .i64 rq, .int .i64 lt, .slice a n k] ∧ I64 rq ∧ I64 lt ∧ SlC w 2 (.slice a n k) l.length (l.flatMap fR) ∧ l.length ≤ maxLen := by
 simp only [Value.okWide, Tryz.underlying31] at hval
 obtain ⟨cs, rfl, hc, ts, hts, _, hro⟩ := hval
 obtain ⟨fuel, hf⟩ := hd
 have hc2 : Tryz.prog.cellsOf 31 = 3 := by kernel_rfl
 have hcs : Tryz.prog.cellsOf 28 = 1 := by kernel_rfl
 have hc1 : Tryz.prog.cellsOf 3 = 1 := by kernel_rfl
 rw [hc2] at hc
 obtain ⟨l, rfl, hl3⟩ := arr_list hc
 match l, hl3 with
 | [a, b, c], _ =>
  obtain ⟨xs, m, _, hx, _, hl, hi⟩ := DataW.trod_struct Tryz.underlying31 hf
  match xs, hl with
  | [y0, y1, y2], _ =>
   have h0 := hi 0 _ rfl
   have h1 := hi 1 _ rfl
   have h2 := hi 2 _ rfl
   simp [Value.cells, hc1, hcs] at h0 h1 h2
   obtain ⟨n0, e0, _, k0⟩ := DataW.trod_int Tryz.underlying3 h0
   obtain ⟨n1, e1, _, k1⟩ := DataW.trod_int Tryz.underlying3 h1
   simp at e0 e1
   subst e0; subst e1
   have ht : ts = [3, 3, 28] := by
    have : Tryz.prog.cellTypes Tryz.prog.depth 31 = some [3, 3, 28] := by kernel_rfl
    rw [this] at hts
    exact (Option.some.inj hts).symm
   subst ht
   obtain ⟨u, hu, hok⟩ := hro 2 c rfl
   obtain rfl : 28 = u := by simpa using hu
   have hv : Value.okWide Tryz.prog w r b0 28 c := by
    simp only [Value.okWide, Tryz.underlying28]
    exact hok
   obtain ⟨a', len, cap, rfl⟩ := okWide_slice Tryz.underlying28 hv
   obtain ⟨l, h4, _, h5⟩ := open_Rs hv (d := y2.1) (ps := y2.2) ⟨m, by simpa [Value.cells] using h2⟩
   exact ⟨n0, n1, a', len, cap, l, rfl, i64_wf k0, i64_wf k1, h4, h5⟩
end
end Go.Proofs.YtjmdnjnjepinoaaGreatDoor
