/-
  Contracts and plain lemmas. By an AI agent.
-/
import Derived.Test.YtdbcpkihokagkaaGreatDoorUnX
import Derived.Test.YtdbcpkihokagkaaGreatDoorRows
import Derived.ProofKit
import Derived.OpenShut
import Derived.LaidMore
import Derived.Lib.LaidTab
import Derived.MakeChecks
import Derived.ChangeSame
import Derived.WideShapes
import Derived.Handed
import Derived.Carry
set_option linter.unusedSimpArgs false
set_option linter.unusedVariables false
set_option linter.unusedSectionVars false
namespace Go.Proofs.YtdbcpkihokagkaaGreatDoor
open Go Go.Eng Go.Proofs Go.Num Go.RowKit Go.ChangeShapes Go.WideShapes
set_option maxRecDepth 100000
theorem own : ownKnob Tryz.prog.godebug = none := by kernel_rfl
section
variable {H : Type} {enc : TypeId × Value → H} {w w' : World} {base : Nat} {sp : Nat → Bool} {held : Bool}
theorem handed_shaped {a : Assume} {C : Checked} {os : Os} {f : FuncId} {fn : Func} {s : ChangeSpec} {conds : List PathCond} {apart fresh handsOn again : Bool} {X : World → Array Value → Prop}
 (hX : ∀ (w w' : World) (args : Array Value), w.heap = w'.heap → X w args → X w' args)
 (own : ownKnob C.prog.godebug = none) (started : os.Started) (noInit : C.prog.inits.idxOf? f = none) (hfn : C.prog.funcs[f]? = some fn)
 (witness : ∃ (w : World) (tape : Tape) (i : Input), w.os = os ∧ (w.forCall tape i).Shaped C.prog ∧ i.vars = [] ∧ Input.okWide C.prog (w.forCall tape i) .any w.heap.size f i ∧
  ((s.pre enc C.prog fn conds apart (w.forCall tape i).memory i.args ∧ X (w.forCall tape i).memory i.args) ∧ sizedMet enc C.prog fn (OpenSpec.ofChange s) apart (w.forCall tape i).memory i.args) ∧ a.holds C.prog (lone (Frame.enter C.prog f i.args .normal) [] (w.forCall tape i)))
 (contract : ∀ (W : World) (base : Nat) (args : Array Value) (ds gs : List (DataW H)) (before : List MemPlace), W.ShapedOpen C.prog →
  (∀ (j : Nat) t v, fn.params[j]? = some t → args[j]? = some v → Value.okWide C.prog W .any base t v) →
  DataW.Whole enc C.prog fn.params.toList s.vars apart W args.toList ds gs before → X W args →
  Calls C.prog f args W fun e W' => ∃ v, e = .returned v ∧ s.post enc C.prog fn apart fresh handsOn again W args v W') :
 ReturnsInHanded a C os f .any (fun w args => (s.pre enc C.prog fn conds apart w args ∧ X w args) ∧ sizedMet enc C.prog fn (OpenSpec.ofChange s) apart w args) (s.post enc C.prog fn apart fresh handsOn again) := by
 refine returnsInHanded_of_calls own started noInit witness ?_
 intro w tape i _ hsh _ hok hpre _
 obtain ⟨_, _, _, fn', hfn', _, _, _, _, hval⟩ := hok
 have e : fn' = fn := Option.some.inj (hfn'.symm.trans hfn)
 subst e
 obtain ⟨⟨⟨ds, gs, before, hw, _⟩, hx⟩, _⟩ := hpre
 have hw' := DataW.Whole.of_heap (w' := w.forCall tape i) (by rfl) hw
 refine (contract (w.forCall tape i) w.heap.size i.args ds gs before hsh hval hw' (hX _ _ _ (by rfl) hx)).mono fun e W' ⟨v, he, hp⟩ => ?_
 subst he
 exact ChangeSpec.post_blind hp
end
theorem laid_at {P : Program} {w : World} {n : String} {d : DataW Unit} : ∀ {l : List (String × DataW Unit)} {ps : List MemPlace}, DataW.LaidVars P w l ps → (n, d) ∈ l →
 ∃ g t cs fuel p, P.globalNamed n = some g ∧ (P.globals[g]?).map (·.type) = some t ∧ w.var? P n = some cs ∧ DataW.trod (fun _ => ()) P w 0 (fun _ => true) false fuel t cs.toList = some (d, p)
 | [], _, _, h => by cases h
 | (m, e) :: r, ps, h, hm => by
  obtain ⟨g, t, cs, fuel, p, q, h1, h2, h3, h4, h5, _⟩ := h
  rcases List.mem_cons.1 hm with he | hm
  ·cases he
   exact ⟨g, t, cs, fuel, p, h1, h2, h3, h4⟩
  ·exact laid_at h5 hm
abbrev theLaid : List (String × DataW Unit) := Rows.unitFieldRow.laid
theorem iface_cell {P : Program} {w : World} {t : TypeId} {ms : Array (String × TypeId)} {cs : List Value} {fuel : Nat} {nm : String} {d : DataW Unit} {p : List MemPlace} (ht : P.underlying t = some (.interface ms))
 (h : DataW.trod (fun _ => ()) P w 0 (fun _ => true) false fuel t cs = some (.iface nm d, p)) : ∃ u v, cs = [.iface u v] := by
 cases fuel with
 | zero => simp [DataW.trod] at h
 | succ fuel =>
  simp only [DataW.trod, ht] at h
  split at h <;> first | exact ⟨_, _, rfl⟩ | simp_all
theorem err_of {P : Program} {w : World} {l : List (String × DataW Unit)} {n nm : String} {d : DataW Unit} {g : Nat} {t : TypeId} {ms : Array (String × TypeId)} (h : laidMet P l w) (hm : (n, .iface nm d) ∈ l)
 (hg : P.globalNamed n = some g) (ht : (P.globals[g]?).map (·.type) = some t) (hu : P.underlying t = some (.interface ms)) : ∃ tp p, w.var? P n = some #[.iface tp p] := by
 obtain ⟨ps, hl, _⟩ := h
 obtain ⟨g', t', cs, fuel, p, h1, h2, h3, h4⟩ := laid_at hl hm
 obtain rfl := Option.some.inj (hg.symm.trans h1)
 obtain rfl := Option.some.inj (ht.symm.trans h2)
 obtain ⟨u, v, hc⟩ := iface_cell hu h4
 exact ⟨u, v, h3.trans (congrArg some (Array.toList_inj.1 hc))⟩
theorem tab_of_laid {w : World} (h : laidMetH Tryz.prog theLaid w) : Tab w := by
 rw [MakeChecks.laidMetH_plain _ _ _ (by kernel_rfl)] at h
 obtain ⟨ps, hl, _⟩ := h
 obtain ⟨g, t, cs, fuel, p, h1, h2, h3, h4⟩ := laid_at (n := "internal/strconv.uint64pow10") (d := Rows.laid_internal_strconv_uint64pow10) hl (by simp [theLaid, Rows.unitFieldRow])
 obtain rfl := Option.some.inj ((show Tryz.prog.globalNamed "internal/strconv.uint64pow10" = some 4 by kernel_rfl).symm.trans h1)
 obtain rfl := Option.some.inj ((show (Tryz.prog.globals[4]?).map (·.type) = some 193 by kernel_rfl).symm.trans h2)
 have h5 := Lib.cells_of_tab (k := .u64) (zs := Lib.pow10Tab) Tryz.underlying193 Tryz.underlying109 (by kernel_rfl) (by kernel_rfl) h4
 show w.var? _ _ = _
 rw [h3]
 exact congrArg some (Array.toList_inj.1 h5)
theorem errV_of_laid {w : World} (h : laidMetH Tryz.prog theLaid w) : ErrV w := by
 rw [MakeChecks.laidMetH_plain _ _ _ (by kernel_rfl)] at h
 exact ⟨err_of (n := "strconv.ErrSyntax") (nm := "*errors.errorString") (d := .ptr (.agg [.lit (.string [105, 110, 118, 97, 108, 105, 100, 32, 115, 121, 110, 116, 97, 120])])) h (show ("strconv.ErrSyntax", Rows.laid_strconv_ErrSyntax) ∈ theLaid by simp [theLaid, Rows.unitFieldRow]) (g := 2) (by kernel_rfl) (by kernel_rfl) Tryz.underlying82,
  err_of (n := "strconv.ErrRange") (nm := "*errors.errorString") (d := .ptr (.agg [.lit (.string [118, 97, 108, 117, 101, 32, 111, 117, 116, 32, 111, 102, 32, 114, 97, 110, 103, 101])])) h (show ("strconv.ErrRange", Rows.laid_strconv_ErrRange) ∈ theLaid by simp [theLaid, Rows.unitFieldRow]) (g := 3) (by kernel_rfl) (by kernel_rfl) Tryz.underlying82⟩
theorem maxV_of_shaped {W : World} (h : W.ShapedOpen Tryz.prog) : MaxV W :=
 Go.Proofs.cell_of_shapedOpen_int (zero := #[.int .i64 0]) (t := 3) h (of_decide_eq_true (by kernel_rfl)) (by kernel_rfl) rfl (by kernel_rfl) (by kernel_rfl) Tryz.underlying3
theorem wv_of {w : World} (hs : w.ShapedOpen Tryz.prog) (h : laidMetH Tryz.prog theLaid w) : WV w := by
 rw [MakeChecks.laidMetH_plain _ _ _ (by kernel_rfl)] at h
 obtain ⟨ps, hl, _⟩ := h
 obtain ⟨g', t, cs, fuel, p, h1, h2, h3, h4⟩ := laid_at (n := "latecomer/unit.words") (d := Rows.laid_latecomer_unit_words) hl (by simp [theLaid, Rows.unitFieldRow])
 have hg : Tryz.prog.globalNamed "latecomer/unit.words" = some 0 := by kernel_rfl
 have ht : (Tryz.prog.globals[0]?).map (·.type) = some 74 := by kernel_rfl
 have h0 : ((begin Tryz.prog (fun _ _ => 0) default).world.heap[0]?).bind Obj.row? = some (#[str [], str [], str [], str []], 74) := by kernel_rfl
 obtain rfl := Option.some.inj (hg.symm.trans h1)
 obtain rfl := Option.some.inj (ht.symm.trans h2)
 obtain ⟨cs', h5, _, _⟩ := hs.1 0 _ 74 (of_decide_eq_true (by kernel_rfl)) h0
 unfold World.var? at h3
 rw [hg] at h3
 simp only [Option.bind_some, h5, Option.some.injEq] at h3
 subst h3
 have hc2 : Tryz.prog.cellsOf 74 = 4 := by kernel_rfl
 have hc1 : Tryz.prog.cellsOf 9 = 1 := by kernel_rfl
 obtain ⟨xs, m, _, hx, hlen, hl, hi⟩ := DataW.trod_array Tryz.underlying74 h4
 rw [hc2] at hlen
 obtain ⟨a, b, c, e, hcs⟩ : ∃ a b c e, cs'.toList = [a, b, c, e] := by
  match hq : cs'.toList, hlen with
  | [a, b, c, e], _ => exact ⟨a, b, c, e, rfl⟩
 match xs, hl with
 | [y0, y1, y2, y3], _ =>
  rw [hcs] at hi
  have k0 := hi 0 (by decide)
  have k1 := hi 1 (by decide)
  have k2 := hi 2 (by decide)
  have k3 := hi 3 (by decide)
  simp [hc1] at k0 k1 k2 k3
  obtain ⟨s0, e0, q0, _⟩ := DataW.trod_string Tryz.underlying9 k0
  obtain ⟨s1, e1, q1, _⟩ := DataW.trod_string Tryz.underlying9 k1
  obtain ⟨s2, e2, q2, _⟩ := DataW.trod_string Tryz.underlying9 k2
  obtain ⟨s3, e3, q3, _⟩ := DataW.trod_string Tryz.underlying9 k3
  simp at e0 e1 e2 e3
  subst e0; subst e1; subst e2; subst e3
  have hx' : Rows.laid_latecomer_unit_words = .agg [y0.1, y1.1, y2.1, y3.1] := by
   simp at hx; exact hx.1
  rw [q0, q1, q2, q3] at hx'
  simp [Rows.laid_latecomer_unit_words] at hx'
  obtain ⟨j0, j1, j2, j3⟩ := hx'
  unfold WV Blk
  rw [h5]
  have : cs' = [str wUs, str wBy, str wCe, str wOn].toArray := by
   apply Array.toList_inj.1
   rw [hcs]
   simp [str, ← j0, ← j1, ← j2, ← j3, wUs, wBy, wCe, wOn]
   try (exact ⟨by rw [j0], by rw [j1], by rw [j2], by rw [j3]⟩)
  rw [this]
theorem en_of {w : World} (hs : w.ShapedOpen Tryz.prog) (h : laidMetH Tryz.prog theLaid w) : En w := ⟨tab_of_laid h, maxV_of_shaped hs, wv_of hs h, errV_of_laid h⟩
section
variable {H : Type} {enc : TypeId × Value → H} {w : World} {sp : Nat → Bool} {held : Bool}
theorem laidOutT : laidOutB Tryz.prog = true := by kernel_rfl
theorem i64_wf {z : Int} (h : (Lit.int .i64 z).wf = true) : I64 z := by
 simp only [Lit.wf, Bool.and_eq_true, decide_eq_true_eq] at h
 have h1 : IntKind.i64.min = -9223372036854775808 := by decide
 have h2 : IntKind.i64.max = 9223372036854775807 := by decide
 rw [h1, h2] at h
 exact h
theorem lit_u8 {n : Int} (h : (Lit.int .u8 n).wf = true) : 0 ≤ n ∧ n ≤ 255 := by
 have h' : (decide (IntKind.min .u8 ≤ n) && decide (n ≤ IntKind.max .u8)) = true := h
 rw [show IntKind.min .u8 = 0 from by decide, show IntKind.max .u8 = 255 from by decide] at h'
 simp at h'
 omega
theorem el_R (n : Nat) (cs : List Value) (x : DataW H × List MemPlace) (h : DataW.trod enc Tryz.prog w 0 sp held n 23 cs = some x) : ∃ a : RS, cs = [str a.1, str a.2] ∧ (a.1.length ≤ maxLen ∧ a.2.length ≤ maxLen) := by
 have hc2 : Tryz.prog.cellsOf 23 = 2 := by kernel_rfl
 have hc1 : Tryz.prog.cellsOf 9 = 1 := by kernel_rfl
 obtain ⟨y0, y1, m, _, hcl, h0, h1⟩ := trod_struct2 Tryz.underlying23 h
 rw [hc2] at hcl
 match cs, hcl with
 | [a, b], _ =>
  simp only [hc1] at h0 h1
  obtain ⟨s0, e0, _, k0⟩ := DataW.trod_string Tryz.underlying9 h0
  obtain ⟨s1, e1, _, k1⟩ := DataW.trod_string Tryz.underlying9 h1
  simp at e0 e1
  subst e0; subst e1
  exact ⟨(s0.data.toList, s1.data.toList), rfl, by simpa using k0, by simpa using k1⟩
theorem okWide_arr {t e : TypeId} {m : Nat} {r : Reach} {b0 : Nat} {v : Value} (ht : Tryz.prog.underlying t = some (.array m e)) (h : Value.okWide Tryz.prog w r b0 t v) : ∃ cs, v = .agg cs ∧ cs.size = Tryz.prog.cellsOf t := by
 simp only [Value.okWide, ht] at h
 obtain ⟨cs, h1, h2, _⟩ := h
 exact ⟨cs, h1, h2⟩
theorem arr_list {n : Nat} {cs : Array Value} (h : cs.size = n) : ∃ l : List Value, cs = l.toArray ∧ l.length = n := ⟨cs.toList, by simp, by simpa using h⟩
theorem open_I4 {r : Reach} {b0 : Nat} {v : Value} {d : DataW H} {ps : List MemPlace} (hval : Value.okWide Tryz.prog w r b0 28 v) (hd : DataW.Trod enc Tryz.prog w 0 sp held 28 v d ps) :
 ∃ x0 x1 x2 x3 : Int, v = .agg #[.int .i64 x0, .int .i64 x1, .int .i64 x2, .int .i64 x3] ∧ I64 x0 ∧ I64 x1 ∧ I64 x2 ∧ I64 x3 := by
 obtain ⟨cs, rfl, hc⟩ := okWide_arr Tryz.underlying28 hval
 obtain ⟨fuel, hf⟩ := hd
 have hc2 : Tryz.prog.cellsOf 28 = 4 := by kernel_rfl
 have hc1 : Tryz.prog.cellsOf 3 = 1 := by kernel_rfl
 rw [hc2] at hc
 obtain ⟨l, rfl, hl4⟩ := arr_list hc
 match l, hl4 with
 | [a, b, c, e], _ =>
  obtain ⟨xs, m, _, hx, _, hl, hi⟩ := DataW.trod_array Tryz.underlying28 hf
  match xs, hl with
  | [y0, y1, y2, y3], _ =>
   have h0 := hi 0 (by decide)
   have h1 := hi 1 (by decide)
   have h2 := hi 2 (by decide)
   have h3 := hi 3 (by decide)
   simp [Value.cells, hc1] at h0 h1 h2 h3
   obtain ⟨n0, e0, _, k0⟩ := DataW.trod_int Tryz.underlying3 h0
   obtain ⟨n1, e1, _, k1⟩ := DataW.trod_int Tryz.underlying3 h1
   obtain ⟨n2, e2, _, k2⟩ := DataW.trod_int Tryz.underlying3 h2
   obtain ⟨n3, e3, _, k3⟩ := DataW.trod_int Tryz.underlying3 h3
   simp at e0 e1 e2 e3
   subst e0; subst e1; subst e2; subst e3
   exact ⟨n0, n1, n2, n3, rfl, i64_wf k0, i64_wf k1, i64_wf k2, i64_wf k3⟩
theorem open_I2 {r : Reach} {b0 : Nat} {v : Value} {d : DataW H} {ps : List MemPlace} (hval : Value.okWide Tryz.prog w r b0 52 v) (hd : DataW.Trod enc Tryz.prog w 0 sp held 52 v d ps) :
 ∃ x0 x1 : Int, v = .agg #[.int .i64 x0, .int .i64 x1] ∧ I64 x0 ∧ I64 x1 := by
 obtain ⟨cs, rfl, hc⟩ := okWide_arr Tryz.underlying52 hval
 obtain ⟨fuel, hf⟩ := hd
 have hc2 : Tryz.prog.cellsOf 52 = 2 := by kernel_rfl
 have hc1 : Tryz.prog.cellsOf 3 = 1 := by kernel_rfl
 rw [hc2] at hc
 obtain ⟨l, rfl, hl2⟩ := arr_list hc
 match l, hl2 with
 | [a, b], _ =>
  obtain ⟨xs, m, _, hx, _, hl, hi⟩ := DataW.trod_array Tryz.underlying52 hf
  match xs, hl with
  | [y0, y1], _ =>
   have h0 := hi 0 (by decide)
   have h1 := hi 1 (by decide)
   simp [Value.cells, hc1] at h0 h1
   obtain ⟨n0, e0, _, k0⟩ := DataW.trod_int Tryz.underlying3 h0
   obtain ⟨n1, e1, _, k1⟩ := DataW.trod_int Tryz.underlying3 h1
   simp at e0 e1
   subst e0; subst e1
   exact ⟨n0, n1, rfl, i64_wf k0, i64_wf k1⟩
theorem el_U (n : Nat) (cs : List Value) (x : DataW H × List MemPlace) (h : DataW.trod enc Tryz.prog w 0 sp held n 25 cs = some x) : ∃ a : U4, cs = fU4 a ∧ UI a := by
 have hc2 : Tryz.prog.cellsOf 25 = 4 := by kernel_rfl
 have hc1 : Tryz.prog.cellsOf 3 = 1 := by kernel_rfl
 obtain ⟨xs, m, _, _, hcl, hl, hi⟩ := DataW.trod_struct Tryz.underlying25 h
 rw [hc2] at hcl
 match cs, hcl with
 | [c0, c1, c2, c3], _ =>
  match xs, hl with
  | [y0, y1, y2, y3], _ =>
   have h0 := hi 0 _ rfl
   have h1 := hi 1 _ rfl
   have h2 := hi 2 _ rfl
   have h3 := hi 3 _ rfl
   simp [hc1] at h0 h1 h2 h3
   obtain ⟨n0, e0, _, k0⟩ := DataW.trod_int Tryz.underlying3 h0
   obtain ⟨n1, e1, _, k1⟩ := DataW.trod_int Tryz.underlying3 h1
   obtain ⟨n2, e2, _, k2⟩ := DataW.trod_int Tryz.underlying3 h2
   obtain ⟨n3, e3, _, k3⟩ := DataW.trod_int Tryz.underlying3 h3
   simp at e0 e1 e2 e3
   subst e0; subst e1; subst e2; subst e3
   exact ⟨(n0, n1, n2, n3), rfl, i64_wf k0, i64_wf k1, i64_wf k2, i64_wf k3⟩
theorem open_Qy {r : Reach} {b0 : Nat} {v : Value} {d : DataW H} {ps : List MemPlace} (hval : Value.okWide Tryz.prog w r b0 27 v) (hd : DataW.Trod enc Tryz.prog w 0 sp held 27 v d ps) :
 ∃ q : QT, v = .agg #[str q.p.1, str q.p.2, .int .i64 q.u.1, .int .i64 q.u.2.1, .int .i64 q.u.2.2.1, .int .i64 q.u.2.2.2] ∧ q.p.1.length ≤ maxLen ∧ q.p.2.length ≤ maxLen ∧ UI q.u := by
 obtain ⟨cs, rfl, hc⟩ := okWide_struct Tryz.underlying27 hval
 obtain ⟨fuel, hf⟩ := hd
 have hc2 : Tryz.prog.cellsOf 27 = 6 := by kernel_rfl
 have hcr : Tryz.prog.cellsOf 23 = 2 := by kernel_rfl
 have hcu : Tryz.prog.cellsOf 25 = 4 := by kernel_rfl
 rw [hc2] at hc
 obtain ⟨l, rfl, hl5⟩ := arr_list hc
 match l, hl5 with
 | [a, b, c, e, f, g], _ =>
  obtain ⟨xs, m, _, hx, _, hl, hi⟩ := DataW.trod_struct Tryz.underlying27 hf
  match xs, hl with
  | [y0, y1], _ =>
   have h0 := hi 0 _ rfl
   have h1 := hi 1 _ rfl
   simp [Value.cells, hcr, hcu] at h0 h1
   obtain ⟨p, e0, k0⟩ := el_R _ _ _ h0
   obtain ⟨u, e1, k1⟩ := el_U _ _ _ h1
   simp at e0 e1
   obtain ⟨rfl, rfl⟩ := e0
   obtain ⟨rfl, rfl, rfl, rfl⟩ := e1
   exact ⟨⟨p, u⟩, rfl, k0.1, k0.2, k1⟩
end
end Go.Proofs.YtdbcpkihokagkaaGreatDoor
