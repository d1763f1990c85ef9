/-
  Contracts and plain lemmas. By an AI agent.
-/
import Derived.Test.YtnkmbjedcjcccaaGreatDoorAlI
import Derived.Test.YtnkmbjedcjcccaaGreatDoorPlain
import Derived.Test.YtnkmbjedcjcccaaGreatDoorTyp
set_option linter.unusedSimpArgs false
set_option linter.unusedVariables false
set_option linter.unusedSectionVars false
namespace Go.Proofs.YtnkmbjedcjcccaaGreatDoor
open Go Go.Eng Go.Proofs Go.Num Go.RowKit
open Go.Alm (Ft Wt Sm VW VA)
set_option maxRecDepth 100000
abbrev tFt : TypeId := 65
abbrev fF (f : Ft) : List Value := [.int .i64 f.tr, .int .i64 f.sp, .int .i64 f.sv, .int .i64 f.ve, .int .i64 f.op, .int .i64 f.pe, .int .i64 f.da, .int .i64 f.lo, .int .i64 f.hi, .int .i64 f.by']
abbrev vF (f : Ft) : Value := .agg #[.int .i64 f.tr, .int .i64 f.sp, .int .i64 f.sv, .int .i64 f.ve, .int .i64 f.op, .int .i64 f.pe, .int .i64 f.da, .int .i64 f.lo, .int .i64 f.hi, .int .i64 f.by']
structure FI (f : Ft) : Prop where
 tr : I64 f.tr
 sp : I64 f.sp
 sv : I64 f.sv
 ve : I64 f.ve
 op : I64 f.op
 pe : I64 f.pe
 da : I64 f.da
 lo : I64 f.lo
 hi : I64 f.hi
 by' : I64 f.by'
abbrev VF (f : Ft) : Prop := (0 ≤ f.tr ∧ f.tr ≤ 999) ∧ (0 ≤ f.sp ∧ f.sp ≤ 9) ∧ (0 ≤ f.sv ∧ f.sv ≤ 7) ∧ (0 ≤ f.ve ∧ f.ve ≤ 9) ∧ (0 ≤ f.op ∧ f.op ≤ 11) ∧ (-1 ≤ f.pe ∧ f.pe ≤ 19) ∧ f.da = f.tr / 10 ∧ (0 ≤ f.lo ∧ f.lo ≤ f.hi) ∧ f.hi ≤ 4398046511104 ∧ (0 ≤ f.by' ∧ f.by' ≤ 24000)
set_option maxHeartbeats 4000000 in
theorem c_VF {w0 : World} {f : Ft} (hf : FI f) : Calls Tryz.prog 92 #[vF f] w0 (Ret fun r w' => Ext w0 w' ∧ r = .bool (decide (VF f))) := by
 obtain ⟨i1, i2, i3, i4, i5, i6, i7, i8, i9, i10⟩ := hf
 by_cases n1 : 0 ≤ f.tr ∧ f.tr ≤ 999
 rotate_left
 ·rw [decide_eq_false (fun h : VF f => n1 h.1)]
  have cc1 := fun {W : World} (_ : Ext w0 W) => c_tinF (w := W) n1
  apply e_trace_ValidFact
  unfold s_trace_ValidFact
  have h := Hp.init [] w0
  refine bxA h fun g1 w h => ?_
  refine faS (Eng.ld1 h 0 rfl rfl (cl1 h n_trace_within (cc1 h.ext) fun w h => ?_))
  refine Gd_FT (Gd_FT (Gd_FT (Pick_F (Gd_FT (Gd_FT (Gd_FT (Pick_F (Gd_FT (Gd_FT (Gd_FT (Pick_F (Gd_FT (Gd_FT (Gd_FT (Pick_F (Gd_FT (Gd_FT (Gd_FT (Pick_F (Gd_FT (Gd_FT (Gd_FT (Gd_FT (Gd_FT (Gd_FT (Pick_F (Gd_FT (Gd_FT (Gd_FT (Gd_FT (Gd_FT (Pick_F (Gd_FT (Gd_FT (Gd_FT (Pick_F (Gd_FT (Gd_FT (Gd_FT ?_)))))))))))))))))))))))))))))))))))))))
  refine Pick_F ?_
  exact Ret.mk ⟨h.ext, rfl⟩
 have cc1 := fun {W : World} (_ : Ext w0 W) => c_tinT (w := W) n1
 by_cases n2 : 0 ≤ f.sp ∧ f.sp ≤ 9
 rotate_left
 ·rw [decide_eq_false (fun h : VF f => n2 h.2.1)]
  have cc2 := fun {W : World} (_ : Ext w0 W) => c_tinF (w := W) n2
  apply e_trace_ValidFact
  unfold s_trace_ValidFact
  have h := Hp.init [] w0
  refine bxA h fun g1 w h => ?_
  refine faS (Eng.ld1 h 0 rfl rfl (cl1 h n_trace_within (cc1 h.ext) fun w h => ?_))
  refine Gd_T (faS (Gd_T (Eng.ld1 h 0 rfl rfl (Gd_T (cl1 h n_trace_within (cc2 h.ext) fun w h => ?_)))))
  refine Pick_T (Gd_FT (Gd_FT (Gd_FT (Pick_F (Gd_FT (Gd_FT (Gd_FT (Pick_F (Gd_FT (Gd_FT (Gd_FT (Pick_F (Gd_FT (Gd_FT (Gd_FT (Pick_F (Gd_FT (Gd_FT (Gd_FT (Gd_FT (Gd_FT (Gd_FT (Pick_F (Gd_FT (Gd_FT (Gd_FT (Gd_FT (Gd_FT (Pick_F (Gd_FT (Gd_FT (Gd_FT (Pick_F (Gd_FT (Gd_FT (Gd_FT (Pick_F ?_)))))))))))))))))))))))))))))))))))))
  exact Ret.mk ⟨h.ext, rfl⟩
 have cc2 := fun {W : World} (_ : Ext w0 W) => c_tinT (w := W) n2
 by_cases n3 : 0 ≤ f.sv ∧ f.sv ≤ 7
 rotate_left
 ·rw [decide_eq_false (fun h : VF f => n3 h.2.2.1)]
  have cc3 := fun {W : World} (_ : Ext w0 W) => c_tinF (w := W) n3
  apply e_trace_ValidFact
  unfold s_trace_ValidFact
  have h := Hp.init [] w0
  refine bxA h fun g1 w h => ?_
  refine faS (Eng.ld1 h 0 rfl rfl (cl1 h n_trace_within (cc1 h.ext) fun w h => ?_))
  refine Gd_T (faS (Gd_T (Eng.ld1 h 0 rfl rfl (Gd_T (cl1 h n_trace_within (cc2 h.ext) fun w h => ?_)))))
  refine Pick_T (Gd_T (faS (Gd_T (Eng.ld1 h 0 rfl rfl (Gd_T (cl1 h n_trace_within (cc3 h.ext) fun w h => ?_))))))
  refine Pick_T (Gd_FT (Gd_FT (Gd_FT (Pick_F (Gd_FT (Gd_FT (Gd_FT (Pick_F (Gd_FT (Gd_FT (Gd_FT (Pick_F (Gd_FT (Gd_FT (Gd_FT (Gd_FT (Gd_FT (Gd_FT (Pick_F (Gd_FT (Gd_FT (Gd_FT (Gd_FT (Gd_FT (Pick_F (Gd_FT (Gd_FT (Gd_FT (Pick_F (Gd_FT (Gd_FT (Gd_FT (Pick_F ?_)))))))))))))))))))))))))))))))))
  exact Ret.mk ⟨h.ext, rfl⟩
 have cc3 := fun {W : World} (_ : Ext w0 W) => c_tinT (w := W) n3
 by_cases n4 : 0 ≤ f.ve ∧ f.ve ≤ 9
 rotate_left
 ·rw [decide_eq_false (fun h : VF f => n4 h.2.2.2.1)]
  have cc4 := fun {W : World} (_ : Ext w0 W) => c_tinF (w := W) n4
  apply e_trace_ValidFact
  unfold s_trace_ValidFact
  have h := Hp.init [] w0
  refine bxA h fun g1 w h => ?_
  refine faS (Eng.ld1 h 0 rfl rfl (cl1 h n_trace_within (cc1 h.ext) fun w h => ?_))
  refine Gd_T (faS (Gd_T (Eng.ld1 h 0 rfl rfl (Gd_T (cl1 h n_trace_within (cc2 h.ext) fun w h => ?_)))))
  refine Pick_T (Gd_T (faS (Gd_T (Eng.ld1 h 0 rfl rfl (Gd_T (cl1 h n_trace_within (cc3 h.ext) fun w h => ?_))))))
  refine Pick_T (Gd_T (faS (Gd_T (Eng.ld1 h 0 rfl rfl (Gd_T (cl1 h n_trace_within (cc4 h.ext) fun w h => ?_))))))
  refine Pick_T (Gd_FT (Gd_FT (Gd_FT (Pick_F (Gd_FT (Gd_FT (Gd_FT (Pick_F (Gd_FT (Gd_FT (Gd_FT (Gd_FT (Gd_FT (Gd_FT (Pick_F (Gd_FT (Gd_FT (Gd_FT (Gd_FT (Gd_FT (Pick_F (Gd_FT (Gd_FT (Gd_FT (Pick_F (Gd_FT (Gd_FT (Gd_FT (Pick_F ?_)))))))))))))))))))))))))))))
  exact Ret.mk ⟨h.ext, rfl⟩
 have cc4 := fun {W : World} (_ : Ext w0 W) => c_tinT (w := W) n4
 by_cases n5 : 0 ≤ f.op ∧ f.op ≤ 11
 rotate_left
 ·rw [decide_eq_false (fun h : VF f => n5 h.2.2.2.2.1)]
  have cc5 := fun {W : World} (_ : Ext w0 W) => c_tinF (w := W) n5
  apply e_trace_ValidFact
  unfold s_trace_ValidFact
  have h := Hp.init [] w0
  refine bxA h fun g1 w h => ?_
  refine faS (Eng.ld1 h 0 rfl rfl (cl1 h n_trace_within (cc1 h.ext) fun w h => ?_))
  refine Gd_T (faS (Gd_T (Eng.ld1 h 0 rfl rfl (Gd_T (cl1 h n_trace_within (cc2 h.ext) fun w h => ?_)))))
  refine Pick_T (Gd_T (faS (Gd_T (Eng.ld1 h 0 rfl rfl (Gd_T (cl1 h n_trace_within (cc3 h.ext) fun w h => ?_))))))
  refine Pick_T (Gd_T (faS (Gd_T (Eng.ld1 h 0 rfl rfl (Gd_T (cl1 h n_trace_within (cc4 h.ext) fun w h => ?_))))))
  refine Pick_T (Gd_T (faS (Gd_T (Eng.ld1 h 0 rfl rfl (Gd_T (cl1 h n_trace_within (cc5 h.ext) fun w h => ?_))))))
  refine Pick_T (Gd_FT (Gd_FT (Gd_FT (Pick_F (Gd_FT (Gd_FT (Gd_FT (Gd_FT (Gd_FT (Gd_FT (Pick_F (Gd_FT (Gd_FT (Gd_FT (Gd_FT (Gd_FT (Pick_F (Gd_FT (Gd_FT (Gd_FT (Pick_F (Gd_FT (Gd_FT (Gd_FT (Pick_F ?_)))))))))))))))))))))))))
  exact Ret.mk ⟨h.ext, rfl⟩
 have cc5 := fun {W : World} (_ : Ext w0 W) => c_tinT (w := W) n5
 by_cases n6 : -1 ≤ f.pe ∧ f.pe ≤ 19
 rotate_left
 ·rw [decide_eq_false (fun h : VF f => n6 h.2.2.2.2.2.1)]
  have cc6 := fun {W : World} (_ : Ext w0 W) => c_tinF (w := W) n6
  apply e_trace_ValidFact
  unfold s_trace_ValidFact
  have h := Hp.init [] w0
  refine bxA h fun g1 w h => ?_
  refine faS (Eng.ld1 h 0 rfl rfl (cl1 h n_trace_within (cc1 h.ext) fun w h => ?_))
  refine Gd_T (faS (Gd_T (Eng.ld1 h 0 rfl rfl (Gd_T (cl1 h n_trace_within (cc2 h.ext) fun w h => ?_)))))
  refine Pick_T (Gd_T (faS (Gd_T (Eng.ld1 h 0 rfl rfl (Gd_T (cl1 h n_trace_within (cc3 h.ext) fun w h => ?_))))))
  refine Pick_T (Gd_T (faS (Gd_T (Eng.ld1 h 0 rfl rfl (Gd_T (cl1 h n_trace_within (cc4 h.ext) fun w h => ?_))))))
  refine Pick_T (Gd_T (faS (Gd_T (Eng.ld1 h 0 rfl rfl (Gd_T (cl1 h n_trace_within (cc5 h.ext) fun w h => ?_))))))
  refine Pick_T (Gd_T (faS (Gd_T (Eng.ld1 h 0 rfl rfl (Gd_T (cl1 h n_trace_within (cc6 h.ext) fun w h => ?_))))))
  refine Pick_T (Gd_FT (Gd_FT (Gd_FT (Gd_FT (Gd_FT (Gd_FT (Pick_F (Gd_FT (Gd_FT (Gd_FT (Gd_FT (Gd_FT (Pick_F (Gd_FT (Gd_FT (Gd_FT (Pick_F (Gd_FT (Gd_FT (Gd_FT (Pick_F ?_)))))))))))))))))))))
  exact Ret.mk ⟨h.ext, rfl⟩
 have cc6 := fun {W : World} (_ : Ext w0 W) => c_tinT (w := W) n6
 by_cases n7 : f.da = f.tr / 10
 rotate_left
 ·rw [decide_eq_false (fun h : VF f => n7 h.2.2.2.2.2.2.1)]
  apply e_trace_ValidFact
  unfold s_trace_ValidFact
  have h := Hp.init [] w0
  refine bxA h fun g1 w h => ?_
  refine faS (Eng.ld1 h 0 rfl rfl (cl1 h n_trace_within (cc1 h.ext) fun w h => ?_))
  refine Gd_T (faS (Gd_T (Eng.ld1 h 0 rfl rfl (Gd_T (cl1 h n_trace_within (cc2 h.ext) fun w h => ?_)))))
  refine Pick_T (Gd_T (faS (Gd_T (Eng.ld1 h 0 rfl rfl (Gd_T (cl1 h n_trace_within (cc3 h.ext) fun w h => ?_))))))
  refine Pick_T (Gd_T (faS (Gd_T (Eng.ld1 h 0 rfl rfl (Gd_T (cl1 h n_trace_within (cc4 h.ext) fun w h => ?_))))))
  refine Pick_T (Gd_T (faS (Gd_T (Eng.ld1 h 0 rfl rfl (Gd_T (cl1 h n_trace_within (cc5 h.ext) fun w h => ?_))))))
  refine Pick_T (Gd_T (faS (Gd_T (Eng.ld1 h 0 rfl rfl (Gd_T (cl1 h n_trace_within (cc6 h.ext) fun w h => ?_))))))
  refine Pick_T (Gd_T (faS (Gd_T (Eng.ld1 h 0 rfl rfl (Gd_T (faS (Gd_T (Eng.ld1 h 0 rfl rfl (Gd_T (Bn_qu (by omega) (by omega) (by omega) (Gd_T (Bn_eqF (by omega) (Pick_T (Gd_FT (Gd_FT (Gd_FT (Gd_FT (Gd_FT (Pick_F (Gd_FT (Gd_FT (Gd_FT (Pick_F (Gd_FT (Gd_FT (Gd_FT (Pick_F ?_)))))))))))))))))))))))))))
  exact Ret.mk ⟨h.ext, rfl⟩
 by_cases n8 : 0 ≤ f.lo ∧ f.lo ≤ f.hi
 rotate_left
 ·rw [decide_eq_false (fun h : VF f => n8 h.2.2.2.2.2.2.2.1)]
  have cc8 := fun {W : World} (_ : Ext w0 W) => c_tinF (w := W) n8
  apply e_trace_ValidFact
  unfold s_trace_ValidFact
  have h := Hp.init [] w0
  refine bxA h fun g1 w h => ?_
  refine faS (Eng.ld1 h 0 rfl rfl (cl1 h n_trace_within (cc1 h.ext) fun w h => ?_))
  refine Gd_T (faS (Gd_T (Eng.ld1 h 0 rfl rfl (Gd_T (cl1 h n_trace_within (cc2 h.ext) fun w h => ?_)))))
  refine Pick_T (Gd_T (faS (Gd_T (Eng.ld1 h 0 rfl rfl (Gd_T (cl1 h n_trace_within (cc3 h.ext) fun w h => ?_))))))
  refine Pick_T (Gd_T (faS (Gd_T (Eng.ld1 h 0 rfl rfl (Gd_T (cl1 h n_trace_within (cc4 h.ext) fun w h => ?_))))))
  refine Pick_T (Gd_T (faS (Gd_T (Eng.ld1 h 0 rfl rfl (Gd_T (cl1 h n_trace_within (cc5 h.ext) fun w h => ?_))))))
  refine Pick_T (Gd_T (faS (Gd_T (Eng.ld1 h 0 rfl rfl (Gd_T (cl1 h n_trace_within (cc6 h.ext) fun w h => ?_))))))
  refine Pick_T (Gd_T (faS (Gd_T (Eng.ld1 h 0 rfl rfl (Gd_T (faS (Gd_T (Eng.ld1 h 0 rfl rfl (Gd_T (Bn_qu (by omega) (by omega) (by omega) (Gd_T (Bn_eqT (by omega) (Pick_T (Gd_T (faS (Gd_T (Eng.ld1 h 0 rfl rfl (Gd_T (faS (Gd_T (Eng.ld1 h 0 rfl rfl (Gd_T (cl1 h n_trace_within (cc8 h.ext) fun w h => ?_)))))))))))))))))))))))
  refine Pick_T (Gd_FT (Gd_FT (Gd_FT (Pick_F (Gd_FT (Gd_FT (Gd_FT (Pick_F ?_))))))))
  exact Ret.mk ⟨h.ext, rfl⟩
 have cc8 := fun {W : World} (_ : Ext w0 W) => c_tinT (w := W) n8
 by_cases n9 : f.hi ≤ 4398046511104
 rotate_left
 ·rw [decide_eq_false (fun h : VF f => n9 h.2.2.2.2.2.2.2.2.1)]
  apply e_trace_ValidFact
  unfold s_trace_ValidFact
  have h := Hp.init [] w0
  refine bxA h fun g1 w h => ?_
  refine faS (Eng.ld1 h 0 rfl rfl (cl1 h n_trace_within (cc1 h.ext) fun w h => ?_))
  refine Gd_T (faS (Gd_T (Eng.ld1 h 0 rfl rfl (Gd_T (cl1 h n_trace_within (cc2 h.ext) fun w h => ?_)))))
  refine Pick_T (Gd_T (faS (Gd_T (Eng.ld1 h 0 rfl rfl (Gd_T (cl1 h n_trace_within (cc3 h.ext) fun w h => ?_))))))
  refine Pick_T (Gd_T (faS (Gd_T (Eng.ld1 h 0 rfl rfl (Gd_T (cl1 h n_trace_within (cc4 h.ext) fun w h => ?_))))))
  refine Pick_T (Gd_T (faS (Gd_T (Eng.ld1 h 0 rfl rfl (Gd_T (cl1 h n_trace_within (cc5 h.ext) fun w h => ?_))))))
  refine Pick_T (Gd_T (faS (Gd_T (Eng.ld1 h 0 rfl rfl (Gd_T (cl1 h n_trace_within (cc6 h.ext) fun w h => ?_))))))
  refine Pick_T (Gd_T (faS (Gd_T (Eng.ld1 h 0 rfl rfl (Gd_T (faS (Gd_T (Eng.ld1 h 0 rfl rfl (Gd_T (Bn_qu (by omega) (by omega) (by omega) (Gd_T (Bn_eqT (by omega) (Pick_T (Gd_T (faS (Gd_T (Eng.ld1 h 0 rfl rfl (Gd_T (faS (Gd_T (Eng.ld1 h 0 rfl rfl (Gd_T (cl1 h n_trace_within (cc8 h.ext) fun w h => ?_)))))))))))))))))))))))
  refine Pick_T (Gd_T (faS (Gd_T (Eng.ld1 h 0 rfl rfl (Gd_T (Bn_leF (by omega) (Pick_T (Gd_FT (Gd_FT (Gd_FT (Pick_F ?_)))))))))))
  exact Ret.mk ⟨h.ext, rfl⟩
 by_cases n10 : 0 ≤ f.by' ∧ f.by' ≤ 24000
 rotate_left
 ·rw [decide_eq_false (fun h : VF f => n10 h.2.2.2.2.2.2.2.2.2)]
  have cc10 := fun {W : World} (_ : Ext w0 W) => c_tinF (w := W) n10
  apply e_trace_ValidFact
  unfold s_trace_ValidFact
  have h := Hp.init [] w0
  refine bxA h fun g1 w h => ?_
  refine faS (Eng.ld1 h 0 rfl rfl (cl1 h n_trace_within (cc1 h.ext) fun w h => ?_))
  refine Gd_T (faS (Gd_T (Eng.ld1 h 0 rfl rfl (Gd_T (cl1 h n_trace_within (cc2 h.ext) fun w h => ?_)))))
  refine Pick_T (Gd_T (faS (Gd_T (Eng.ld1 h 0 rfl rfl (Gd_T (cl1 h n_trace_within (cc3 h.ext) fun w h => ?_))))))
  refine Pick_T (Gd_T (faS (Gd_T (Eng.ld1 h 0 rfl rfl (Gd_T (cl1 h n_trace_within (cc4 h.ext) fun w h => ?_))))))
  refine Pick_T (Gd_T (faS (Gd_T (Eng.ld1 h 0 rfl rfl (Gd_T (cl1 h n_trace_within (cc5 h.ext) fun w h => ?_))))))
  refine Pick_T (Gd_T (faS (Gd_T (Eng.ld1 h 0 rfl rfl (Gd_T (cl1 h n_trace_within (cc6 h.ext) fun w h => ?_))))))
  refine Pick_T (Gd_T (faS (Gd_T (Eng.ld1 h 0 rfl rfl (Gd_T (faS (Gd_T (Eng.ld1 h 0 rfl rfl (Gd_T (Bn_qu (by omega) (by omega) (by omega) (Gd_T (Bn_eqT (by omega) (Pick_T (Gd_T (faS (Gd_T (Eng.ld1 h 0 rfl rfl (Gd_T (faS (Gd_T (Eng.ld1 h 0 rfl rfl (Gd_T (cl1 h n_trace_within (cc8 h.ext) fun w h => ?_)))))))))))))))))))))))
  refine Pick_T (Gd_T (faS (Gd_T (Eng.ld1 h 0 rfl rfl (Gd_T (Bn_leT (by omega) (Pick_T (Gd_T (faS (Gd_T (Eng.ld1 h 0 rfl rfl (Gd_T (cl1 h n_trace_within (cc10 h.ext) fun w h => ?_)))))))))))))
  refine Pick_T ?_
  exact Ret.mk ⟨h.ext, rfl⟩
 have cc10 := fun {W : World} (_ : Ext w0 W) => c_tinT (w := W) n10
 rw [decide_eq_true (show VF f from ⟨n1, n2, n3, n4, n5, n6, n7, n8, n9, n10⟩)]
 apply e_trace_ValidFact
 unfold s_trace_ValidFact
 have h := Hp.init [] w0
 refine bxA h fun g1 w h => ?_
 refine faS (Eng.ld1 h 0 rfl rfl (cl1 h n_trace_within (cc1 h.ext) fun w h => ?_))
 refine Gd_T (faS (Gd_T (Eng.ld1 h 0 rfl rfl (Gd_T (cl1 h n_trace_within (cc2 h.ext) fun w h => ?_)))))
 refine Pick_T (Gd_T (faS (Gd_T (Eng.ld1 h 0 rfl rfl (Gd_T (cl1 h n_trace_within (cc3 h.ext) fun w h => ?_))))))
 refine Pick_T (Gd_T (faS (Gd_T (Eng.ld1 h 0 rfl rfl (Gd_T (cl1 h n_trace_within (cc4 h.ext) fun w h => ?_))))))
 refine Pick_T (Gd_T (faS (Gd_T (Eng.ld1 h 0 rfl rfl (Gd_T (cl1 h n_trace_within (cc5 h.ext) fun w h => ?_))))))
 refine Pick_T (Gd_T (faS (Gd_T (Eng.ld1 h 0 rfl rfl (Gd_T (cl1 h n_trace_within (cc6 h.ext) fun w h => ?_))))))
 refine Pick_T (Gd_T (faS (Gd_T (Eng.ld1 h 0 rfl rfl (Gd_T (faS (Gd_T (Eng.ld1 h 0 rfl rfl (Gd_T (Bn_qu (by omega) (by omega) (by omega) (Gd_T (Bn_eqT (by omega) (Pick_T (Gd_T (faS (Gd_T (Eng.ld1 h 0 rfl rfl (Gd_T (faS (Gd_T (Eng.ld1 h 0 rfl rfl (Gd_T (cl1 h n_trace_within (cc8 h.ext) fun w h => ?_)))))))))))))))))))))))
 refine Pick_T (Gd_T (faS (Gd_T (Eng.ld1 h 0 rfl rfl (Gd_T (Bn_leT (by omega) (Pick_T (Gd_T (faS (Gd_T (Eng.ld1 h 0 rfl rfl (Gd_T (cl1 h n_trace_within (cc10 h.ext) fun w h => ?_)))))))))))))
 refine Pick_T ?_
 exact Ret.mk ⟨h.ext, rfl⟩
theorem c_cmpJ {w0 : World} {a b : Int} : Calls Tryz.prog 135 #[.int .i64 a, .int .i64 b] w0 (Ret fun r w' => Ext w0 w' ∧ r = .int .i64 (cmpI a b)) := by
 have cn : ∀ {W : World} {x : Int}, Calls Tryz.prog 164 #[.int .i64 x] W (Ret fun r w' => Ext W w' ∧ r = .bool false) := fun {W x} => by
  refine (Tryz.cmp_isNaN_int x W).mono ?_
  rintro _ w' ⟨rfl, rfl⟩
  exact Ret.mk ⟨.refl _, rfl⟩
 have cc1 := fun {W : World} (_ : Ext w0 W) => cn (W := W) (x := a)
 have cc2 := fun {W : World} (_ : Ext w0 W) => cn (W := W) (x := b)
 by_cases h1 : a < b
 ·rw [show cmpI a b = -1 by unfold cmpI; rw [if_pos h1]]
  apply e_cmp_Compare_int
  unfold s_cmp_Compare_int
  have h := Hp.init [] w0
  refine cl1 h n_cmp_isNaN_int (cc1 h.ext) fun w h => ?_
  refine cl1 h n_cmp_isNaN_int (cc2 h.ext) fun w h => ?_
  refine If_F (If_F (Bn_ltT (by omega) (If_T ?_)))
  exact Ret.mk ⟨h.ext, rfl⟩
 by_cases h2 : b < a
 ·rw [show cmpI a b = 1 by unfold cmpI; rw [if_neg h1, if_pos h2]]
  apply e_cmp_Compare_int
  unfold s_cmp_Compare_int
  have h := Hp.init [] w0
  refine cl1 h n_cmp_isNaN_int (cc1 h.ext) fun w h => ?_
  refine cl1 h n_cmp_isNaN_int (cc2 h.ext) fun w h => ?_
  refine If_F (If_F (Bn_ltF (by omega) (If_F (Bn_gtT (by omega) (If_T ?_)))))
  exact Ret.mk ⟨h.ext, rfl⟩
 rw [show cmpI a b = 0 by unfold cmpI; rw [if_neg h1, if_neg h2]]
 apply e_cmp_Compare_int
 unfold s_cmp_Compare_int
 have h := Hp.init [] w0
 refine cl1 h n_cmp_isNaN_int (cc1 h.ext) fun w h => ?_
 refine cl1 h n_cmp_isNaN_int (cc2 h.ext) fun w h => ?_
 refine If_F (If_F (Bn_ltF (by omega) (If_F (Bn_gtF (by omega) (If_F ?_)))))
 exact Ret.mk ⟨h.ext, rfl⟩
def orI (a b : Int) : Int := if a ≠ 0 then a else b
theorem c_Or {w0 : World} {v : Value} {a b : Int} (hv : SlC w0 1 v 2 [.int .i64 a, .int .i64 b]) : Calls Tryz.prog 134 #[v] w0 (Ret fun r w' => Ext w0 w' ∧ r = .int .i64 (orI a b)) := by
 have s0 : Seg [.int .i64 a, .int .i64 b] (0 * 1) [.int .i64 a] := by
  intro k v hk
  rcases k with _ | k
  ·exact hk
  ·simp at hk
 have s1 : Seg [.int .i64 a, .int .i64 b] (1 * 1) [.int .i64 b] := by
  intro k v hk
  rcases k with _ | k
  ·exact hk
  ·simp at hk
 obtain ⟨z, hz⟩ : ∃ z, orI a b = z := ⟨_, rfl⟩
 rw [hz]
 apply e_cmp_Or_int
 unfold s_cmp_Or_int
 have h := Hp.init [] w0
 refine leS (hv.hp h) ?_
 refine Lp1.mk (fun i W => ∃ j : Nat, j ≤ 2 ∧ i = .int .i64 j ∧ (1 ≤ j → a = 0) ∧ (2 ≤ j → b = 0) ∧ Hp [] w0 W [])
  (fun i _ => match i with | .int _ i' => 2 - i'.toNat | _ => 0) ⟨0, by omega, rfl, by omega, by omega, h⟩ ?_
 clear h
 rintro _ W ⟨j, hj, rfl, ha, hb, h⟩
 rcases (show j = 0 ∨ j = 1 ∨ j = 2 by omega) with rfl | rfl | rfl
 ·by_cases h0 : a = 0
  ·refine Bn_ltT (by omega) (If_T (iaH h ‹_› (by omega) fun zb zo zk zv zc => ?_))
   refine lh0 h ‹_› ‹_› (by rfl) ?_
   refine Bn_neF (by omega) (If_F (Bn_ad (by omega) (by omega) ?_))
   exact ⟨⟨1, by omega, rfl, fun _ => h0, by omega, h⟩, by decide⟩
  ·have e : z = a := by rw [← hz]; unfold orI; rw [if_pos h0]
   subst e
   refine Bn_ltT (by omega) (If_T (iaH h ‹_› (by omega) fun zb zo zk zv zc => ?_))
   refine lh0 h ‹_› ‹_› (by rfl) ?_
   refine Bn_neT (by omega) (If_T ?_)
   exact Ret.mk ⟨h.ext, rfl⟩
 ·have ha := ha (by omega)
  by_cases h0 : b = 0
  ·refine Bn_ltT (by omega) (If_T (iaH h ‹_› (by omega) fun zb zo zk zv zc => ?_))
   refine lh0 h ‹_› ‹_› (by rfl) ?_
   refine Bn_neF (by omega) (If_F (Bn_ad (by omega) (by omega) ?_))
   exact ⟨⟨2, by omega, rfl, fun _ => ha, fun _ => h0, h⟩, by decide⟩
  ·have e : z = b := by rw [← hz]; unfold orI; rw [if_neg (by simp [ha])]
   subst e
   refine Bn_ltT (by omega) (If_T (iaH h ‹_› (by omega) fun zb zo zk zv zc => ?_))
   refine lh0 h ‹_› ‹_› (by rfl) ?_
   refine Bn_neT (by omega) (If_T ?_)
   exact Ret.mk ⟨h.ext, rfl⟩
 ·have e : z = 0 := by rw [← hz]; unfold orI; rw [if_neg (by simp [ha (by omega)])]; exact hb (by omega)
  subst e
  refine Bn_ltF (by omega) (If_F ?_)
  exact Ret.mk ⟨h.ext, rfl⟩
def plZ (f g : Ft) : Int := orI (cmpI f.tr g.tr) (cmpI f.sp g.sp)
abbrev ltF (f g : Ft) : Prop := f.tr < g.tr ∨ (f.tr = g.tr ∧ f.sp < g.sp)
theorem plZ_lt (f g : Ft) : plZ f g < 0 ↔ ltF f g := by
 unfold plZ orI ltF
 rcases Int.lt_trichotomy f.tr g.tr with h | h | h
 ·rw [cmpI_lt h, if_pos (by decide)]
  exact ⟨fun _ => .inl h, fun _ => by decide⟩
 ·rw [cmpI_eq h, if_neg (by simp)]
  rcases Int.lt_trichotomy f.sp g.sp with h2 | h2 | h2
  ·rw [cmpI_lt h2]
   exact ⟨fun _ => .inr ⟨h, h2⟩, fun _ => by decide⟩
  ·rw [cmpI_eq h2]
   exact ⟨fun h => absurd h (by decide), fun h => by omega⟩
  ·rw [cmpI_gt h2]
   exact ⟨fun h => absurd h (by decide), fun h => by omega⟩
 ·rw [cmpI_gt h, if_pos (by decide)]
  exact ⟨fun h => absurd h (by decide), fun h => by omega⟩
set_option maxHeartbeats 1000000 in
theorem c_byPl {w0 : World} {f g : Ft} : Calls Tryz.prog 93 #[vF f, vF g] w0 (Ret fun r w' => Ext w0 w' ∧ r = .int .i64 (plZ f g)) := by
 have cc1 := fun {W : World} (_ : Ext w0 W) => c_cmpJ (w0 := W) (a := f.tr) (b := g.tr)
 have cc2 := fun {W : World} (_ : Ext w0 W) => c_cmpJ (w0 := W) (a := f.sp) (b := g.sp)
 apply e_trace_byPlace
 unfold s_trace_byPlace
 have h := Hp.init [] w0
 refine bxA h fun g1 w h => ?_
 refine bxA h fun g2 w h => ?_
 replace h := h.dr
 refine dfS (dl1 h 1 rfl rfl (dfS (dl1 h 0 rfl rfl (dfS (dl1 h 1 rfl rfl (dfS (dl1 h 0 rfl rfl (cl1 h n_cmp_Compare_int (cc1 h.ext) fun w h => ?_))))))))
 refine kl1 h 1 rfl rfl (kl1 h 0 rfl rfl (cl1 h n_cmp_Compare_int (cc2 h.ext) fun w h => ?_))
 refine bsN (vs := [_, _]) h (.cons (by rfl) (by rfl) (.cons (by rfl) (by rfl) .nil)) (by rfl) (by rfl) (by decide) (by decide) (by decide) fun v1 w h => ?_
 refine Cl_i n_cmp_Or_int (c_Or (qZ 0 h rfl)) ?_
 rintro _ w' ⟨x, rfl⟩
 have h := h.x x
 exact Ret.mk ⟨h.ext, rfl⟩
def OrdF (l : List Ft) : Prop := ∀ i a b, l[i]? = some a → l[i + 1]? = some b → ltF a b
def VFs (l : List Ft) : Prop := l.length ≤ 400 ∧ (∀ f ∈ l, VF f) ∧ OrdF l
open Classical in
noncomputable def okF (l : List Ft) : Bool := decide (VFs l)
theorem okF_t {l : List Ft} (h : VFs l) : okF l = true := by unfold okF; simp [h]
theorem okF_f {l : List Ft} (h : ¬ VFs l) : okF l = false := by unfold okF; simp [h]
structure Fk (w : World) (v : Value) (l : List Ft) : Prop where
 hv : SlC w 10 v l.length (l.flatMap fF)
 hi : ∀ f ∈ l, FI f
 hl : l.length ≤ 1000000000
theorem Fk.ext {w w' : World} {v : Value} {l : List Ft} (h : Fk w v l) (x : Ext w w') : Fk w' v l := ⟨h.hv.ext x, h.hi, h.hl⟩
section
variable {w0 : World} {v : Value} {l : List Ft} (hF : Fk w0 v l)
include hF
set_option maxHeartbeats 4000000 in
theorem c_sorted (ho : OrdF l) : Calls Tryz.prog 94 #[v, .func (.func 93) #[] #[]] w0 (Ret fun r w' => Ext w0 w' ∧ r = .bool true) := by
 obtain ⟨hv, hi, hl⟩ := hF
 apply e_slices_IsSortedFunc_api_Fact_api_Fact
 unfold s_slices_IsSortedFunc_api_Fact_api_Fact
 have h := Hp.init [] w0
 refine leS (hv.hp h) ?_
 refine Bn_su (by omega) (by omega) ?_
 refine Lp1.mk (fun i W => ∃ z : Int, -1 ≤ z ∧ z < l.length ∧ i = .int .i64 z ∧ Hp [] w0 W [])
  (fun i _ => match i with | .int _ i' => (i' + 1).toNat | _ => 0) ⟨_, by omega, by omega, rfl, h⟩ ?_
 clear h
 rintro _ W ⟨z, hz0, hz1, rfl, h⟩
 by_cases hz : 0 < z
 ·refine Exists.elim (p := fun k : Nat => z = ((k + 1 : Nat) : Int)) ⟨(z - 1).toNat, by omega⟩ fun k hk => ?_
  subst hk
  refine Exists.elim (p := fun x => l[k + 1]? = some x) ⟨_, List.getElem?_eq_getElem (by omega)⟩ fun x hx => ?_
  refine Exists.elim (p := fun x => l[k]? = some x) ⟨_, List.getElem?_eq_getElem (by omega)⟩ fun y hy => ?_
  have sx : Seg (l.flatMap fF) ((k + 1) * 10) (fF x) := flat_seg (f := fF) (fun _ => rfl) hx
  have sy : Seg (l.flatMap fF) ((((k + 1 : Nat) : Int) - 1).toNat * 10) (fF y) := by
   rw [show (((k + 1 : Nat) : Int) - 1).toNat = k by omega]
   exact flat_seg (f := fF) (fun _ => rfl) hy
  have hlt := ho k y x hy hx
  have hn : ¬ plZ x y < 0 := fun h => by
   have := (plZ_lt x y).1 h
   omega
  have cc1 := fun {W : World} (_ : Ext w0 W) => c_byPl (w0 := W) (f := x) (g := y)
  refine Bn_gtT (by omega) (If_T ?_)
  replace h := h.dr
  refine diH h ‹_› (by omega) fun zb zo zk zv zc => ?_
  refine dhA h ‹_› ‹_› (by rfl) ?_
  refine Dv_su (by omega) (by omega) (diHz h ‹_› (by omega) (by omega) fun zb zo zk zv zc => ?_)
  refine dhA h ‹_› ‹_› (by rfl) ?_
  refine cw1 h n_trace_byPlace (cc1 h.ext) fun w h => ?_
  refine Dv_ltF (by omega) (If_F (Bn_su (by omega) (by omega) ?_))
  exact ⟨⟨_, by omega, by omega, rfl, h⟩, by show ((((k + 1 : Nat) : Int) - 1) + 1).toNat < (((k + 1 : Nat) : Int) + 1).toNat; omega⟩
 ·refine Bn_gtF (by omega) (If_F ?_)
  exact Ret.mk ⟨h.ext, rfl⟩
set_option maxHeartbeats 4000000 in
theorem c_VFs : Calls Tryz.prog 58 #[v] w0 (Ret fun r w' => Ext w0 w' ∧ r = .bool (okF l)) := by
 have hso := fun {W : World} (e : Ext w0 W) ho => c_sorted (w0 := W) (hF.ext e) ho
 obtain ⟨hv, hi, hl⟩ := hF
 obtain ⟨b, hb⟩ : ∃ b, okF l = b := ⟨_, rfl⟩
 rw [hb]
 apply e_trace_ValidFacts
 unfold s_trace_ValidFacts
 have h := Hp.init [] w0
 refine leS (hv.hp h) ?_
 refine Lp1.mk (fun i W => ∃ j : Nat, j ≤ l.length ∧ i = .int .i64 j ∧ (∀ x ∈ l.take j, VF x) ∧ (∀ i a b, i + 1 < j → l[i]? = some a → l[i + 1]? = some b → ltF a b) ∧ Hp [] w0 W [])
  (fun i _ => match i with | .int _ i' => l.length - i'.toNat | _ => 0) ⟨0, by omega, rfl, by simp, by omega, h⟩ ?_
 clear h
 rintro _ W ⟨j, hj, rfl, hall, hord, h⟩
 by_cases hjl : j < l.length
 ·refine Exists.elim (p := fun x => l[j]? = some x) ⟨_, List.getElem?_eq_getElem hjl⟩ fun x hx => ?_
  have sx : Seg (l.flatMap fF) (j * 10) (fF x) := flat_seg (f := fF) (fun _ => rfl) hx
  have hxm := List.mem_of_getElem? hx
  have hvf := fun {W : World} (_ : Ext w0 W) => c_VF (w0 := W) (hi x hxm)
  by_cases hxv : VF x
  rotate_left
  ·rw [decide_eq_false hxv] at hvf
   have cc1 := @hvf
   have hb : b = false := by rw [← hb]; exact okF_f fun h => hxv (h.2.1 x hxm)
   subst hb
   refine Bn_ltT (by omega) (If_T (iaH h ‹_› (by omega) fun zb zo zk zv zc => ?_))
   refine lhA h ‹_› ‹_› (by rfl) ?_
   refine alS h fun g1 w h => ?_
   refine stA h 0 rfl rfl rfl rfl fun w h => ?_
   replace h := h.dr
   refine dlA h 0 rfl rfl ?_
   refine cl1 h n_trace_ValidFact (cc1 h.ext) fun w h => ?_
   refine Dv_nF (GdP_TF (GdP_TF (GdP_TF (GdP_U (GdP_U (GdP_U (GdP_U (GdP_U (GdP_U (Gd_U (GdP_U (GdP_TF (PickP_T (If_T ?_))))))))))))))
   dsimp only [List.set] at h
   exact Ret.mk ⟨h.ext, rfl⟩
  rw [decide_eq_true hxv] at hvf
  have cc1 := @hvf
  have hall' : ∀ y ∈ l.take (j + 1), VF y := fun y hy => by
   rw [take_snoc hx] at hy
   rcases List.mem_append.1 hy with hy | hy
   ·exact hall y hy
   ·rw [List.mem_singleton] at hy; rw [hy]; exact hxv
  by_cases hj0 : j = 0
  ·subst hj0
   refine Bn_ltT (by omega) (If_T (iaH h ‹_› (by omega) fun zb zo zk zv zc => ?_))
   refine lhA h ‹_› ‹_› (by rfl) ?_
   refine alS h fun g1 w h => ?_
   refine stA h 0 rfl rfl rfl rfl fun w h => ?_
   replace h := h.dr
   refine dlA h 0 rfl rfl ?_
   refine cl1 h n_trace_ValidFact (cc1 h.ext) fun w h => ?_
   refine Dv_nT (GdP_F (GdP_F (Dv_gtF (by omega) (GdP_F (GdP_FT (GdP_FT (GdP_FT (GdP_FT (GdP_FT (GdP_FT (Gd_FT (GdP_FT (GdP_F (PickP_F (PickP_F (If_F (Bn_ad (by omega) (by omega) ?_)))))))))))))))))
   dsimp only [List.set] at h
   exact ⟨⟨0 + 1, by omega, rfl, hall', by omega, h.drop 1⟩, by show l.length - (((0 : Nat) : Int) + 1).toNat < l.length - ((0 : Nat) : Int).toNat; omega⟩
  refine Exists.elim (p := fun k : Nat => j = k + 1) ⟨j - 1, by omega⟩ fun k hk => ?_
  subst hk
  refine Exists.elim (p := fun x => l[k]? = some x) ⟨_, List.getElem?_eq_getElem (by omega)⟩ fun y hy => ?_
  have sy : Seg (l.flatMap fF) ((((k + 1 : Nat) : Int) - 1).toNat * 10) (fF y) := by
   rw [show (((k + 1 : Nat) : Int) - 1).toNat = k by omega]
   exact flat_seg (f := fF) (fun _ => rfl) hy
  have cc2 := fun {W : World} (_ : Ext w0 W) => c_byPl (w0 := W) (f := y) (g := x)
  by_cases hlt : plZ y x < 0
  ·have hlt2 := (plZ_lt y x).1 hlt
   refine Bn_ltT (by omega) (If_T (iaH h ‹_› (by omega) fun zb zo zk zv zc => ?_))
   refine lhA h ‹_› ‹_› (by rfl) ?_
   refine alS h fun g1 w h => ?_
   refine stA h 0 rfl rfl rfl rfl fun w h => ?_
   replace h := h.dr
   refine dlA h 0 rfl rfl ?_
   refine cl1 h n_trace_ValidFact (cc1 h.ext) fun w h => ?_
   refine Dv_nT (GdP_F (GdP_F (Dv_gtT (by omega) (GdP_F (GdP_T (GdP_T (GdP_T (Dv_su (by omega) (by omega) (GdP_T (diHz h ‹_› (by omega) (by omega) fun zb zo zk zv zc => ?_))))))))))
   refine GdP_T (dhA h ‹_› ‹_› (by rfl) ?_)
   refine GdP_T (dlA h 0 rfl rfl ?_)
   refine Gd_T (cl1 h n_trace_byPlace (cc2 h.ext) fun w h => ?_)
   refine GdP_T (Dv_geF (by omega) (GdP_F (PickP_T (PickP_F (If_F (Bn_ad (by omega) (by omega) ?_))))))
   dsimp only [List.set] at h
   refine ⟨⟨k + 1 + 1, by omega, rfl, hall', fun i a b hi ha hb => ?_, h.drop 1⟩, by show l.length - (((k + 1 : Nat) : Int) + 1).toNat < l.length - ((k + 1 : Nat) : Int).toNat; omega⟩
   by_cases e : i = k
   ·subst e
    rw [hy] at ha
    rw [hx] at hb
    cases ha; cases hb
    exact hlt2
   ·exact hord i a b (by omega) ha hb
  ·have hb : b = false := by rw [← hb]; exact okF_f fun h => hlt ((plZ_lt y x).2 (h.2.2 k y x hy hx))
   subst hb
   refine Bn_ltT (by omega) (If_T (iaH h ‹_› (by omega) fun zb zo zk zv zc => ?_))
   refine lhA h ‹_› ‹_› (by rfl) ?_
   refine alS h fun g1 w h => ?_
   refine stA h 0 rfl rfl rfl rfl fun w h => ?_
   replace h := h.dr
   refine dlA h 0 rfl rfl ?_
   refine cl1 h n_trace_ValidFact (cc1 h.ext) fun w h => ?_
   refine Dv_nT (GdP_F (GdP_F (Dv_gtT (by omega) (GdP_F (GdP_T (GdP_T (GdP_T (Dv_su (by omega) (by omega) (GdP_T (diHz h ‹_› (by omega) (by omega) fun zb zo zk zv zc => ?_))))))))))
   refine GdP_T (dhA h ‹_› ‹_› (by rfl) ?_)
   refine GdP_T (dlA h 0 rfl rfl ?_)
   refine Gd_T (cl1 h n_trace_byPlace (cc2 h.ext) fun w h => ?_)
   refine GdP_T (Dv_geT (by omega) (GdP_F (PickP_T (PickP_F (If_T ?_)))))
   dsimp only [List.set] at h
   exact Ret.mk ⟨h.ext, rfl⟩
 have e : j = l.length := by omega
 subst e
 rw [List.take_length] at hall
 have ho : OrdF l := fun i a b ha hb => hord i a b (List.getElem?_eq_some_iff.1 hb).1 ha hb
 by_cases h400 : l.length ≤ 400
 ·have hb : b = true := by rw [← hb]; exact okF_t ⟨h400, hall, ho⟩
  subst hb
  have cc3 := fun {W : World} (e : Ext w0 W) => hso e ho
  refine Bn_ltF (by omega) (If_F (leS (hv.hp h) ?_))
  refine Bn_leT (by omega) (Gd_T (Gd_T (cl1 h n_slices_IsSortedFunc_api_Fact_api_Fact (cc3 h.ext) fun w h => ?_)))
  refine Pick_T ?_
  exact Ret.mk ⟨h.ext, rfl⟩
 ·have hb : b = false := by rw [← hb]; exact okF_f fun h => h400 h.1
  subst hb
  refine Bn_ltF (by omega) (If_F (leS (hv.hp h) ?_))
  refine Bn_leF (by omega) (Gd_FT (Gd_FT (Pick_F ?_)))
  exact Ret.mk ⟨h.ext, rfl⟩
end
end Go.Proofs.YtnkmbjedcjcccaaGreatDoor
namespace Go.Proofs.YtnkmbjedcjcccaaGreatDoor
open Go Go.Eng Go.Proofs Go.Num Go.RowKit
open Go.Alm (Ft Wt Sm VW VA dn fct)
set_option maxRecDepth 100000
theorem apd {a b : Value} : (#[] : Array Value) ++ #[a] ++ #[b] = #[a, b] := by simp
theorem apd2 {a b c : Value} : (#[] : Array Value) ++ #[a] ++ #[b, c] = #[a, b, c] := by simp
theorem grid12 {x : Rat} (hx : SR 99 99 x) : gridQ false 12 x = rQ (dn x) := by
 have hB : RB x := hx.rb (by decide) (by decide)
 have h1 : (x.num * ten 12).natAbs < MaxI := by
  have h2 := Sz.mul hx.1 (show Sz 13 (ten 12) by unfold Sz; decide)
  exact h2.max (by decide)
 have eN : gridN false x 12 = (x.num * ten 12) / (x.den : Int) := by
  unfold gridN
  rw [if_neg (by simp)]
 unfold gridQ
 rw [if_pos ⟨⟨by decide, by decide⟩, h1, by rw [eN]; exact ediv_max h1⟩, eN]
 congr 1
 rw [Alm.dn_eq]
 rfl
section
variable {w : World} {x : Rat}
theorem k_down (hx : SR 99 99 x) (hT : Tab w) : Calls Tryz.prog 60 #[vR (tx x), .int .i64 12] w (Ret fun r w' => Ext w w' ∧ r = .tuple #[vR (tx (dn x)), .int .i64 0]) := by
 have hB : RB x := hx.rb (by decide) (by decide)
 have := c_qDown (w := w) (k := 12) (itoa_ok hB.n) (itoa_ok hB.d) hT
 rw [ans1_ok hB, grid12 hx] at this
 exact this
end
abbrev xL (late : Bool) : Rat := if late then 1 else 0
theorem xL_SR (late : Bool) : SR 1 1 (xL late) := by
 cases late
 ·exact ⟨by unfold Sz; decide, by unfold Sz; decide⟩
 ·exact ⟨by unfold Sz; decide, by unfold Sz; decide⟩
theorem one_SR : SR 1 1 (1 : Rat) := ⟨by unfold Sz; decide, by unfold Sz; decide⟩
section
variable {w : Wt} (sm : Sm 1 w.mu) (sb : Sm 1000 w.bet)
include sm sb
theorem d_SR (late : Bool) : SR 6 5 (xL late - w.mu) := SR.sub (k := 5) (xL_SR late) (Sm.sr1 sm) (by decide) (by decide)
theorem p_SR (late : Bool) : SR 13 9 (w.bet * (xL late - w.mu)) := SR.mul (Sm.sr3 sb) (d_SR sm sb late)
theorem f_SR (late : Bool) : SR 15 10 (fct w late) := SR.add (k := 14) one_SR (p_SR sm sb late) (by decide) (by decide)
end
abbrev tWp : TypeId := 101
section
variable {w0 : World} {b gr o : Nat} {w : Wt} (hE : En w0) (sm : Sm 1 w.mu) (sb : Sm 1000 w.bet)
include hE sm sb
set_option maxHeartbeats 2000000 in
theorem c_bet1 (hb : Blk w0 b tWp [pr gr o]) (hc : CellsAt w0 gr o (fW (wr w))) (late : Bool) : Calls Tryz.prog 95 #[vR (tx (xL late)), pr b 0] w0 (Ret fun r w' => Ext w0 w' ∧ r = vR (tx (fct w late))) := by
 have z1 := hE.z1
 have sg3 : Seg (fW (wr w)) 3 [str (tx w.mu).1, str (tx w.mu).2] := by
  intro k v hk
  rcases k with _ | _ | k
  ·exact hk
  ·exact hk
  ·simp at hk
 have sg7 : Seg (fW (wr w)) 7 [str (tx w.bet).1, str (tx w.bet).2] := by
  intro k v hk
  rcases k with _ | _ | k
  ·exact hk
  ·exact hk
  ·simp at hk
 have cc1 := fun {W : World} (e : Ext w0 W) => k_sub (w := W) (k := 5) (xL_SR late) (Sm.sr1 sm) (by decide) (by decide) (by decide) (by decide) (hE.hT.ext e)
 have cc2 := fun {W : World} (e : Ext w0 W) => k_mul (w := W) (Sm.sr3 sb) (d_SR sm sb late) (by decide) (by decide) (hE.hT.ext e)
 have cc3 : ∀ {W : World}, Ext w0 W → Calls Tryz.prog 35 #[.agg #[str [49], str [49]], vR (tx (w.bet * (xL late - w.mu)))] W (Ret fun r w' => Ext W w' ∧ r = .tuple #[vR (tx (fct w late)), .int .i64 0]) := fun {W} e => by
  have := k_add (w := W) (k := 14) one_SR (p_SR sm sb late) (by decide) (by decide) (by decide) (by decide) (hE.hT.ext e)
  rw [tx1] at this
  exact this
 have cc4 := fun {W : World} (_ : Ext w0 W) {x : Rat} => c_must (w := W) (p := tx x)
 apply e_alarm_bet_1
 unfold s_alarm_bet_1
 have h := Hp.init [] w0
 refine bxA h fun g1 w h => ?_
 refine alS h fun g2 w h => ?_
 replace h := h.dr
 refine dgA h ‹_› (by rfl) ?_
 refine dg1 h ‹_› (by rfl) ?_
 refine NcP_ok ?_
 refine dfS (dhA h ‹_› ‹_› (by rfl) ?_)
 refine dlA h 1 rfl rfl ?_
 refine dg1 h ‹_› (by rfl) ?_
 refine NcP_ok ?_
 refine dfS (dhA h ‹_› ‹_› (by rfl) ?_)
 refine cl1 h n_rational_Sub (cc1 h.ext) fun w h => ?_
 refine kgA h ‹_› (by rfl) ?_
 refine kg1 h ‹_› (by rfl) ?_
 refine khA h ‹_› ‹_› (by rfl) ?_
 refine ExP2 (cl1 h n_alarm_must (cc4 h.ext) fun w h => ?_)
 refine kgA h ‹_› (by rfl) ?_
 refine kg1 h ‹_› (by rfl) ?_
 refine khA h ‹_› ‹_› (by rfl) ?_
 refine cl1 h n_rational_Mul (cc2 h.ext) fun w h => ?_
 refine kgA h ‹_› (by rfl) ?_
 refine ExP2 (cl1 h n_alarm_must (cc4 h.ext) fun w h => ?_)
 refine kgA h ‹_› (by rfl) ?_
 refine cl1 h n_rational_Add (cc3 h.ext) fun w h => ?_
 refine ExP2 (cl1 h n_alarm_must (cc4 h.ext) fun w h => ?_)
 refine stA h 0 rfl rfl rfl rfl fun w h => ?_
 refine rcA h 0 rfl rfl ?_
 dsimp only [List.set] at h
 exact Ret.mk ⟨h.ext, rfl⟩
theorem c_bet2 {g1 g2 : Nat} {p q : RS} {W : World} (h1 : Blk W g1 tR (fR p)) (h2 : Blk W g2 tR (fR q)) (late : Bool) : Calls Tryz.prog 96 #[.bool late, pr g1 0, pr g2 0] W (Ret fun r w' => Ext W w' ∧ r = vR (if late then p else q)) := by
 cases late with
 | false =>
  apply e_alarm_bet_2
  unfold s_alarm_bet_2
  have h := Hp.init [] W
  refine alS h fun g3 w h => ?_
  refine If_F (lgA h ‹_› (by rfl) ?_)
  refine stA h 0 rfl rfl rfl rfl fun w h => ?_
  refine rcA h 0 rfl rfl ?_
  dsimp only [List.set] at h
  exact Ret.mk ⟨h.ext, rfl⟩
 | true =>
  apply e_alarm_bet_2
  unfold s_alarm_bet_2
  have h := Hp.init [] W
  refine alS h fun g3 w h => ?_
  refine If_T (lgA h ‹_› (by rfl) ?_)
  refine stA h 0 rfl rfl rfl rfl fun w h => ?_
  refine rcA h 0 rfl rfl ?_
  dsimp only [List.set] at h
  exact Ret.mk ⟨h.ext, rfl⟩
set_option maxHeartbeats 4000000 in
theorem c_bet (hc : CellsAt w0 gr o (fW (wr w))) : Calls Tryz.prog 59 #[pr gr o] w0 (Ret fun r w' => ∃ g1 g2, r = .func (.func 96) #[] #[pr g1 0, pr g2 0] ∧ Hp [] w0 w' [bx g1 tR (fR (tx (fct w true))), bx g2 tR (fR (tx (fct w false)))]) := by
 suffices main : ∀ (R : Ending → World → Prop), (∀ g1 g2 W, Hp [] w0 W [bx g1 tR (fR (tx (fct w true))), bx g2 tR (fR (tx (fct w false)))] → R (.returned (.func (.func 96) #[] #[pr g1 0, pr g2 0])) W) → s_alarm_bet Tryz.prog (pr gr o) w0 R from
  e_alarm_bet (main _ fun g1 g2 W h => Ret.mk ⟨g1, g2, rfl, h⟩)
 intro R lf1
 have hE0 := hE
 unfold s_alarm_bet
 have h := Hp.init [] w0
 refine bx1 h rfl fun g w h => ?_
 have x := h.ext
 have hb := (h.get (i := 0) rfl : Blk _ _ _ _)
 obtain ⟨p0, hp0⟩ : ∃ p : RS, p = ([48], [49]) := ⟨_, rfl⟩
 obtain ⟨p1, hp1⟩ : ∃ p : RS, p = ([49], [49]) := ⟨_, rfl⟩
 have z0 : Blk w 1 25 [str p0.1, str p0.2] := by rw [hp0]; exact (hE.ext x).z0
 have z1 : Blk w 0 25 [str p1.1, str p1.2] := by rw [hp1]; exact (hE.ext x).z1
 have lf2 := fun g1 g2 W (h' : Hp [] w W [bx g1 tR (fR (tx (fct _ true))), bx g2 tR (fR (tx (fct _ false)))]) => lf1 g1 g2 W ((h.cat2 h' bx_sm bx_sm).pick [0, 1] (by decide) rfl)
 have hc := CellsAt.ext hc x
 have hE := hE.ext x
 have cc1 : ∀ {W : World}, Ext w W → Calls Tryz.prog 95 ((#[] : Array Value) ++ #[vR p1] ++ #[pr g 0]) W (Ret fun r w' => Ext W w' ∧ r = vR (tx (fct _ true))) := fun {W} e => by
  have := c_bet1 (hE.ext e) sm sb (hb.ext e) (CellsAt.ext hc e) true
  rw [show tx (xL true) = p1 by rw [hp1]; exact tx1] at this
  rw [apd]
  exact this
 have cc2 : ∀ {W : World}, Ext w W → Calls Tryz.prog 95 ((#[] : Array Value) ++ #[vR p0] ++ #[pr g 0]) W (Ret fun r w' => Ext W w' ∧ r = vR (tx (fct _ false))) := fun {W} e => by
  have := c_bet1 (hE.ext e) sm sb (hb.ext e) (CellsAt.ext hc e) false
  rw [show tx (xL false) = p0 by rw [hp0]; exact tx0] at this
  rw [apd]
  exact this
 clear hp0 hp1
 clear lf1 h
 have h := Hp.init [] w
 replace h := h.dr
 refine dgA h ‹_› (by rfl) ?_
 refine dgA h ‹_› (by rfl) ?_
 refine ⟨?_, ?_⟩
 refine cw1 h n_alarm_bet_1 (cc1 h.ext) fun w h => ?_
 refine kgA h ‹_› (by rfl) ?_
 refine ⟨?_, ?_⟩
 refine cw1 h n_alarm_bet_1 (cc2 h.ext) fun w h => ?_
 refine ⟨?_, ?_⟩
 refine alS h fun g1 w h => ?_
 refine kgA h ‹_› (by rfl) ?_
 refine kgA h ‹_› (by rfl) ?_
 refine alS h fun g2 w h => ?_
 refine kgA h ‹_› (by rfl) ?_
 refine kgA h ‹_› (by rfl) ?_
 refine stA h 1 rfl rfl rfl rfl fun w h => ?_
 refine stA h 0 rfl rfl rfl rfl fun w h => ?_
 exact lf2 _ _ _ (h.pick [1, 0] (by decide) rfl)
 refine alS h fun g1 w h => ?_
 refine kgA h ‹_› (by rfl) ?_
 refine kgA h ‹_› (by rfl) ?_
 refine alS h fun g2 w h => ?_
 refine kgA h ‹_› (by rfl) ?_
 refine kgA h ‹_› (by rfl) ?_
 refine stA h 0 rfl rfl rfl rfl fun w h => ?_
 refine stA h 1 rfl rfl rfl rfl fun w h => ?_
 exact lf2 _ _ _ h
 refine ⟨?_, ?_⟩
 refine alS h fun g1 w h => ?_
 refine kgA h ‹_› (by rfl) ?_
 refine kgA h ‹_› (by rfl) ?_
 refine ⟨?_, ?_⟩
 refine cw1 h n_alarm_bet_1 (cc2 h.ext) fun w h => ?_
 refine alS h fun g2 w h => ?_
 refine kgA h ‹_› (by rfl) ?_
 refine kgA h ‹_› (by rfl) ?_
 refine stA h 1 rfl rfl rfl rfl fun w h => ?_
 refine stA h 0 rfl rfl rfl rfl fun w h => ?_
 exact lf2 _ _ _ (h.pick [1, 0] (by decide) rfl)
 refine alS h fun g2 w h => ?_
 refine kgA h ‹_› (by rfl) ?_
 refine kgA h ‹_› (by rfl) ?_
 refine cw1 h n_alarm_bet_1 (cc2 h.ext) fun w h => ?_
 refine stA h 1 rfl rfl rfl rfl fun w h => ?_
 refine stA h 0 rfl rfl rfl rfl fun w h => ?_
 exact lf2 _ _ _ (h.pick [1, 0] (by decide) rfl)
 refine alS h fun g1 w h => ?_
 refine kgA h ‹_› (by rfl) ?_
 refine kgA h ‹_› (by rfl) ?_
 refine ⟨?_, ?_⟩
 refine cw1 h n_alarm_bet_1 (cc2 h.ext) fun w h => ?_
 refine alS h fun g2 w h => ?_
 refine kgA h ‹_› (by rfl) ?_
 refine kgA h ‹_› (by rfl) ?_
 refine stA h 0 rfl rfl rfl rfl fun w h => ?_
 refine stA h 1 rfl rfl rfl rfl fun w h => ?_
 exact lf2 _ _ _ h
 refine alS h fun g2 w h => ?_
 refine kgA h ‹_› (by rfl) ?_
 refine kgA h ‹_› (by rfl) ?_
 refine cw1 h n_alarm_bet_1 (cc2 h.ext) fun w h => ?_
 refine stA h 0 rfl rfl rfl rfl fun w h => ?_
 refine stA h 1 rfl rfl rfl rfl fun w h => ?_
 exact lf2 _ _ _ h
 refine ⟨?_, ?_⟩
 refine alS h fun g1 w h => ?_
 refine kgA h ‹_› (by rfl) ?_
 refine kgA h ‹_› (by rfl) ?_
 refine ⟨?_, ?_⟩
 refine cw1 h n_alarm_bet_1 (cc1 h.ext) fun w h => ?_
 refine kgA h ‹_› (by rfl) ?_
 refine ⟨?_, ?_⟩
 refine cw1 h n_alarm_bet_1 (cc2 h.ext) fun w h => ?_
 refine alS h fun g2 w h => ?_
 refine kgA h ‹_› (by rfl) ?_
 refine kgA h ‹_› (by rfl) ?_
 refine stA h 1 rfl rfl rfl rfl fun w h => ?_
 refine stA h 0 rfl rfl rfl rfl fun w h => ?_
 exact lf2 _ _ _ (h.pick [1, 0] (by decide) rfl)
 refine alS h fun g2 w h => ?_
 refine kgA h ‹_› (by rfl) ?_
 refine kgA h ‹_› (by rfl) ?_
 refine cw1 h n_alarm_bet_1 (cc2 h.ext) fun w h => ?_
 refine stA h 1 rfl rfl rfl rfl fun w h => ?_
 refine stA h 0 rfl rfl rfl rfl fun w h => ?_
 exact lf2 _ _ _ (h.pick [1, 0] (by decide) rfl)
 refine alS h fun g2 w h => ?_
 refine kgA h ‹_› (by rfl) ?_
 refine kgA h ‹_› (by rfl) ?_
 refine cw1 h n_alarm_bet_1 (cc1 h.ext) fun w h => ?_
 refine kgA h ‹_› (by rfl) ?_
 refine cw1 h n_alarm_bet_1 (cc2 h.ext) fun w h => ?_
 refine stA h 1 rfl rfl rfl rfl fun w h => ?_
 refine stA h 0 rfl rfl rfl rfl fun w h => ?_
 exact lf2 _ _ _ (h.pick [1, 0] (by decide) rfl)
 refine alS h fun g1 w h => ?_
 refine kgA h ‹_› (by rfl) ?_
 refine kgA h ‹_› (by rfl) ?_
 refine ⟨?_, ?_⟩
 refine cw1 h n_alarm_bet_1 (cc1 h.ext) fun w h => ?_
 refine kgA h ‹_› (by rfl) ?_
 refine ⟨?_, ?_⟩
 refine cw1 h n_alarm_bet_1 (cc2 h.ext) fun w h => ?_
 refine alS h fun g2 w h => ?_
 refine kgA h ‹_› (by rfl) ?_
 refine kgA h ‹_› (by rfl) ?_
 refine stA h 0 rfl rfl rfl rfl fun w h => ?_
 refine stA h 1 rfl rfl rfl rfl fun w h => ?_
 exact lf2 _ _ _ h
 refine alS h fun g2 w h => ?_
 refine kgA h ‹_› (by rfl) ?_
 refine kgA h ‹_› (by rfl) ?_
 refine cw1 h n_alarm_bet_1 (cc2 h.ext) fun w h => ?_
 refine stA h 0 rfl rfl rfl rfl fun w h => ?_
 refine stA h 1 rfl rfl rfl rfl fun w h => ?_
 exact lf2 _ _ _ h
 refine alS h fun g2 w h => ?_
 refine kgA h ‹_› (by rfl) ?_
 refine kgA h ‹_› (by rfl) ?_
 refine cw1 h n_alarm_bet_1 (cc1 h.ext) fun w h => ?_
 refine kgA h ‹_› (by rfl) ?_
 refine cw1 h n_alarm_bet_1 (cc2 h.ext) fun w h => ?_
 refine stA h 0 rfl rfl rfl rfl fun w h => ?_
 refine stA h 1 rfl rfl rfl rfl fun w h => ?_
 exact lf2 _ _ _ h
end
theorem look_sr {n : Int} {w : Wt} (h : VW n w) (hr : w.ru = false) (late : Bool) : SR 34 23 (w.we * fct w late) ∧ SR 19 13 (dn (w.we * fct w late)) := by
 have s1 := SR.mul (we_sr h.we0 h.we1 h.wd) (f_SR h.mu h.bet late)
 have h2 := h.look hr late
 exact ⟨s1, we_sr h2.we0 h2.we1 h2.wd⟩
end Go.Proofs.YtnkmbjedcjcccaaGreatDoor
namespace Go.Proofs.YtnkmbjedcjcccaaGreatDoor
open Go Go.Eng
set_option maxRecDepth 100000
def s_alarm_Observe_2 (P : Program) (t81 : Value) (t40 : Value) (t31 : Value) (t14 : Value) (t37 : Value) (t8 : Value) (t30 : Value) (k1 : Value → World → Prop) (w : World) (R : Ending → World → Prop) : Prop :=
 If t81
 (Bn P .add 3 true t40 (.int .i64 1) w.drew fun t128 w =>
 k1 t128 w)
 (Nc t31 w.drew fun t83 w =>
 Fa P 30 t83 8 w fun t84 w =>
 Ld P 3 t84 w fun t85 w =>
 Bn P .add 3 true t85 (.int .i64 1) w fun t86 w =>
 Nc t31 w fun t87 w =>
 Fa P 30 t87 8 w fun t88 w =>
 Sto P 3 t88 t86 w fun w =>
 NcP t31 fun t91 =>
 Dv P true (Instr.fieldAt 30 t91 9) w.drew fun t92 =>
 Dv P false (Instr.loadAt 25 t92) w.drew fun t93 =>
 Dv P true (Instr.fieldAt 65 t14 7) w.drew fun t95 =>
 Dv P false (Instr.loadAt 3 t95) w.drew fun t96 =>
 NcP t31 fun t98 =>
 Dv P true (Instr.fieldAt 30 t98 2) w.drew fun t99 =>
 Dv P false (Instr.loadAt 3 t99) w.drew fun t100 =>
 Dv P true (bn .gtr 3 false t96 t100) w.drew fun t101 =>
 Cw P t37 #[t101] w.drew (fun _ _ => False) fun t102 w =>
 Ke P (Instr.loadAt 25 t92) t93 w <|
 Cl P 32 #[t93, t102] w (fun _ _ => False) fun t103 w =>
 ExP t103 0 fun t104 =>
 ExP t103 1 fun t105 =>
 Cl P 52 #[t104, t105] w (fun _ _ => False) fun t106 w =>
 Cl P 60 #[t106, (.int .i64 12)] w (fun _ _ => False) fun t107 w =>
 ExP t107 0 fun t108 =>
 ExP t107 1 fun t109 =>
 Cl P 52 #[t108, t109] w (fun _ _ => False) fun t110 w =>
 NcP t31 fun t111 =>
 Dv P true (Instr.fieldAt 30 t111 9) w fun t112 =>
 Sto P 25 t112 t110 w fun w =>
 Nc t31 w fun t115 w =>
 Ld P 30 t115 w fun t116 w =>
 Cl P 61 #[t116] w (fun _ _ => False) fun t117 w =>
 Nc t31 w fun t118 w =>
 Fa P 30 t118 10 w fun t119 w =>
 Sto P 4 t119 t117 w fun w =>
 Nc t31 w fun t121 w =>
 Fa P 30 t121 10 w fun t122 w =>
 Ld P 4 t122 w fun t123 w =>
 If t123
 (Ld P 33 t8 w fun t124 w =>
 Bs P 33 1 [(0, t30)] w fun t126 w =>
 Bt P .append #[33, 33] 33 #[t124, t126] w fun t127 w =>
 Sto P 33 t8 t127 w fun w =>
 Bn P .add 3 true t40 (.int .i64 1) w fun t128x1 w =>
 k1 t128x1 w)
 (Bn P .add 3 true t40 (.int .i64 1) w fun t128x2 w =>
 k1 t128x2 w))
def s_alarm_Observe_1 (P : Program) (t43 : Value) (t31 : Value) (t35 : Value) (t40 : Value) (t37 : Value) (t8 : Value) (t30 : Value) (k1 : Value → World → Prop) (w : World) (R : Ending → World → Prop) : Prop :=
 Al P 65 w fun t14 w =>
 Sto P 65 t14 t43 w fun w =>
 NcP t31 fun t46 =>
 Dv P true (Instr.fieldAt 30 t46 7) w.drew fun t47 =>
 Dv P false (Instr.loadAt 3 t47) w.drew fun t48 =>
 Dv P true (Instr.fieldAt 65 t14 0) w.drew fun t49 =>
 Dv P false (Instr.loadAt 3 t49) w.drew fun t50 =>
 Dv P true (bV .max #[3, 3] 3 #[t48, t50]) w.drew fun t51 =>
 NcP t31 fun t52 =>
 Dv P true (Instr.fieldAt 30 t52 7) w.drew fun t53 =>
 Sto P 3 t53 t51 w.drew fun w =>
 NcP t31 fun t55 =>
 Dv P true (Instr.fieldAt 30 t55 10) w.drew fun t56 =>
 Dv P false (Instr.loadAt 4 t56) w.drew fun t57 =>
 GdP t57 false (fun k => Dv P true (Instr.fieldAt 65 t14 4) w.drew k) fun t59 =>
 GdP t57 false (fun k => Dv P false (Instr.loadAt 3 t59) w.drew k) fun t60 =>
 GdP t57 false (fun k => k t31) fun t61 =>
 GdP t57 false (fun k => NcP t61 k) fun t62 =>
 GdP t57 false (fun k => Dv P true (Instr.fieldAt 30 t62 0) w.drew k) fun t63 =>
 GdP t57 false (fun k => Dv P false (Instr.loadAt 3 t63) w.drew k) fun t64 =>
 GdP t57 false (fun k => Dv P true (bn .neq 3 false t60 t64) w.drew k) fun t65 =>
 PickP t57 (.bool true) t65 fun t66 =>
 GdP t66 false (fun k => Dv P true (Instr.fieldAt 65 t14 3) w.drew k) fun t68 =>
 GdP t66 false (fun k => Dv P false (Instr.loadAt 3 t68) w.drew k) fun t69 =>
 GdP t66 false (fun k => k t31) fun t70 =>
 GdP t66 false (fun k => NcP t70 k) fun t71 =>
 GdP t66 false (fun k => Dv P true (Instr.fieldAt 30 t71 1) w.drew k) fun t72 =>
 GdP t66 false (fun k => Dv P false (Instr.loadAt 3 t72) w.drew k) fun t73 =>
 GdP t66 false (fun k => Dv P true (bn .neq 3 false t69 t73) w.drew k) fun t74 =>
 PickP t66 (.bool true) t74 fun t75 =>
 GdP t75 false (fun k => Dv P true (Instr.fieldAt 65 t14 0) w.drew k) fun t77 =>
 GdP t75 false (fun k => Dv P false (Instr.loadAt 3 t77) w.drew k) fun t78 =>
 GdP t75 false (fun k => k t35) fun t79 =>
 GdP t75 false (fun k => Dv P true (bn .leq 3 false t78 t79) w.drew k) fun t80 =>
 PickP t75 (.bool true) t80 fun t81 =>
 s_alarm_Observe_2 P t81 t40 t31 t14 t37 t8 t30 k1 w R
def s_alarm_Observe_0 (P : Program) (t0 : Value) (t1 : Value) (w : World) (R : Ending → World → Prop) : Prop :=
 Bx P 28 t0 w fun t2 w =>
 Bx P 31 t1 w fun t3 w =>
 Al P 28 w fun t4 w =>
 Ld P 28 t2 w fun t17 w =>
 Cl P 13 #[t17] w (Pk R) fun t18 w =>
 Un P .not t18 w fun t19 w =>
 Gd t19 false (fun k => Ld P 31 t3 w k) w fun t21 w =>
 Gd t19 false (fun k => Cl P 58 #[t21] w (Pk R) k) w fun t22 w =>
 Gd t19 false (fun k => Un P .not t22 w k) w fun t23 w =>
 Pick t19 (.bool true) t23 w fun t24 w =>
 If t24
 (Bd P 28 [] w fun t25 w =>
 Sto P 28 t4 t25 w fun w =>
 Rc P 28 t4 w fun r0 =>
 R (.returned (.tuple #[r0, (.slice none 0 0), (.int .i64 280)])) w)
 (Ld P 28 t2 w fun t26 w =>
 Cl P 56 #[t26] w (Pk R) fun t27 w =>
 Al P 33 w fun t8 w =>
 Cl P 57 #[t27] w (Pk R) fun t29 w =>
 Rf2 P t29 w (fun t30 t31 w next lv =>
 NcP t31 fun t33 =>
 Dv P true (Instr.fieldAt 30 t33 7) w.drew fun t34 =>
 Dv P false (Instr.loadAt 3 t34) w.drew fun t35 =>
 Cl P 59 #[t31] w.drew (fun _ _ => False) fun t37 w =>
 Ke P (Instr.loadAt 3 t34) t35 w <|
 Ld P 31 t3 w fun t38 w =>
 Bt P .len #[31] 3 #[t38] w fun t39 w =>
 Lp1 (.int .i64 0) w (fun t40 w k1 =>
 Bn P .lss 3 false t40 t39 w fun t41 w =>
 If t41
 (Ia P 31 t38 t40 w fun t42 w =>
 Ld P 65 t42 w fun t43 w =>
 s_alarm_Observe_1 P t43 t31 t35 t40 t37 t8 t30 k1 w R)
 (next w)))
 (fun D1 w =>
 Cl P 51 #[t27] w (fun c w => Tk P D1 w fun w => R (.panicked c) w) fun t131 w =>
 Ex t131 0 w fun t132 w =>
 Ex t131 1 w fun t133 w =>
 Al P 28 w fun t15 w =>
 Sto P 28 t15 t132 w fun w =>
 Bn P .neq 46 true t133 (.int .i64 0) w fun t135 w =>
 If t135
 (Bd P 28 [] w fun t136 w =>
 Sto P 28 t4 t136 w fun w =>
 Tk P D1 w fun w =>
 Rc P 28 t4 w fun r0 =>
 R (.returned (.tuple #[r0, (.slice none 0 0), t133])) w)
 (Dv P false (Instr.loadAt 28 t15) w.drew fun t138 =>
 Dv P false (Instr.loadAt 33 t8) w.drew fun t139 =>
 Sto P 28 t4 t138 w.drew fun w =>
 Ke P (Instr.loadAt 33 t8) t139 w <|
 Tk P D1 w fun w =>
 Rc P 28 t4 w fun r0 =>
 R (.returned (.tuple #[r0, t139, (.int .i64 0)])) w))
 (fun D1 w =>
 Tk P D1 w fun w =>
 Rc P 28 t4 w fun r0 =>
 R (.returned (.tuple #[r0, (.slice none 0 0), (.int .i64 0)])) w) [])
theorem u_alarm_Observe {t0 t1 : Value} {w : World} {R : Ending → World → Prop} (h : s_alarm_Observe_0 Tryz.prog t0 t1 w R) : s_alarm_Observe Tryz.prog t0 t1 w R := Eq.mp (by kernel_rfl) h
end Go.Proofs.YtnkmbjedcjcccaaGreatDoor
namespace Go.Proofs.YtnkmbjedcjcccaaGreatDoor
open Go Go.Eng Go.Proofs Go.Num Go.RowKit
open Go.Alm (Ft Wt Sm VW VA dn fct)
set_option maxRecDepth 100000
abbrev fN (k : Nat) : List Value := [.int .i64 (k : Int)]
abbrev cW (op ve lim : Int) (m a b : RS) (st th sn : Int) (we : RS) (ru : Bool) : List Value := [.int .i64 op, .int .i64 ve, .int .i64 lim, str m.1, str m.2, str a.1, str a.2, str b.1, str b.2, .int .i64 st, .int .i64 th, .int .i64 sn, str we.1, str we.2, .bool ru]
abbrev cT (w : Wt) : List Value := cW w.op w.ve w.lim (tx w.mu) (tx w.al) (tx w.bet) w.st w.th w.sn (tx w.we) w.ru
section
variable {A B : List Value} {i : Nat} (hA : A.length = i * 15)
include hA
theorem segX {cs : List Value} : Seg (A ++ cs ++ B) (i * 15) cs := fun k v hk => by
 have hl := (List.getElem?_eq_some_iff.1 hk).1
 rw [List.append_assoc, List.getElem?_append_right (by omega), hA, show i * 15 + k - i * 15 = k by omega, List.getElem?_append_left hl]
 exact hk
theorem setX {cs : List Value} {k : Nat} {v : Value} (hk : k < cs.length) : (A ++ cs ++ B).set (0 + i * 15 + k) v = A ++ cs.set k v ++ B := by
 rw [List.append_assoc, List.set_append, if_neg (by omega), show 0 + i * 15 + k - A.length = k by omega, List.set_append, if_pos hk, List.append_assoc]
theorem setX2 {cs : List Value} {k : Nat} {vs : List Value} (hk : k + vs.length ≤ cs.length) : (A ++ cs ++ B).take (0 + i * 15 + k) ++ vs ++ (A ++ cs ++ B).drop (0 + i * 15 + k + vs.length) = A ++ (cs.take k ++ vs ++ cs.drop (k + vs.length)) ++ B := by
 rw [List.append_assoc A cs B, List.take_append, List.take_of_length_le (by omega), List.drop_append, List.drop_of_length_le (by omega), show 0 + i * 15 + k - A.length = k by omega, show 0 + i * 15 + k + vs.length - A.length = k + vs.length by omega, List.take_append, List.drop_append, show k - cs.length = 0 by omega, show k + vs.length - cs.length = 0 by omega]
 simp
end
theorem dvGt {P : Program} {t : TypeId} {c wi : Bool} {x y : Int} {b : Bool} {w : World} {KP : Value → Prop} (h : decide (y < x) = b) (hk : KP (.bool b)) : Dv P wi (bn .gtr t c (.int .i64 x) (.int .i64 y)) w KP := by
 cases b with
 | false => exact Dv_gtF (by have := of_decide_eq_false h; omega) hk
 | true => exact Dv_gtT (of_decide_eq_true h) hk
section
variable {w0 W : World} {L : List Et} {R : Ending → World → Prop} {k1 : Value → World → Prop} {A B : List Value} {i n cap gr gw gl g8 j : Nat} {rv : Value} {rn : List Nat} {th0 m : Int} {f : Ft} {wt : Wt}
 (hA : A.length = i * 15) (hin : i < n) (hE : En w0) (hj : j < 1000000000) (hrn : rn.length ≤ 1000) (hin2 : n ≤ 1000)
include hA hin hE hj hrn hin2
theorem obs_2F {u : Value} (hu : u = .slice (some ⟨gr, 0, none⟩) n cap)
 (hk : ∀ W, Hp [] w0 W (bx gw tR (fR (tx (fct wt true))) :: bx gl tR (fR (tx (fct wt false))) :: ro tWc 15 u n (A ++ cT wt ++ B) :: bx g8 33 [rv] :: ro 3 1 rv rn.length (rn.flatMap fN) :: L) → k1 (.int .i64 ((j : Int) + 1)) W)
 {g14 : Nat} (h : Hp [] w0 W.drew (bx g14 tFt (fF f) :: bx gw tR (fR (tx (fct wt true))) :: bx gl tR (fR (tx (fct wt false))) :: ro tWc 15 u n (A ++ cT wt ++ B) :: bx g8 33 [rv] :: ro 3 1 rv rn.length (rn.flatMap fN) :: L)) :
 s_alarm_Observe_2 Tryz.prog (.bool true) (.int .i64 (j : Int)) (pr gr (0 + i * 15)) (pr g14 0) (.func (.func 96) #[] #[pr gw 0, pr gl 0]) (pr g8 0) (.int .i64 (i : Int)) k1 W R := by
 unfold s_alarm_Observe_2
 refine If_T (Bn_ad (by omega) (by omega) ?_)
 exact hk _ (h.drop 1)
set_option maxHeartbeats 8000000 in
theorem obs_2T {u : Value} (hu : u = .slice (some ⟨gr, 0, none⟩) n cap) (hV : VW m wt) (hm : m ≤ 100000000) (hr : wt.ru = false) (hlo : I64 f.lo)
 (hk : ∀ W rv', Hp [] w0 W (bx gw tR (fR (tx (fct wt true))) :: bx gl tR (fR (tx (fct wt false))) :: ro tWc 15 u n (A ++ cT (Alm.look wt (decide (wt.lim < f.lo))) ++ B) :: bx g8 33 [rv'] :: ro 3 1 rv' (rn ++ if (Alm.look wt (decide (wt.lim < f.lo))).ru then [i] else []).length ((rn ++ if (Alm.look wt (decide (wt.lim < f.lo))).ru then [i] else []).flatMap fN) :: L) → k1 (.int .i64 ((j : Int) + 1)) W)
 {g14 : Nat} (h : Hp [] w0 W.drew (bx g14 tFt (fF f) :: bx gw tR (fR (tx (fct wt true))) :: bx gl tR (fR (tx (fct wt false))) :: ro tWc 15 u n (A ++ cT wt ++ B) :: bx g8 33 [rv] :: ro 3 1 rv rn.length (rn.flatMap fN) :: L)) :
 s_alarm_Observe_2 Tryz.prog (.bool false) (.int .i64 (j : Int)) (pr gr (0 + i * 15)) (pr g14 0) (.func (.func 96) #[] #[pr gw 0, pr gl 0]) (pr g8 0) (.int .i64 (i : Int)) k1 W R := by
 have sm := hV.mu
 have sb := hV.bet
 have hsn := hV.sn
 obtain ⟨late, hlate⟩ : ∃ b, decide (wt.lim < f.lo) = b := ⟨_, rfl⟩
 rw [hlate] at hk
 have s1 := look_sr hV hr late
 have sg := segX (B := B) hA (cs := cT wt)
 obtain ⟨wn, hwn⟩ : ∃ b, Alm.won (dn (wt.we * fct wt late)) wt.al = b := ⟨_, rfl⟩
 have e7 : cT (Alm.look wt late) = cW wt.op wt.ve wt.lim (tx wt.mu) (tx wt.al) (tx wt.bet) wt.st wt.th (wt.sn + 1) (tx (dn (wt.we * fct wt late))) wn := by rw [← hwn]; rfl
 have e8 : (Alm.look wt late).ru = wn := hwn
 rw [e7, e8] at hk
 clear e7 e8
 have fwd : Alm.fct wt late = fct wt late := rfl
 have ccb : ∀ {g : Nat} {W : World}, Blk W gw tR (fR (tx (fct wt true))) → Blk W gl tR (fR (tx (fct wt false))) → Calls Tryz.prog 96 ((#[] : Array Value) ++ #[.bool late] ++ #[pr gw 0, pr gl 0]) W (Ret fun r w' => Ext W w' ∧ r = vR (tx (fct wt late))) := fun {g} {W} h1 h2 => by
  have := c_bet2 (late := late) hE sm sb h1 h2
  rw [apd2]
  cases late
  ·exact this
  ·exact this
 have cc2 := fun {W : World} (e : Ext w0 W) => k_mul (w := W) (we_sr hV.we0 hV.we1 hV.wd) (f_SR sm sb late) (by decide) (by decide) (hE.hT.ext e)
 have cc3 := fun {W : World} (_ : Ext w0 W) {x : Rat} => c_must (w := W) (p := tx x)
 have cc4 := fun {W : World} (e : Ext w0 W) => k_down (w := W) (s1.1.mono (by decide) (by decide)) (hE.hT.ext e)
 have ccw : ∀ {W : World}, Ext w0 W → Calls Tryz.prog 61 #[vW ⟨wt.op, wt.ve, wt.lim, tx wt.mu, tx wt.al, tx wt.bet, wt.st, wt.th, wt.sn + 1, tx (dn (wt.we * fct wt late)), wt.ru⟩] W (Ret fun v w' => Ext W w' ∧ v = .bool wn) := fun {W} e => by
  have := c_won (w0 := W) (hE.ext e) s1.2 (Sm.sr1 hV.al) (r := ⟨wt.op, wt.ve, wt.lim, tx wt.mu, tx wt.al, tx wt.bet, wt.st, wt.th, wt.sn + 1, tx (dn (wt.we * fct wt late)), wt.ru⟩) rfl rfl
  rw [hwn] at this
  exact this
 clear hwn
 unfold s_alarm_Observe_2
 refine If_F (Nc_ok ?_)
 refine faS (lr1 h 3 rfl ‹_› sg (by rfl) ?_)
 refine Bn_ad (by omega) (by omega) (Nc_ok ?_)
 refine faS (stR1 h 3 rfl ‹_› (by rfl) (by rfl) (by omega) fun w h => ?_)
 refine NcP_ok ?_
 replace h := h.dr
 refine dfS ?_
 dsimp only [List.set] at h
 replace h : Hp [] w0 w.drew (bx g14 tFt (fF f) :: bx gw tR (fR (tx (fct wt true))) :: bx gl tR (fR (tx (fct wt false))) :: ro tWc 15 u n (A ++ cW wt.op wt.ve wt.lim (tx wt.mu) (tx wt.al) (tx wt.bet) wt.st wt.th (wt.sn + 1) (tx wt.we) wt.ru ++ B) :: bx g8 33 [rv] :: ro 3 1 rv rn.length (rn.flatMap fN) :: L) := by
  rw [setX hA (show 11 < 15 by decide)] at h
  exact h
 clear sg
 have sg := segX (B := B) hA (cs := cW wt.op wt.ve wt.lim (tx wt.mu) (tx wt.al) (tx wt.bet) wt.st wt.th (wt.sn + 1) (tx wt.we) wt.ru)
 refine drP h 3 rfl ‹_› sg (by rfl) ?_
 refine dfS (dl1 h 0 rfl rfl (NcP_ok ?_))
 refine dfS (dr1 h 3 rfl ‹_› sg (by rfl) ?_)
 have hgt : (if late then true else false) = late := by cases late <;> rfl
 refine dvGt hlate ?_
 have cc1 := fun {W : World} (_ : Ext w0 W) => @ccb 0 W
 refine Cw_i n_alarm_bet_2 (ccb (g := 0) (h.get (i := 1) rfl) (h.get (i := 2) rfl)) ?_
 rintro _ w2 ⟨x, rfl⟩
 have h := h.x x
 clear cc1
 refine krP h 3 rfl ‹_› sg (by rfl) ?_
 refine cl1 h n_rational_Mul (cc2 h.ext) fun w h => ?_
 refine ExP2 (cl1 h n_alarm_must (cc3 h.ext) fun w h => ?_)
 refine cl1 h n_rational_Down (cc4 h.ext) fun w h => ?_
 refine ExP2 (cl1 h n_alarm_must (cc3 h.ext) fun w h => ?_)
 refine NcP_ok ?_
 refine dfS (stRA h 3 rfl ‹_› (by rfl) (by rfl) (by simp only [List.length_cons, List.length_nil]; omega) fun w h => ?_)
 refine Nc_ok ?_
 dsimp only [List.set] at h
 replace h : Hp [] w0 w (bx g14 tFt (fF f) :: bx gw tR (fR (tx (fct wt true))) :: bx gl tR (fR (tx (fct wt false))) :: ro tWc 15 u n (A ++ cW wt.op wt.ve wt.lim (tx wt.mu) (tx wt.al) (tx wt.bet) wt.st wt.th (wt.sn + 1) (tx (dn (wt.we * fct wt late))) wt.ru ++ B) :: bx g8 33 [rv] :: ro 3 1 rv rn.length (rn.flatMap fN) :: L) := by
  rw [setX2 hA (show 12 + 2 ≤ 15 by decide)] at h
  exact h
 clear sg
 have sg := segX (B := B) hA (cs := cW wt.op wt.ve wt.lim (tx wt.mu) (tx wt.al) (tx wt.bet) wt.st wt.th (wt.sn + 1) (tx (dn (wt.we * fct wt late))) wt.ru)
 refine lrA h 3 rfl ‹_› ‹_› (by rfl) ?_
 refine cl1 h n_alarm_won (ccw h.ext) fun w h => ?_
 refine Nc_ok ?_
 refine faS (stR1 h 3 rfl ‹_› (by rfl) (by rfl) (by omega) fun w h => ?_)
 refine Nc_ok ?_
 refine faS ?_
 dsimp only [List.set] at h
 replace h : Hp [] w0 w (bx g14 tFt (fF f) :: bx gw tR (fR (tx (fct wt true))) :: bx gl tR (fR (tx (fct wt false))) :: ro tWc 15 u n (A ++ cW wt.op wt.ve wt.lim (tx wt.mu) (tx wt.al) (tx wt.bet) wt.st wt.th (wt.sn + 1) (tx (dn (wt.we * fct wt late))) wn ++ B) :: bx g8 33 [rv] :: ro 3 1 rv rn.length (rn.flatMap fN) :: L) := by
  rw [setX hA (show 14 < 15 by decide)] at h
  exact h
 clear sg
 have sg := segX (B := B) hA (cs := cW wt.op wt.ve wt.lim (tx wt.mu) (tx wt.al) (tx wt.bet) wt.st wt.th (wt.sn + 1) (tx (dn (wt.we * fct wt late))) wn)
 cases wn with
 | false =>
  refine lr1 h 3 rfl ‹_› sg (by rfl) ?_
  refine If_F (Bn_ad (by omega) (by omega) ?_)
  rw [if_neg (by decide), List.append_nil] at hk
  exact hk _ _ (h.drop 1)
 | true =>
  refine lr1 h 3 rfl ‹_› sg (by rfl) ?_
  refine If_T (Eng.ld1 h 4 rfl rfl (bs1A h (by rfl) (by decide) (by rfl) (by decide) fun v1 w h => ?_))
  refine apR (by rfl) (by decide) h 6 rfl (qZ 0 h rfl) (by first | rfl | assumption) (by omega) fun v2 w h => ?_
  refine st1w h 5 rfl (qZ 6 h rfl) rfl fun w h => ?_
  refine Bn_ad (by omega) (by omega) ?_
  dsimp only [List.set] at h
  rw [if_pos rfl] at hk
  exact hk _ _ (by rw [List.length_append, List.flatMap_append]; exact h.drop 2)
set_option maxHeartbeats 8000000 in
theorem obs_1 {u : Value} (hu : u = .slice (some ⟨gr, 0, none⟩) n cap) (hV : VW m wt) (hm : m ≤ 100000000) (hf : FI f) (hf9 : f.tr ≤ 999) (ht0 : I64 th0) (i1 : I64 wt.op) (i2 : I64 wt.ve) (i3 : I64 wt.lim)
 (hk : ∀ W rv', Hp [] w0 W (bx gw tR (fR (tx (fct wt true))) :: bx gl tR (fR (tx (fct wt false))) :: ro tWc 15 u n (A ++ cT (Alm.one th0 wt f) ++ B) :: bx g8 33 [rv'] :: ro 3 1 rv' (rn ++ if (!wt.ru && (Alm.one th0 wt f).ru) then [i] else []).length ((rn ++ if (!wt.ru && (Alm.one th0 wt f).ru) then [i] else []).flatMap fN) :: L) → k1 (.int .i64 ((j : Int) + 1)) W)
 (h : Hp [] w0 W (bx gw tR (fR (tx (fct wt true))) :: bx gl tR (fR (tx (fct wt false))) :: ro tWc 15 u n (A ++ cT wt ++ B) :: bx g8 33 [rv] :: ro 3 1 rv rn.length (rn.flatMap fN) :: L)) :
 s_alarm_Observe_1 Tryz.prog (vF f) (pr gr (0 + i * 15)) (.int .i64 th0) (.int .i64 (j : Int)) (.func (.func 96) #[] #[pr gw 0, pr gl 0]) (pr g8 0) (.int .i64 (i : Int)) k1 W R := by
 have hth := hV.th
 have hst := hV.st
 obtain ⟨f1, f2, f3, f4, f5, f6, f7, f8, f9, f10⟩ := hf
 have hmx : max wt.th f.tr ≤ 999 := by omega
 have hV1 : VW m { wt with th := max wt.th f.tr } := hV.thr (by omega) hmx
 have sg := segX (B := B) hA (cs := cT wt)
 have skip : Alm.conc th0 wt f = false → cT (Alm.one th0 wt f) = cT { wt with th := max wt.th f.tr } ∧ (!wt.ru && (Alm.one th0 wt f).ru) = false := fun hc => by
  have e : Alm.one th0 wt f = { wt with th := max wt.th f.tr } := by unfold Alm.one; rw [hc]; rfl
  rw [e]
  exact ⟨rfl, by cases wt.ru <;> rfl⟩
 have lfF : Alm.conc th0 wt f = false → ∀ {W : World} {g14 : Nat}, Hp [] w0 W.drew (bx g14 tFt (fF f) :: bx gw tR (fR (tx (fct wt true))) :: bx gl tR (fR (tx (fct wt false))) :: ro tWc 15 u n (A ++ cT { wt with th := max wt.th f.tr } ++ B) :: bx g8 33 [rv] :: ro 3 1 rv rn.length (rn.flatMap fN) :: L) →
  s_alarm_Observe_2 Tryz.prog (.bool true) (.int .i64 (j : Int)) (pr gr (0 + i * 15)) (pr g14 0) (.func (.func 96) #[] #[pr gw 0, pr gl 0]) (pr g8 0) (.int .i64 (i : Int)) k1 W R := fun hc {W} {g14} h => by
  refine obs_2F (wt := { wt with th := max wt.th f.tr }) hA hin hE hj hrn hin2 hu (fun W h => hk W rv ?_) h
  rw [(skip hc).1, (skip hc).2, if_neg (by decide), List.append_nil]
  exact h
 have lfT : Alm.conc th0 wt f = true → ∀ {W : World} {g14 : Nat}, Hp [] w0 W.drew (bx g14 tFt (fF f) :: bx gw tR (fR (tx (fct wt true))) :: bx gl tR (fR (tx (fct wt false))) :: ro tWc 15 u n (A ++ cT { wt with th := max wt.th f.tr } ++ B) :: bx g8 33 [rv] :: ro 3 1 rv rn.length (rn.flatMap fN) :: L) →
  s_alarm_Observe_2 Tryz.prog (.bool false) (.int .i64 (j : Int)) (pr gr (0 + i * 15)) (pr g14 0) (.func (.func 96) #[] #[pr gw 0, pr gl 0]) (pr g8 0) (.int .i64 (i : Int)) k1 W R := fun hc {W} {g14} h => by
  have hr := Alm.conc_ru hc
  have e : Alm.one th0 wt f = Alm.look { wt with th := max wt.th f.tr } (decide (wt.lim < f.lo)) := by unfold Alm.one; rw [hc]; rfl
  refine obs_2T (wt := { wt with th := max wt.th f.tr }) hA hin hE hj hrn hin2 hu hV1 hm hr f8 (fun W rv' h => hk W rv' ?_) h
  rw [e, hr]
  exact h
 clear hk skip
 unfold s_alarm_Observe_1
 refine alS h fun g1 w h => ?_
 refine stA h 0 rfl rfl rfl rfl fun w h => ?_
 refine NcP_ok ?_
 replace h := h.dr
 refine dfS (dr1 h 3 rfl ‹_› sg (by rfl) ?_)
 refine dfS (dl1 h 0 rfl rfl (Dv_max (NcP_ok ?_)))
 refine dfS (stR1 h 3 rfl ‹_› (by rfl) (by rfl) (by omega) fun w h => ?_)
 refine NcP_ok ?_
 replace h := h.dr
 refine dfS ?_
 dsimp only [List.set] at h
 replace h : Hp [] w0 w.drew (bx g1 tFt (fF f) :: bx gw tR (fR (tx (fct wt true))) :: bx gl tR (fR (tx (fct wt false))) :: ro tWc 15 u n (A ++ cW wt.op wt.ve wt.lim (tx wt.mu) (tx wt.al) (tx wt.bet) wt.st (max wt.th f.tr) wt.sn (tx wt.we) wt.ru ++ B) :: bx g8 33 [rv] :: ro 3 1 rv rn.length (rn.flatMap fN) :: L) := by
  rw [setX hA (show 10 < 15 by decide)] at h
  exact h
 clear sg
 have sg := segX (B := B) hA (cs := cW wt.op wt.ve wt.lim (tx wt.mu) (tx wt.al) (tx wt.bet) wt.st (max wt.th f.tr) wt.sn (tx wt.we) wt.ru)
 rcases Bool.eq_false_or_eq_true wt.ru with hru | hru
 ·have lf := @lfF (by unfold Alm.conc; rw [hru]; rfl)
  refine dr1 h 3 rfl hu sg (u := .bool true) (by show some (Value.bool wt.ru) = _; rw [hru]) ?_
  refine GdP_TF (GdP_TF (GdP_TF (GdP_TF (GdP_TF (GdP_TF (GdP_TF (PickP_T (GdP_TF (GdP_TF (GdP_TF (GdP_TF (GdP_TF (GdP_TF (GdP_TF (PickP_T (GdP_TF (GdP_TF (GdP_TF (GdP_TF (PickP_T ?_))))))))))))))))))))
  exact lf h
 by_cases ho : f.op = wt.op
 rotate_left
 ·have lf := @lfF (by unfold Alm.conc; rw [hru, beq_eq_false_iff_ne.2 ho]; rfl)
  refine dr1 h 3 rfl hu sg (u := .bool false) (by show some (Value.bool wt.ru) = _; rw [hru]) ?_
  refine GdP_F (dfS (GdP_F (dl1 h 0 rfl rfl (GdP_F (GdP_F (NcP_ok ?_))))))
  refine GdP_F (dfS (GdP_F (dr1 h 3 rfl ‹_› sg (by rfl) ?_)))
  refine GdP_F (Dv_neT (by omega) (PickP_F (GdP_TF (GdP_TF (GdP_TF (GdP_TF (GdP_TF (GdP_TF (GdP_TF (PickP_T (GdP_TF (GdP_TF (GdP_TF (GdP_TF (PickP_T ?_)))))))))))))))
  exact lf h
 by_cases hv : f.ve = wt.ve
 rotate_left
 ·have lf := @lfF (by unfold Alm.conc; rw [hru, beq_eq_false_iff_ne.2 hv, Bool.and_false, Bool.false_and])
  refine dr1 h 3 rfl hu sg (u := .bool false) (by show some (Value.bool wt.ru) = _; rw [hru]) ?_
  refine GdP_F (dfS (GdP_F (dl1 h 0 rfl rfl (GdP_F (GdP_F (NcP_ok ?_))))))
  refine GdP_F (dfS (GdP_F (dr1 h 3 rfl ‹_› sg (by rfl) ?_)))
  refine GdP_F (Dv_neF (by omega) (PickP_F (GdP_F (dfS (GdP_F (dl1 h 0 rfl rfl (GdP_F (GdP_F (NcP_ok ?_)))))))))
  refine GdP_F (dfS (GdP_F (dr1 h 3 rfl ‹_› sg (by rfl) ?_)))
  refine GdP_F (Dv_neT (by omega) (PickP_F (GdP_TF (GdP_TF (GdP_TF (GdP_TF (PickP_T ?_)))))))
  exact lf h
 by_cases ht : f.tr ≤ th0
 ·have lf := @lfF (by unfold Alm.conc; rw [decide_eq_false (show ¬ th0 < f.tr by omega), Bool.and_false])
  refine dr1 h 3 rfl hu sg (u := .bool false) (by show some (Value.bool wt.ru) = _; rw [hru]) ?_
  refine GdP_F (dfS (GdP_F (dl1 h 0 rfl rfl (GdP_F (GdP_F (NcP_ok ?_))))))
  refine GdP_F (dfS (GdP_F (dr1 h 3 rfl ‹_› sg (by rfl) ?_)))
  refine GdP_F (Dv_neF (by omega) (PickP_F (GdP_F (dfS (GdP_F (dl1 h 0 rfl rfl (GdP_F (GdP_F (NcP_ok ?_)))))))))
  refine GdP_F (dfS (GdP_F (dr1 h 3 rfl ‹_› sg (by rfl) ?_)))
  refine GdP_F (Dv_neF (by omega) (PickP_F (GdP_F (dfS (GdP_F (dl1 h 0 rfl rfl (GdP_F (GdP_F (Dv_leT (by omega) (PickP_F ?_))))))))))
  exact lf h
 ·have lf := @lfT (by unfold Alm.conc; rw [hru, decide_eq_true (show th0 < f.tr by omega), ho, hv, beq_self_eq_true, beq_self_eq_true]; rfl)
  refine dr1 h 3 rfl hu sg (u := .bool false) (by show some (Value.bool wt.ru) = _; rw [hru]) ?_
  refine GdP_F (dfS (GdP_F (dl1 h 0 rfl rfl (GdP_F (GdP_F (NcP_ok ?_))))))
  refine GdP_F (dfS (GdP_F (dr1 h 3 rfl ‹_› sg (by rfl) ?_)))
  refine GdP_F (Dv_neF (by omega) (PickP_F (GdP_F (dfS (GdP_F (dl1 h 0 rfl rfl (GdP_F (GdP_F (NcP_ok ?_)))))))))
  refine GdP_F (dfS (GdP_F (dr1 h 3 rfl ‹_› sg (by rfl) ?_)))
  refine GdP_F (Dv_neF (by omega) (PickP_F (GdP_F (dfS (GdP_F (dl1 h 0 rfl rfl (GdP_F (GdP_F (Dv_leF (by omega) (PickP_F ?_))))))))))
  exact lf h
end
end Go.Proofs.YtnkmbjedcjcccaaGreatDoor
namespace Go.Proofs.YtnkmbjedcjcccaaGreatDoor
open Go Go.Eng Go.Proofs Go.Num Go.RowKit
open Go.Alm (Ft Wt Sm VW VA dn fct obs obs1 rungs)
set_option maxRecDepth 100000
theorem ro_nrec {w : World} {e : TypeId} {c n : Nat} {v : Value} {xs : List Value} (h : w.ownsRow 0 e c v n xs) : ∀ k ∈ v.ownBlock.toList, isRec w.heap[k]? = false := by
 obtain ⟨h1, ⟨rfl, h⟩ | ⟨g, cap, cur, rfl, _, h3, _⟩⟩ := h
 ·intro k hk; simp [Value.ownBlock] at hk
 ·intro k hk
  simp [Value.ownBlock] at hk
  subst hk
  rw [h3]; rfl
abbrev tIs : TypeId := 33
abbrev tFs : TypeId := 31
abbrev oErr : Value := .tuple #[vA ([], []) (.slice none 0 0), .slice none 0 0, .int .i64 280]
def cO (ws : List Wt) (fl : List Ft) (i : Nat) : List Value := (((obs (ws.take i) fl) ++ ws.drop i).map wr).flatMap fW
def rG (ws : List Wt) (fl : List Ft) (i : Nat) : List Nat := rungs (ws.take i) (obs (ws.take i) fl) 0
theorem cO_n (ws : List Wt) (fl : List Ft) : cO ws fl ws.length = ((obs ws fl).map wr).flatMap fW := by
 unfold cO
 rw [List.take_length, List.drop_length, List.append_nil]
theorem rG_n (ws : List Wt) (fl : List Ft) : rG ws fl ws.length = rungs ws (obs ws fl) 0 := by
 unfold rG
 rw [List.take_length]
section
variable {ws : List Wt} {fl : List Ft} {i : Nat} {w : Wt} (hx : ws[i]? = some w)
include hx
def cA (ws : List Wt) (fl : List Ft) (i : Nat) : List Value := ((obs (ws.take i) fl).map wr).flatMap fW
def cB (ws : List Wt) (i : Nat) : List Value := ((ws.drop (i + 1)).map wr).flatMap fW
omit hx in
theorem cA_len (h : i ≤ ws.length) : (cA ws fl i).length = i * 15 := by
 unfold cA
 rw [flat_len (f := fW) (c := 15) (fun _ => rfl), List.length_map, Alm.obs_len, List.length_take]
 congr 1
 omega
theorem cO_now : cO ws fl i = cA ws fl i ++ cT w ++ cB ws i := by
 have hd : ws.drop i = w :: ws.drop (i + 1) := by
  obtain ⟨h1, h2⟩ := List.getElem?_eq_some_iff.1 hx
  rw [List.drop_eq_getElem_cons h1, h2]
 unfold cO cA cB
 rw [hd, List.map_append, List.flatMap_append, List.map_cons, List.flatMap_cons, List.append_assoc]
theorem cO_next : cO ws fl (i + 1) = cA ws fl i ++ cT (obs1 w.th w fl) ++ cB ws i := by
 unfold cO cA cB
 rw [Alm.obs_snoc hx, List.map_append, List.flatMap_append, List.map_append, List.flatMap_append, List.append_assoc, List.append_assoc]
 rfl
theorem rG_next : rG ws fl (i + 1) = rG ws fl i ++ (if !w.ru && (obs1 w.th w fl).ru then [i] else []) := by
 have h1 := (List.getElem?_eq_some_iff.1 hx).1
 unfold rG
 rw [Alm.obs_snoc hx, List.take_add_one, hx]
 show rungs (ws.take i ++ [w]) _ 0 = _
 rw [Alm.rungs_snoc (by rw [Alm.obs_len]), List.length_take, show 0 + min i ws.length = i by omega]
end
theorem fct_obs1 (t : Int) (w : Wt) (l : List Ft) (b : Bool) : fct (obs1 t w l) b = fct w b := by
 have h := Alm.obs1_fix w t l
 unfold Alm.fct
 rw [h.2.1, h.2.2.2.1]
theorem wrk_of {n : Int} {w : Wt} (h : VW n w) (hn : n ≤ 1000000000) : WRk (wr w) := by
 have h1 := h.op
 have h2 := h.ve
 have h3 := h.lim
 have h4 := h.st
 have h5 := h.th
 have h6 := h.sn
 have a := Sm.rb h.mu (.inl rfl)
 have b := Sm.rb h.al (.inl rfl)
 have c := Sm.rb h.bet (.inr rfl)
 have d := VW.wrb h
 exact ⟨by show I64 w.op; omega, by show I64 w.ve; omega, by show I64 w.lim; omega, ⟨itoa_ok a.n, itoa_ok a.d⟩, ⟨itoa_ok b.n, itoa_ok b.d⟩, ⟨itoa_ok c.n, itoa_ok c.d⟩, by show I64 w.st; omega, by show I64 w.th; omega, by show I64 w.sn; omega, ⟨itoa_ok d.n, itoa_ok d.d⟩⟩
set_option maxHeartbeats 16000000 in
theorem c_ObsT {w0 : World} {B : Rat} {v fv : Value} {ws : List Wt} {fl : List Ft} (hE : En w0) (hA : Ak w0 (tx B) v (ws.map wr)) (hF : Fk w0 fv fl) (hVA : VA B ws) (hVF : VFs fl) : Calls Tryz.prog 24 #[vA (tx B) v, fv] w0
 (Ret fun o w' => (¬ VA B (obs ws fl) ∧ Ext w0 w' ∧ o = oErr) ∨ (VA B (obs ws fl) ∧ ∃ u rv, o = .tuple #[vA (tx B) u, rv, .int .i64 0] ∧ Hp [] w0 w' [ro tWc 15 u ws.length (((obs ws fl).map wr).flatMap fW), ro 3 1 rv (rungs ws (obs ws fl) 0).length ((rungs ws (obs ws fl) 0).flatMap fN)])) := by
 have hok : OkA (tx B) (ws.map wr) := ⟨B, ws, rfl, rfl, hVA⟩
 have cc1 := fun {W : World} (e : Ext w0 W) => c_aValid (w0 := W) (hE.ext e) (hA.ext e)
 rw [okA_t hok] at cc1
 have cc2 := fun {W : World} (e : Ext w0 W) => c_VFs (w0 := W) (hF.ext e)
 rw [okF_t hVF] at cc2
 have hfv := hF.hv
 have hl12 := hVA.len
 have hlm : (ws.map wr).length = ws.length := List.length_map _
 have hf400 := hVF.1
 apply e_alarm_Observe
 apply u_alarm_Observe
 unfold s_alarm_Observe_0
 have h := Hp.init [] w0
 refine bxA h fun g1 w h => ?_
 refine bx1w h (hfv.hp h) fun g2 w h => ?_
 refine alS h fun g3 w h => ?_
 refine ldA h 2 rfl rfl ?_
 refine cl1 h n_alarm_Valid (cc1 h.ext) fun w h => ?_
 refine Un_T (Gd_F (Eng.ld1 h 1 rfl rfl (Gd_F (cl1 h n_trace_ValidFacts (cc2 h.ext) fun w h => ?_))))
 refine Gd_F (Un_T (Pick_F (If_F (ldA h 2 rfl rfl ?_))))
 refine Cl_i n_alarm_of (c_year (w0 := w) (p := tx B) (hA.hv.ext h.ext) hA.hl) ?_
 rintro _ w1 ⟨gy, u, rfl, h1⟩
 have h := h.cat2 h1 bx_sm ro_sm
 refine alS h fun g8 w h => ?_
 refine Cl_i n_alarm_year_all (c_all (g := gy)) ?_
 rintro _ w2 ⟨b, rfl, h2⟩
 have h := h.cat1 h2 bx_sm
 clear h1 h2 cc1 cc2
 have h := h.nil 3 1
 have h := h.pick [1, 3, 4, 2, 0, 5, 6, 7] (by decide) rfl
 rw [hlm] at h
 have hsz := h.size
 refine Exists.elim (hd_of (h.get (i := 2) rfl : World.ownsRow _ _ _ _ _ _ _)) fun gr hu => ?_
 have nr : ∀ {W : World} {i : Nat} {rv : Value}, Hp [] w0 W [bx b tYp [pr gy 0], bx gy tYr [str (tx B).1, str (tx B).2, u], ro tWc 15 u ws.length (cO ws fl i), bx g8 tIs [rv], ro 3 1 rv (rG ws fl i).length ((rG ws fl i).flatMap fN), bx g3 tAl [str [], str [], .slice none 0 0], bx g2 tFs [fv], bx g1 tAl [str (tx B).1, str (tx B).2, v]] → ∀ k ∈ List.flatMap Et.ks [bx b tYp [pr gy 0], bx gy tYr [str (tx B).1, str (tx B).2, u], ro tWc 15 u ws.length (cO ws fl i), bx g8 tIs [rv], ro 3 1 rv (rG ws fl i).length ((rG ws fl i).flatMap fN), bx g3 tAl [str [], str [], .slice none 0 0], bx g2 tFs [fv], bx g1 tAl [str (tx B).1, str (tx B).2, v]], k < w2.heap.size ∨ isRec W.heap[k]? = false := fun {W} {i} {rv} h k hk => by
  refine .inr ?_
  obtain ⟨e, he, hk⟩ := List.mem_flatMap.1 hk
  obtain ⟨q, hq⟩ := List.getElem?_of_mem he
  have hg := h.get hq
  have hcase : (∃ g ty cs, e = bx g ty cs) ∨ (∃ ty c v n xs, e = ro ty c v n xs) := by
   simp only [List.mem_cons, List.not_mem_nil, or_false] at he
   rcases he with rfl | rfl | rfl | rfl | rfl | rfl | rfl | rfl
   ·exact .inl ⟨_, _, _, rfl⟩
   ·exact .inl ⟨_, _, _, rfl⟩
   ·exact .inr ⟨_, _, _, _, _, rfl⟩
   ·exact .inl ⟨_, _, _, rfl⟩
   ·exact .inr ⟨_, _, _, _, _, rfl⟩
   ·exact .inl ⟨_, _, _, rfl⟩
   ·exact .inl ⟨_, _, _, rfl⟩
   ·exact .inl ⟨_, _, _, rfl⟩
  rcases hcase with ⟨g, ty, cs, rfl⟩ | ⟨ty, c, v, n, xs, rfl⟩
  ·have : k = g := by simpa using hk
   subst this
   exact Blk.nrec hg
  ·exact ro_nrec hg k hk
 refine Rf2.mk 91 #[pr b 0] (ylds ws.length gr) (fun i W => ∃ rv, Hp [] w0 W [bx b tYp [pr gy 0], bx gy tYr [str (tx B).1, str (tx B).2, u], ro tWc 15 u ws.length (cO ws fl i), bx g8 tIs [rv], ro 3 1 rv (rG ws fl i).length ((rG ws fl i).flatMap fN), bx g3 tAl [str [], str [], .slice none 0 0], bx g2 tFs [fv], bx g1 tAl [str (tx B).1, str (tx B).2, v]]) (fun _ _ => False) rfl n_alarm_year_all_1
  (it_all hu (by omega) (g := gy) fun i W ⟨rv, h⟩ => ⟨(h.get (i := 0) rfl : Blk _ _ _ _).cell rfl, (h.get (i := 1) rfl : Blk _ _ _ _).cell rfl⟩) (fun i W W' ⟨rv, h⟩ b => ⟨rv, h.bk2 (nr h) hsz b⟩) (fun _ _ _ h _ => h) ⟨.slice none 0 0, h⟩ ?_ ?_ (fun _ _ _ _ h => h.elim) (by simp)
 ·rintro a0 a1 i W hi ⟨rv, h⟩ hs
  have hin : i < ws.length := by
   have := (List.getElem?_eq_some_iff.1 hi).1
   simpa using this
  rw [ylds_get hin] at hi
  obtain ⟨rfl, rfl⟩ := Prod.mk.inj (Option.some.inj hi)
  obtain ⟨cap, hcap⟩ := hu.some (by omega)
  refine Exists.elim (p := fun x => ws[i]? = some x) ⟨_, List.getElem?_eq_getElem hin⟩ fun wt hx => ?_
  have hV := hVA.ok wt (List.mem_of_getElem? hx)
  have sm := hV.mu
  have sb := hV.bet
  have hAl := cA_len (ws := ws) (fl := fl) (i := i) (by omega)
  have nr2 := nr h
  rw [cO_now hx] at h nr2
  replace h := h.fr w2.heap.size (by omega) nr2
  clear nr2
  have sg := segX (B := cB ws i) hAl (cs := cT wt)
  refine NcP_ok ?_
  replace h := h.dr
  refine dfS (dr1 h 3 rfl ‹_› sg (by rfl) ?_)
  refine Cl_i n_alarm_bet (c_bet (hE.ext h.ext) sm sb (CellsAt.seg (h.rc 3 rfl hcap) sg)) ?_
  rintro _ w3 ⟨gw, gl, rfl, h1⟩
  have h := h.cat2 h1 bx_sm bx_sm
  clear h1
  have h := h.pick [0, 1, 5, 6, 7, 2, 3, 4, 8, 9, 10] (by decide) rfl
  refine kr1 h 2 rfl ‹_› sg (by rfl) ?_
  refine Eng.ld1 h 9 rfl rfl (leS (hfv.hp h) ?_)
  obtain ⟨mn, hmn⟩ : ∃ mn, frE w2.heap.size W = mn := ⟨_, rfl⟩
  rw [hmn] at h
  have hkf : ∀ {W'}, mn.Q W' → Kf w2.heap.size W W' := fun {W'} hq => by rw [← hmn] at hq; exact hq
  clear hmn
  have hrl : (rG ws fl i).length ≤ 12 := by
   have := Alm.rungs_len (ws.take i) (obs (ws.take i) fl) 0
   have h2 : (ws.take i).length ≤ ws.length := by rw [List.length_take]; omega
   unfold rG; omega
  refine Lp1.mk (fun a W => ∃ (j : Nat) (rv : Value), j ≤ fl.length ∧ a = .int .i64 j ∧ Hp [] w0 W (bx gw tR (fR (tx (fct wt true))) :: bx gl tR (fR (tx (fct wt false))) :: ro tWc 15 u ws.length (cA ws fl i ++ cT (obs1 wt.th wt (fl.take j)) ++ cB ws i) :: bx g8 tIs [rv] :: ro 3 1 rv (rG ws fl i ++ if (!wt.ru && (obs1 wt.th wt (fl.take j)).ru) then [i] else []).length ((rG ws fl i ++ if (!wt.ru && (obs1 wt.th wt (fl.take j)).ru) then [i] else []).flatMap fN) :: [mn, bx b tYp [pr gy 0], bx gy tYr [str (tx B).1, str (tx B).2, u], bx g3 tAl [str [], str [], .slice none 0 0], bx g2 tFs [fv], bx g1 tAl [str (tx B).1, str (tx B).2, v]]))
   (fun a _ => match a with | .int _ x => fl.length - x.toNat | _ => 0) ⟨0, rv, by omega, rfl, ?_⟩ ?_
  ·have e0 : (!wt.ru && (obs1 wt.th wt (fl.take 0)).ru) = false := by
    show (!wt.ru && wt.ru) = false
    cases wt.ru <;> rfl
   rw [e0, if_neg (by decide), List.append_nil]
   exact h
  clear h sg nr
  rintro _ W3 ⟨j, rv3, hj, rfl, h⟩
  by_cases hjl : j < fl.length
  ·refine Exists.elim (p := fun x => fl[j]? = some x) ⟨_, List.getElem?_eq_getElem hjl⟩ fun f hf => ?_
   have sf : Seg (fl.flatMap fF) (j * 10) (fF f) := flat_seg (f := fF) (fun _ => rfl) hf
   have hfm := List.mem_of_getElem? hf
   have hVj := Alm.VW.obs1 wt.th (l := fl.take j) hV fun x hx => (hVF.2.1 x (List.mem_of_mem_take hx)).1.2
   have e1 := fct_obs1 wt.th wt (fl.take j)
   have fx := Alm.obs1_fix wt wt.th (fl.take j)
   have hlt : (fl.take j).length ≤ 400 := by rw [List.length_take]; omega
   have hrn : (rG ws fl i ++ if (!wt.ru && (obs1 wt.th wt (fl.take j)).ru) then [i] else []).length ≤ 1000 := by
    rw [List.length_append]; split <;> simp <;> omega
   refine Bn_ltT (by omega) (If_T (iaH h ‹_› (by omega) fun zb zo zk zv zc => ?_))
   refine lhA h ‹_› ‹_› (by rfl) ?_
   refine obs_1 (wt := obs1 wt.th wt (fl.take j)) (th0 := wt.th) (m := 1000000 + (fl.take j).length) hAl hin hE (by omega) hrn (by omega) hcap hVj (by omega) (hF.hi f hfm) (hVF.2.1 f hfm).1.2 (by have := hV.th; have := hV.st; omega)
    (by rw [fx.2.2.2.2.1]; have := hV.op; omega) (by rw [fx.2.2.2.2.2.1]; have := hV.ve; omega) (by rw [fx.2.2.1]; have := hV.lim; omega) (fun W4 rv4 h => ?_) (by rw [e1, e1]; exact h)
   rw [e1, e1, ← Alm.obs1_snoc hf] at h
   refine ⟨⟨j + 1, rv4, by omega, rfl, ?_⟩, by show fl.length - ((j : Int) + 1).toNat < fl.length - (j : Int).toNat; omega⟩
   have rs := Alm.rung_step (t := wt.th) (w := wt) (v := obs1 wt.th wt (fl.take j)) (f := f) (i := i) (fun hr => fx.2.2.2.2.2.2.2 hr)
   rw [← Alm.obs1_snoc hf] at rs
   rw [List.append_assoc (rG ws fl i), rs] at h
   exact h
  have hjl' : j = fl.length := by omega
  subst hjl'
  rw [List.take_length, ← rG_next hx, ← cO_next hx] at h
  refine Bn_ltF (by omega) (If_F ?_)
  exact ⟨⟨_, h.pick [6, 7, 2, 3, 4, 8, 9, 10] (by decide) rfl⟩, hkf (h.get (i := 5) rfl)⟩
 ·rintro D W hD hd ⟨rv, h⟩
  rw [show (ylds ws.length gr).length = ws.length by simp] at h
  have nr2 := nr h
  rw [cO_n, rG_n] at h nr2
  have hnD : D ∉ List.flatMap Et.ks [bx b tYp [pr gy 0], bx gy tYr [str (tx B).1, str (tx B).2, u], ro tWc 15 u ws.length (((obs ws fl).map wr).flatMap fW), bx g8 tIs [rv], ro 3 1 rv (rungs ws (obs ws fl) 0).length ((rungs ws (obs ws fl) 0).flatMap fN), bx g3 tAl [str [], str [], .slice none 0 0], bx g2 tFs [fv], bx g1 tAl [str (tx B).1, str (tx B).2, v]] := fun hc => by
   rcases nr2 D hc with h1 | h1
   ·omega
   ·rw [hd] at h1; cases h1
  clear nr nr2
  replace h := h.df hd (by omega) hnD
  clear hd hnD
  have hA2 : ∀ {W : World}, Hp [] w0 W [ro tWc 15 u ws.length (((obs ws fl).map wr).flatMap fW)] → Ak W (tx B) u ((obs ws fl).map wr) := fun {W} h => by
   have hlen : ((obs ws fl).map wr).length = ws.length := by rw [List.length_map, Alm.obs_len]
   have hrb := Sm.rb hVA.b (.inl rfl)
   refine ⟨⟨itoa_ok hrb.n, itoa_ok hrb.d⟩, by rw [hlen]; exact h.sl (i := 0) rfl, fun r hr => ?_, by rw [hlen]; omega⟩
   obtain ⟨w, hw, rfl⟩ := List.mem_map.1 hr
   obtain ⟨w', hw', rfl⟩ := List.mem_map.1 hw
   exact wrk_of (Alm.VW.obs1 w'.th (hVA.ok w' hw') fun x hx => (hVF.2.1 x hx).1.2) (by omega)
  refine Cl_i n_alarm_year_done (c_done (hE.ext h.ext) (hA2 (h.pick [3] (by decide) rfl)) (h.get (i := 2) rfl)) ?_
  rintro _ w' ⟨x, rfl⟩
  have h := h.x x
  by_cases hok2 : VA B (obs ws fl)
  ·have e : okA (tx B) ((obs ws fl).map wr) = true := okA_t ⟨B, _, rfl, rfl, hok2⟩
   rw [e]
   refine Exists.elim (qZ 3 h rfl).key fun qa hq => Exists.elim hq fun ql hq => Exists.elim hq fun qm hq => ?_
   have hq := hq.1
   subst hq
   refine Ex2 (alS h fun g4 w h => ?_)
   refine stA h 0 rfl rfl rfl rfl fun w h => ?_
   refine Bn_neF (by omega) (If_F ?_)
   replace h := h.dr
   refine dlA h 0 rfl rfl ?_
   refine dl1 h 5 rfl rfl (stA h 7 rfl rfl rfl rfl fun w h => ?_)
   refine kl1 h 5 rfl rfl (tkE h 1 rfl fun w h => ?_)
   refine rcA h 7 rfl rfl ?_
   dsimp only [List.set] at h
   exact Ret.mk (.inr ⟨hok2, _, _, rfl, h.pick [4, 6] (by decide) rfl⟩)
  ·have e : okA (tx B) ((obs ws fl).map wr) = false := okA_f fun ⟨B', ws', e1, e2, h⟩ => hok2 (by
    obtain rfl := tx_inj e1
    obtain rfl := wrs_inj e2
    exact h)
   rw [e]
   refine Ex2 (alS h fun g4 w h => ?_)
   refine stA h 0 rfl rfl rfl rfl fun w h => ?_
   refine Bn_neT (by omega) (If_T (bdS PC.nil (by rfl) ?_))
   refine stA h 7 rfl rfl rfl rfl fun w h => ?_
   refine tkE h 1 rfl fun w h => ?_
   refine rcA h 7 rfl rfl ?_
   dsimp only [List.set] at h
   exact Ret.mk (.inl ⟨hok2, h.ext, rfl⟩)
end Go.Proofs.YtnkmbjedcjcccaaGreatDoor
namespace Go.Proofs.YtnkmbjedcjcccaaGreatDoor
open Go Go.Eng Go.Proofs Go.Num Go.RowKit
open Go.Alm (Ft Wt Sm VW VA dn fct obs obs1 rungs obsN)
set_option maxRecDepth 100000
abbrev vC (op ve lim : Int) (m a b : RS) (st th sn : Int) (we : RS) (ru : Bool) : Value := .agg #[.int .i64 op, .int .i64 ve, .int .i64 lim, str m.1, str m.2, str a.1, str a.2, str b.1, str b.2, .int .i64 st, .int .i64 th, .int .i64 sn, str we.1, str we.2, .bool ru]
end Go.Proofs.YtnkmbjedcjcccaaGreatDoor
