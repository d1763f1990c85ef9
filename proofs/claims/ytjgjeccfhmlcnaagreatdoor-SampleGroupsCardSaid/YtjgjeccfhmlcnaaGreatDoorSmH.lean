/-
  Contracts and plain lemmas. By an AI agent.
-/
import Derived.Test.YtjgjeccfhmlcnaaGreatDoorSmG
import Derived.Test.YtjgjeccfhmlcnaaGreatDoorQMem
set_option linter.unusedSimpArgs false
set_option linter.unusedVariables false
set_option linter.unusedSectionVars false
namespace Go.Proofs.YtjgjeccfhmlcnaaGreatDoor
open Go Go.Eng Go.Proofs Go.Num Go.RowKit
set_option maxRecDepth 100000
section
variable {w : World} {n lo hi : Int}
theorem c_tinT (h : lo ≤ n ∧ n ≤ hi) : Calls Tryz.prog 88 #[.int .i64 n, .int .i64 lo, .int .i64 hi] w (Ret fun r w' => Ext w w' ∧ r = .bool true) := by
 have h1 := h.1
 have h2 := h.2
 apply e_trace_within
 unfold s_trace_within
 have h := Hp.init [] w
 refine Bn_geT (by omega) (Gd_T (Gd_T (Gd_T (Bn_leT (by omega) (Pick_T ?_)))))
 exact Ret.mk ⟨h.ext, rfl⟩
theorem c_tinF (h : ¬ (lo ≤ n ∧ n ≤ hi)) : Calls Tryz.prog 88 #[.int .i64 n, .int .i64 lo, .int .i64 hi] w (Ret fun r w' => Ext w w' ∧ r = .bool false) := by
 apply e_trace_within
 unfold s_trace_within
 by_cases h1 : lo ≤ n
 ·have h2 : hi < n := by omega
  have h := Hp.init [] w
  refine Bn_geT (by omega) (Gd_T (Gd_T (Gd_T (Bn_leF (by omega) (Pick_T ?_)))))
  exact Ret.mk ⟨h.ext, rfl⟩
 ·have h := Hp.init [] w
  refine Bn_geF (by omega) (Gd_FT (Gd_FT (Gd_FT (Pick_F ?_))))
  exact Ret.mk ⟨h.ext, rfl⟩
end
structure Ft where
 tr : Int
 sp : Int
 sv : Int
 ve : Int
 op : Int
 pe : Int
 da : Int
 lo : Int
 hi : Int
 by' : Int
abbrev tFt : TypeId := 46
abbrev fF (f : Ft) : List Value := [.int .i64 f.tr, .int .i64 f.sp, .int .i64 f.sv, .int .i64 f.ve, .int .i64 f.op, .int .i64 f.pe, .int .i64 f.da, .int .i64 f.lo, .int .i64 f.hi, .int .i64 f.by']
abbrev vF (f : Ft) : Value := .agg #[.int .i64 f.tr, .int .i64 f.sp, .int .i64 f.sv, .int .i64 f.ve, .int .i64 f.op, .int .i64 f.pe, .int .i64 f.da, .int .i64 f.lo, .int .i64 f.hi, .int .i64 f.by']
structure FI (f : Ft) : Prop where
 tr : Iw f.tr
 sp : Iw f.sp
 sv : Iw f.sv
 ve : Iw f.ve
 op : Iw f.op
 pe : Iw f.pe
 da : Iw f.da
 lo : Iw f.lo
 hi : Iw f.hi
 by' : Iw f.by'
abbrev VF (f : Ft) : Prop := (0 ≤ f.tr ∧ f.tr ≤ 999) ∧ (0 ≤ f.sp ∧ f.sp ≤ 9) ∧ (0 ≤ f.sv ∧ f.sv ≤ 7) ∧ (0 ≤ f.ve ∧ f.ve ≤ 9) ∧ (0 ≤ f.op ∧ f.op ≤ 11) ∧ (-1 ≤ f.pe ∧ f.pe ≤ 19) ∧ f.da = f.tr / 10 ∧ (0 ≤ f.lo ∧ f.lo ≤ f.hi) ∧ f.hi ≤ 4398046511104 ∧ (0 ≤ f.by' ∧ f.by' ≤ 24000)
set_option maxHeartbeats 4000000 in
theorem c_VF {w0 : World} {f : Ft} (hf : FI f) : Calls Tryz.prog 61 #[vF f] w0 (Ret fun r w' => Ext w0 w' ∧ r = .bool (decide (VF f))) := by
 obtain ⟨i1, i2, i3, i4, i5, i6, i7, i8, i9, i10⟩ := hf
 by_cases n1 : 0 ≤ f.tr ∧ f.tr ≤ 999
 rotate_left
 ·rw [decide_eq_false (fun h : VF f => n1 h.1)]
  have cc1 := fun {W : World} (_ : Ext w0 W) => c_tinF (w := W) n1
  apply e_trace_ValidFact
  unfold s_trace_ValidFact
  have h := Hp.init [] w0
  refine bxA h fun g1 w h => ?_
  refine faS (Eng.ld1 h 0 rfl rfl (cl1 h n_trace_within (cc1 h.ext) fun w h => ?_))
  refine Gd_FT (Gd_FT (Gd_FT (Pick_F (Gd_FT (Gd_FT (Gd_FT (Pick_F (Gd_FT (Gd_FT (Gd_FT (Pick_F (Gd_FT (Gd_FT (Gd_FT (Pick_F (Gd_FT (Gd_FT (Gd_FT (Pick_F (Gd_FT (Gd_FT (Gd_FT (Gd_FT (Gd_FT (Gd_FT (Pick_F (Gd_FT (Gd_FT (Gd_FT (Gd_FT (Gd_FT (Pick_F (Gd_FT (Gd_FT (Gd_FT (Pick_F (Gd_FT (Gd_FT (Gd_FT ?_)))))))))))))))))))))))))))))))))))))))
  refine Pick_F ?_
  exact Ret.mk ⟨h.ext, rfl⟩
 have cc1 := fun {W : World} (_ : Ext w0 W) => c_tinT (w := W) n1
 by_cases n2 : 0 ≤ f.sp ∧ f.sp ≤ 9
 rotate_left
 ·rw [decide_eq_false (fun h : VF f => n2 h.2.1)]
  have cc2 := fun {W : World} (_ : Ext w0 W) => c_tinF (w := W) n2
  apply e_trace_ValidFact
  unfold s_trace_ValidFact
  have h := Hp.init [] w0
  refine bxA h fun g1 w h => ?_
  refine faS (Eng.ld1 h 0 rfl rfl (cl1 h n_trace_within (cc1 h.ext) fun w h => ?_))
  refine Gd_T (faS (Gd_T (Eng.ld1 h 0 rfl rfl (Gd_T (cl1 h n_trace_within (cc2 h.ext) fun w h => ?_)))))
  refine Pick_T (Gd_FT (Gd_FT (Gd_FT (Pick_F (Gd_FT (Gd_FT (Gd_FT (Pick_F (Gd_FT (Gd_FT (Gd_FT (Pick_F (Gd_FT (Gd_FT (Gd_FT (Pick_F (Gd_FT (Gd_FT (Gd_FT (Gd_FT (Gd_FT (Gd_FT (Pick_F (Gd_FT (Gd_FT (Gd_FT (Gd_FT (Gd_FT (Pick_F (Gd_FT (Gd_FT (Gd_FT (Pick_F (Gd_FT (Gd_FT (Gd_FT (Pick_F ?_)))))))))))))))))))))))))))))))))))))
  exact Ret.mk ⟨h.ext, rfl⟩
 have cc2 := fun {W : World} (_ : Ext w0 W) => c_tinT (w := W) n2
 by_cases n3 : 0 ≤ f.sv ∧ f.sv ≤ 7
 rotate_left
 ·rw [decide_eq_false (fun h : VF f => n3 h.2.2.1)]
  have cc3 := fun {W : World} (_ : Ext w0 W) => c_tinF (w := W) n3
  apply e_trace_ValidFact
  unfold s_trace_ValidFact
  have h := Hp.init [] w0
  refine bxA h fun g1 w h => ?_
  refine faS (Eng.ld1 h 0 rfl rfl (cl1 h n_trace_within (cc1 h.ext) fun w h => ?_))
  refine Gd_T (faS (Gd_T (Eng.ld1 h 0 rfl rfl (Gd_T (cl1 h n_trace_within (cc2 h.ext) fun w h => ?_)))))
  refine Pick_T (Gd_T (faS (Gd_T (Eng.ld1 h 0 rfl rfl (Gd_T (cl1 h n_trace_within (cc3 h.ext) fun w h => ?_))))))
  refine Pick_T (Gd_FT (Gd_FT (Gd_FT (Pick_F (Gd_FT (Gd_FT (Gd_FT (Pick_F (Gd_FT (Gd_FT (Gd_FT (Pick_F (Gd_FT (Gd_FT (Gd_FT (Gd_FT (Gd_FT (Gd_FT (Pick_F (Gd_FT (Gd_FT (Gd_FT (Gd_FT (Gd_FT (Pick_F (Gd_FT (Gd_FT (Gd_FT (Pick_F (Gd_FT (Gd_FT (Gd_FT (Pick_F ?_)))))))))))))))))))))))))))))))))
  exact Ret.mk ⟨h.ext, rfl⟩
 have cc3 := fun {W : World} (_ : Ext w0 W) => c_tinT (w := W) n3
 by_cases n4 : 0 ≤ f.ve ∧ f.ve ≤ 9
 rotate_left
 ·rw [decide_eq_false (fun h : VF f => n4 h.2.2.2.1)]
  have cc4 := fun {W : World} (_ : Ext w0 W) => c_tinF (w := W) n4
  apply e_trace_ValidFact
  unfold s_trace_ValidFact
  have h := Hp.init [] w0
  refine bxA h fun g1 w h => ?_
  refine faS (Eng.ld1 h 0 rfl rfl (cl1 h n_trace_within (cc1 h.ext) fun w h => ?_))
  refine Gd_T (faS (Gd_T (Eng.ld1 h 0 rfl rfl (Gd_T (cl1 h n_trace_within (cc2 h.ext) fun w h => ?_)))))
  refine Pick_T (Gd_T (faS (Gd_T (Eng.ld1 h 0 rfl rfl (Gd_T (cl1 h n_trace_within (cc3 h.ext) fun w h => ?_))))))
  refine Pick_T (Gd_T (faS (Gd_T (Eng.ld1 h 0 rfl rfl (Gd_T (cl1 h n_trace_within (cc4 h.ext) fun w h => ?_))))))
  refine Pick_T (Gd_FT (Gd_FT (Gd_FT (Pick_F (Gd_FT (Gd_FT (Gd_FT (Pick_F (Gd_FT (Gd_FT (Gd_FT (Gd_FT (Gd_FT (Gd_FT (Pick_F (Gd_FT (Gd_FT (Gd_FT (Gd_FT (Gd_FT (Pick_F (Gd_FT (Gd_FT (Gd_FT (Pick_F (Gd_FT (Gd_FT (Gd_FT (Pick_F ?_)))))))))))))))))))))))))))))
  exact Ret.mk ⟨h.ext, rfl⟩
 have cc4 := fun {W : World} (_ : Ext w0 W) => c_tinT (w := W) n4
 by_cases n5 : 0 ≤ f.op ∧ f.op ≤ 11
 rotate_left
 ·rw [decide_eq_false (fun h : VF f => n5 h.2.2.2.2.1)]
  have cc5 := fun {W : World} (_ : Ext w0 W) => c_tinF (w := W) n5
  apply e_trace_ValidFact
  unfold s_trace_ValidFact
  have h := Hp.init [] w0
  refine bxA h fun g1 w h => ?_
  refine faS (Eng.ld1 h 0 rfl rfl (cl1 h n_trace_within (cc1 h.ext) fun w h => ?_))
  refine Gd_T (faS (Gd_T (Eng.ld1 h 0 rfl rfl (Gd_T (cl1 h n_trace_within (cc2 h.ext) fun w h => ?_)))))
  refine Pick_T (Gd_T (faS (Gd_T (Eng.ld1 h 0 rfl rfl (Gd_T (cl1 h n_trace_within (cc3 h.ext) fun w h => ?_))))))
  refine Pick_T (Gd_T (faS (Gd_T (Eng.ld1 h 0 rfl rfl (Gd_T (cl1 h n_trace_within (cc4 h.ext) fun w h => ?_))))))
  refine Pick_T (Gd_T (faS (Gd_T (Eng.ld1 h 0 rfl rfl (Gd_T (cl1 h n_trace_within (cc5 h.ext) fun w h => ?_))))))
  refine Pick_T (Gd_FT (Gd_FT (Gd_FT (Pick_F (Gd_FT (Gd_FT (Gd_FT (Gd_FT (Gd_FT (Gd_FT (Pick_F (Gd_FT (Gd_FT (Gd_FT (Gd_FT (Gd_FT (Pick_F (Gd_FT (Gd_FT (Gd_FT (Pick_F (Gd_FT (Gd_FT (Gd_FT (Pick_F ?_)))))))))))))))))))))))))
  exact Ret.mk ⟨h.ext, rfl⟩
 have cc5 := fun {W : World} (_ : Ext w0 W) => c_tinT (w := W) n5
 by_cases n6 : -1 ≤ f.pe ∧ f.pe ≤ 19
 rotate_left
 ·rw [decide_eq_false (fun h : VF f => n6 h.2.2.2.2.2.1)]
  have cc6 := fun {W : World} (_ : Ext w0 W) => c_tinF (w := W) n6
  apply e_trace_ValidFact
  unfold s_trace_ValidFact
  have h := Hp.init [] w0
  refine bxA h fun g1 w h => ?_
  refine faS (Eng.ld1 h 0 rfl rfl (cl1 h n_trace_within (cc1 h.ext) fun w h => ?_))
  refine Gd_T (faS (Gd_T (Eng.ld1 h 0 rfl rfl (Gd_T (cl1 h n_trace_within (cc2 h.ext) fun w h => ?_)))))
  refine Pick_T (Gd_T (faS (Gd_T (Eng.ld1 h 0 rfl rfl (Gd_T (cl1 h n_trace_within (cc3 h.ext) fun w h => ?_))))))
  refine Pick_T (Gd_T (faS (Gd_T (Eng.ld1 h 0 rfl rfl (Gd_T (cl1 h n_trace_within (cc4 h.ext) fun w h => ?_))))))
  refine Pick_T (Gd_T (faS (Gd_T (Eng.ld1 h 0 rfl rfl (Gd_T (cl1 h n_trace_within (cc5 h.ext) fun w h => ?_))))))
  refine Pick_T (Gd_T (faS (Gd_T (Eng.ld1 h 0 rfl rfl (Gd_T (cl1 h n_trace_within (cc6 h.ext) fun w h => ?_))))))
  refine Pick_T (Gd_FT (Gd_FT (Gd_FT (Gd_FT (Gd_FT (Gd_FT (Pick_F (Gd_FT (Gd_FT (Gd_FT (Gd_FT (Gd_FT (Pick_F (Gd_FT (Gd_FT (Gd_FT (Pick_F (Gd_FT (Gd_FT (Gd_FT (Pick_F ?_)))))))))))))))))))))
  exact Ret.mk ⟨h.ext, rfl⟩
 have cc6 := fun {W : World} (_ : Ext w0 W) => c_tinT (w := W) n6
 by_cases n7 : f.da = f.tr / 10
 rotate_left
 ·rw [decide_eq_false (fun h : VF f => n7 h.2.2.2.2.2.2.1)]
  apply e_trace_ValidFact
  unfold s_trace_ValidFact
  have h := Hp.init [] w0
  refine bxA h fun g1 w h => ?_
  refine faS (Eng.ld1 h 0 rfl rfl (cl1 h n_trace_within (cc1 h.ext) fun w h => ?_))
  refine Gd_T (faS (Gd_T (Eng.ld1 h 0 rfl rfl (Gd_T (cl1 h n_trace_within (cc2 h.ext) fun w h => ?_)))))
  refine Pick_T (Gd_T (faS (Gd_T (Eng.ld1 h 0 rfl rfl (Gd_T (cl1 h n_trace_within (cc3 h.ext) fun w h => ?_))))))
  refine Pick_T (Gd_T (faS (Gd_T (Eng.ld1 h 0 rfl rfl (Gd_T (cl1 h n_trace_within (cc4 h.ext) fun w h => ?_))))))
  refine Pick_T (Gd_T (faS (Gd_T (Eng.ld1 h 0 rfl rfl (Gd_T (cl1 h n_trace_within (cc5 h.ext) fun w h => ?_))))))
  refine Pick_T (Gd_T (faS (Gd_T (Eng.ld1 h 0 rfl rfl (Gd_T (cl1 h n_trace_within (cc6 h.ext) fun w h => ?_))))))
  refine Pick_T (Gd_T (faS (Gd_T (Eng.ld1 h 0 rfl rfl (Gd_T (faS (Gd_T (Eng.ld1 h 0 rfl rfl (Gd_T (Bn_qu (by omega) (by omega) (by omega) (Gd_T (Bn_eqF (by omega) (Pick_T (Gd_FT (Gd_FT (Gd_FT (Gd_FT (Gd_FT (Pick_F (Gd_FT (Gd_FT (Gd_FT (Pick_F (Gd_FT (Gd_FT (Gd_FT (Pick_F ?_)))))))))))))))))))))))))))
  exact Ret.mk ⟨h.ext, rfl⟩
 by_cases n8 : 0 ≤ f.lo ∧ f.lo ≤ f.hi
 rotate_left
 ·rw [decide_eq_false (fun h : VF f => n8 h.2.2.2.2.2.2.2.1)]
  have cc8 := fun {W : World} (_ : Ext w0 W) => c_tinF (w := W) n8
  apply e_trace_ValidFact
  unfold s_trace_ValidFact
  have h := Hp.init [] w0
  refine bxA h fun g1 w h => ?_
  refine faS (Eng.ld1 h 0 rfl rfl (cl1 h n_trace_within (cc1 h.ext) fun w h => ?_))
  refine Gd_T (faS (Gd_T (Eng.ld1 h 0 rfl rfl (Gd_T (cl1 h n_trace_within (cc2 h.ext) fun w h => ?_)))))
  refine Pick_T (Gd_T (faS (Gd_T (Eng.ld1 h 0 rfl rfl (Gd_T (cl1 h n_trace_within (cc3 h.ext) fun w h => ?_))))))
  refine Pick_T (Gd_T (faS (Gd_T (Eng.ld1 h 0 rfl rfl (Gd_T (cl1 h n_trace_within (cc4 h.ext) fun w h => ?_))))))
  refine Pick_T (Gd_T (faS (Gd_T (Eng.ld1 h 0 rfl rfl (Gd_T (cl1 h n_trace_within (cc5 h.ext) fun w h => ?_))))))
  refine Pick_T (Gd_T (faS (Gd_T (Eng.ld1 h 0 rfl rfl (Gd_T (cl1 h n_trace_within (cc6 h.ext) fun w h => ?_))))))
  refine Pick_T (Gd_T (faS (Gd_T (Eng.ld1 h 0 rfl rfl (Gd_T (faS (Gd_T (Eng.ld1 h 0 rfl rfl (Gd_T (Bn_qu (by omega) (by omega) (by omega) (Gd_T (Bn_eqT (by omega) (Pick_T (Gd_T (faS (Gd_T (Eng.ld1 h 0 rfl rfl (Gd_T (faS (Gd_T (Eng.ld1 h 0 rfl rfl (Gd_T (cl1 h n_trace_within (cc8 h.ext) fun w h => ?_)))))))))))))))))))))))
  refine Pick_T (Gd_FT (Gd_FT (Gd_FT (Pick_F (Gd_FT (Gd_FT (Gd_FT (Pick_F ?_))))))))
  exact Ret.mk ⟨h.ext, rfl⟩
 have cc8 := fun {W : World} (_ : Ext w0 W) => c_tinT (w := W) n8
 by_cases n9 : f.hi ≤ 4398046511104
 rotate_left
 ·rw [decide_eq_false (fun h : VF f => n9 h.2.2.2.2.2.2.2.2.1)]
  apply e_trace_ValidFact
  unfold s_trace_ValidFact
  have h := Hp.init [] w0
  refine bxA h fun g1 w h => ?_
  refine faS (Eng.ld1 h 0 rfl rfl (cl1 h n_trace_within (cc1 h.ext) fun w h => ?_))
  refine Gd_T (faS (Gd_T (Eng.ld1 h 0 rfl rfl (Gd_T (cl1 h n_trace_within (cc2 h.ext) fun w h => ?_)))))
  refine Pick_T (Gd_T (faS (Gd_T (Eng.ld1 h 0 rfl rfl (Gd_T (cl1 h n_trace_within (cc3 h.ext) fun w h => ?_))))))
  refine Pick_T (Gd_T (faS (Gd_T (Eng.ld1 h 0 rfl rfl (Gd_T (cl1 h n_trace_within (cc4 h.ext) fun w h => ?_))))))
  refine Pick_T (Gd_T (faS (Gd_T (Eng.ld1 h 0 rfl rfl (Gd_T (cl1 h n_trace_within (cc5 h.ext) fun w h => ?_))))))
  refine Pick_T (Gd_T (faS (Gd_T (Eng.ld1 h 0 rfl rfl (Gd_T (cl1 h n_trace_within (cc6 h.ext) fun w h => ?_))))))
  refine Pick_T (Gd_T (faS (Gd_T (Eng.ld1 h 0 rfl rfl (Gd_T (faS (Gd_T (Eng.ld1 h 0 rfl rfl (Gd_T (Bn_qu (by omega) (by omega) (by omega) (Gd_T (Bn_eqT (by omega) (Pick_T (Gd_T (faS (Gd_T (Eng.ld1 h 0 rfl rfl (Gd_T (faS (Gd_T (Eng.ld1 h 0 rfl rfl (Gd_T (cl1 h n_trace_within (cc8 h.ext) fun w h => ?_)))))))))))))))))))))))
  refine Pick_T (Gd_T (faS (Gd_T (Eng.ld1 h 0 rfl rfl (Gd_T (Bn_leF (by omega) (Pick_T (Gd_FT (Gd_FT (Gd_FT (Pick_F ?_)))))))))))
  exact Ret.mk ⟨h.ext, rfl⟩
 by_cases n10 : 0 ≤ f.by' ∧ f.by' ≤ 24000
 rotate_left
 ·rw [decide_eq_false (fun h : VF f => n10 h.2.2.2.2.2.2.2.2.2)]
  have cc10 := fun {W : World} (_ : Ext w0 W) => c_tinF (w := W) n10
  apply e_trace_ValidFact
  unfold s_trace_ValidFact
  have h := Hp.init [] w0
  refine bxA h fun g1 w h => ?_
  refine faS (Eng.ld1 h 0 rfl rfl (cl1 h n_trace_within (cc1 h.ext) fun w h => ?_))
  refine Gd_T (faS (Gd_T (Eng.ld1 h 0 rfl rfl (Gd_T (cl1 h n_trace_within (cc2 h.ext) fun w h => ?_)))))
  refine Pick_T (Gd_T (faS (Gd_T (Eng.ld1 h 0 rfl rfl (Gd_T (cl1 h n_trace_within (cc3 h.ext) fun w h => ?_))))))
  refine Pick_T (Gd_T (faS (Gd_T (Eng.ld1 h 0 rfl rfl (Gd_T (cl1 h n_trace_within (cc4 h.ext) fun w h => ?_))))))
  refine Pick_T (Gd_T (faS (Gd_T (Eng.ld1 h 0 rfl rfl (Gd_T (cl1 h n_trace_within (cc5 h.ext) fun w h => ?_))))))
  refine Pick_T (Gd_T (faS (Gd_T (Eng.ld1 h 0 rfl rfl (Gd_T (cl1 h n_trace_within (cc6 h.ext) fun w h => ?_))))))
  refine Pick_T (Gd_T (faS (Gd_T (Eng.ld1 h 0 rfl rfl (Gd_T (faS (Gd_T (Eng.ld1 h 0 rfl rfl (Gd_T (Bn_qu (by omega) (by omega) (by omega) (Gd_T (Bn_eqT (by omega) (Pick_T (Gd_T (faS (Gd_T (Eng.ld1 h 0 rfl rfl (Gd_T (faS (Gd_T (Eng.ld1 h 0 rfl rfl (Gd_T (cl1 h n_trace_within (cc8 h.ext) fun w h => ?_)))))))))))))))))))))))
  refine Pick_T (Gd_T (faS (Gd_T (Eng.ld1 h 0 rfl rfl (Gd_T (Bn_leT (by omega) (Pick_T (Gd_T (faS (Gd_T (Eng.ld1 h 0 rfl rfl (Gd_T (cl1 h n_trace_within (cc10 h.ext) fun w h => ?_)))))))))))))
  refine Pick_T ?_
  exact Ret.mk ⟨h.ext, rfl⟩
 have cc10 := fun {W : World} (_ : Ext w0 W) => c_tinT (w := W) n10
 rw [decide_eq_true (show VF f from ⟨n1, n2, n3, n4, n5, n6, n7, n8, n9, n10⟩)]
 apply e_trace_ValidFact
 unfold s_trace_ValidFact
 have h := Hp.init [] w0
 refine bxA h fun g1 w h => ?_
 refine faS (Eng.ld1 h 0 rfl rfl (cl1 h n_trace_within (cc1 h.ext) fun w h => ?_))
 refine Gd_T (faS (Gd_T (Eng.ld1 h 0 rfl rfl (Gd_T (cl1 h n_trace_within (cc2 h.ext) fun w h => ?_)))))
 refine Pick_T (Gd_T (faS (Gd_T (Eng.ld1 h 0 rfl rfl (Gd_T (cl1 h n_trace_within (cc3 h.ext) fun w h => ?_))))))
 refine Pick_T (Gd_T (faS (Gd_T (Eng.ld1 h 0 rfl rfl (Gd_T (cl1 h n_trace_within (cc4 h.ext) fun w h => ?_))))))
 refine Pick_T (Gd_T (faS (Gd_T (Eng.ld1 h 0 rfl rfl (Gd_T (cl1 h n_trace_within (cc5 h.ext) fun w h => ?_))))))
 refine Pick_T (Gd_T (faS (Gd_T (Eng.ld1 h 0 rfl rfl (Gd_T (cl1 h n_trace_within (cc6 h.ext) fun w h => ?_))))))
 refine Pick_T (Gd_T (faS (Gd_T (Eng.ld1 h 0 rfl rfl (Gd_T (faS (Gd_T (Eng.ld1 h 0 rfl rfl (Gd_T (Bn_qu (by omega) (by omega) (by omega) (Gd_T (Bn_eqT (by omega) (Pick_T (Gd_T (faS (Gd_T (Eng.ld1 h 0 rfl rfl (Gd_T (faS (Gd_T (Eng.ld1 h 0 rfl rfl (Gd_T (cl1 h n_trace_within (cc8 h.ext) fun w h => ?_)))))))))))))))))))))))
 refine Pick_T (Gd_T (faS (Gd_T (Eng.ld1 h 0 rfl rfl (Gd_T (Bn_leT (by omega) (Pick_T (Gd_T (faS (Gd_T (Eng.ld1 h 0 rfl rfl (Gd_T (cl1 h n_trace_within (cc10 h.ext) fun w h => ?_)))))))))))))
 refine Pick_T ?_
 exact Ret.mk ⟨h.ext, rfl⟩
theorem c_cmpJ {w0 : World} {a b : Int} : Calls Tryz.prog 90 #[.int .i64 a, .int .i64 b] w0 (Ret fun r w' => Ext w0 w' ∧ r = .int .i64 (cmpI a b)) := by
 have cn : ∀ {W : World} {x : Int}, Calls Tryz.prog 120 #[.int .i64 x] W (Ret fun r w' => Ext W w' ∧ r = .bool false) := fun {W x} => by
  refine (Tryz.cmp_isNaN_int x W).mono ?_
  rintro _ w' ⟨rfl, rfl⟩
  exact Ret.mk ⟨.refl _, rfl⟩
 have cc1 := fun {W : World} (_ : Ext w0 W) => cn (W := W) (x := a)
 have cc2 := fun {W : World} (_ : Ext w0 W) => cn (W := W) (x := b)
 by_cases h1 : a < b
 ·rw [show cmpI a b = -1 by unfold cmpI; rw [if_pos h1]]
  apply e_cmp_Compare_int
  unfold s_cmp_Compare_int
  have h := Hp.init [] w0
  refine cl1 h n_cmp_isNaN_int (cc1 h.ext) fun w h => ?_
  refine cl1 h n_cmp_isNaN_int (cc2 h.ext) fun w h => ?_
  refine If_F (If_F (Bn_ltT (by omega) (If_T ?_)))
  exact Ret.mk ⟨h.ext, rfl⟩
 by_cases h2 : b < a
 ·rw [show cmpI a b = 1 by unfold cmpI; rw [if_neg h1, if_pos h2]]
  apply e_cmp_Compare_int
  unfold s_cmp_Compare_int
  have h := Hp.init [] w0
  refine cl1 h n_cmp_isNaN_int (cc1 h.ext) fun w h => ?_
  refine cl1 h n_cmp_isNaN_int (cc2 h.ext) fun w h => ?_
  refine If_F (If_F (Bn_ltF (by omega) (If_F (Bn_gtT (by omega) (If_T ?_)))))
  exact Ret.mk ⟨h.ext, rfl⟩
 rw [show cmpI a b = 0 by unfold cmpI; rw [if_neg h1, if_neg h2]]
 apply e_cmp_Compare_int
 unfold s_cmp_Compare_int
 have h := Hp.init [] w0
 refine cl1 h n_cmp_isNaN_int (cc1 h.ext) fun w h => ?_
 refine cl1 h n_cmp_isNaN_int (cc2 h.ext) fun w h => ?_
 refine If_F (If_F (Bn_ltF (by omega) (If_F (Bn_gtF (by omega) (If_F ?_)))))
 exact Ret.mk ⟨h.ext, rfl⟩
def orI (a b : Int) : Int := if a ≠ 0 then a else b
theorem c_Or {w0 : World} {v : Value} {a b : Int} (hv : SlC w0 1 v 2 [.int .i64 a, .int .i64 b]) : Calls Tryz.prog 89 #[v] w0 (Ret fun r w' => Ext w0 w' ∧ r = .int .i64 (orI a b)) := by
 have s0 : Seg [.int .i64 a, .int .i64 b] (0 * 1) [.int .i64 a] := by
  intro k v hk
  rcases k with _ | k
  ·exact hk
  ·simp at hk
 have s1 : Seg [.int .i64 a, .int .i64 b] (1 * 1) [.int .i64 b] := by
  intro k v hk
  rcases k with _ | k
  ·exact hk
  ·simp at hk
 obtain ⟨z, hz⟩ : ∃ z, orI a b = z := ⟨_, rfl⟩
 rw [hz]
 apply e_cmp_Or_int
 unfold s_cmp_Or_int
 have h := Hp.init [] w0
 refine leS (hv.hp h) ?_
 refine Lp1.mk (fun i W => ∃ j : Nat, j ≤ 2 ∧ i = .int .i64 j ∧ (1 ≤ j → a = 0) ∧ (2 ≤ j → b = 0) ∧ Hp [] w0 W [])
  (fun i _ => match i with | .int _ i' => 2 - i'.toNat | _ => 0) ⟨0, by omega, rfl, by omega, by omega, h⟩ ?_
 clear h
 rintro _ W ⟨j, hj, rfl, ha, hb, h⟩
 rcases (show j = 0 ∨ j = 1 ∨ j = 2 by omega) with rfl | rfl | rfl
 ·by_cases h0 : a = 0
  ·refine Bn_ltT (by omega) (If_T (iaH h ‹_› (by omega) fun zb zo zk zv zc => ?_))
   refine lh0 h ‹_› ‹_› (by rfl) ?_
   refine Bn_neF (by omega) (If_F (Bn_ad (by omega) (by omega) ?_))
   exact ⟨⟨1, by omega, rfl, fun _ => h0, by omega, h⟩, by decide⟩
  ·have e : z = a := by rw [← hz]; unfold orI; rw [if_pos h0]
   subst e
   refine Bn_ltT (by omega) (If_T (iaH h ‹_› (by omega) fun zb zo zk zv zc => ?_))
   refine lh0 h ‹_› ‹_› (by rfl) ?_
   refine Bn_neT (by omega) (If_T ?_)
   exact Ret.mk ⟨h.ext, rfl⟩
 ·have ha := ha (by omega)
  by_cases h0 : b = 0
  ·refine Bn_ltT (by omega) (If_T (iaH h ‹_› (by omega) fun zb zo zk zv zc => ?_))
   refine lh0 h ‹_› ‹_› (by rfl) ?_
   refine Bn_neF (by omega) (If_F (Bn_ad (by omega) (by omega) ?_))
   exact ⟨⟨2, by omega, rfl, fun _ => ha, fun _ => h0, h⟩, by decide⟩
  ·have e : z = b := by rw [← hz]; unfold orI; rw [if_neg (by simp [ha])]
   subst e
   refine Bn_ltT (by omega) (If_T (iaH h ‹_› (by omega) fun zb zo zk zv zc => ?_))
   refine lh0 h ‹_› ‹_› (by rfl) ?_
   refine Bn_neT (by omega) (If_T ?_)
   exact Ret.mk ⟨h.ext, rfl⟩
 ·have e : z = 0 := by rw [← hz]; unfold orI; rw [if_neg (by simp [ha (by omega)])]; exact hb (by omega)
  subst e
  refine Bn_ltF (by omega) (If_F ?_)
  exact Ret.mk ⟨h.ext, rfl⟩
def plZ (f g : Ft) : Int := orI (cmpI f.tr g.tr) (cmpI f.sp g.sp)
abbrev ltF (f g : Ft) : Prop := f.tr < g.tr ∨ (f.tr = g.tr ∧ f.sp < g.sp)
theorem plZ_lt (f g : Ft) : plZ f g < 0 ↔ ltF f g := by
 unfold plZ orI ltF
 rcases Int.lt_trichotomy f.tr g.tr with h | h | h
 ·rw [cmpI_lt h, if_pos (by decide)]
  exact ⟨fun _ => .inl h, fun _ => by decide⟩
 ·rw [cmpI_eq h, if_neg (by simp)]
  rcases Int.lt_trichotomy f.sp g.sp with h2 | h2 | h2
  ·rw [cmpI_lt h2]
   exact ⟨fun _ => .inr ⟨h, h2⟩, fun _ => by decide⟩
  ·rw [cmpI_eq h2]
   exact ⟨fun h => absurd h (by decide), fun h => by omega⟩
  ·rw [cmpI_gt h2]
   exact ⟨fun h => absurd h (by decide), fun h => by omega⟩
 ·rw [cmpI_gt h, if_pos (by decide)]
  exact ⟨fun h => absurd h (by decide), fun h => by omega⟩
set_option maxHeartbeats 1000000 in
theorem c_byPl {w0 : World} {f g : Ft} : Calls Tryz.prog 62 #[vF f, vF g] w0 (Ret fun r w' => Ext w0 w' ∧ r = .int .i64 (plZ f g)) := by
 have cc1 := fun {W : World} (_ : Ext w0 W) => c_cmpJ (w0 := W) (a := f.tr) (b := g.tr)
 have cc2 := fun {W : World} (_ : Ext w0 W) => c_cmpJ (w0 := W) (a := f.sp) (b := g.sp)
 apply e_trace_byPlace
 unfold s_trace_byPlace
 have h := Hp.init [] w0
 refine bxA h fun g1 w h => ?_
 refine bxA h fun g2 w h => ?_
 replace h := h.dr
 refine dfS (dl1 h 1 rfl rfl (dfS (dl1 h 0 rfl rfl (dfS (dl1 h 1 rfl rfl (dfS (dl1 h 0 rfl rfl (cl1 h n_cmp_Compare_int (cc1 h.ext) fun w h => ?_))))))))
 refine kl1 h 1 rfl rfl (kl1 h 0 rfl rfl (cl1 h n_cmp_Compare_int (cc2 h.ext) fun w h => ?_))
 refine bsN (vs := [_, _]) h (.cons (by rfl) (by rfl) (.cons (by rfl) (by rfl) .nil)) (by rfl) (by rfl) (by decide) (by decide) (by decide) fun v1 w h => ?_
 refine Cl_i n_cmp_Or_int (c_Or (qZ 0 h rfl)) ?_
 rintro _ w' ⟨x, rfl⟩
 have h := h.x x
 exact Ret.mk ⟨h.ext, rfl⟩
def OrdF (l : List Ft) : Prop := ∀ i a b, l[i]? = some a → l[i + 1]? = some b → ltF a b
def VFs (l : List Ft) : Prop := l.length ≤ 400 ∧ (∀ f ∈ l, VF f) ∧ OrdF l
open Classical in
noncomputable def okF (l : List Ft) : Bool := decide (VFs l)
theorem okF_t {l : List Ft} (h : VFs l) : okF l = true := by unfold okF; simp [h]
theorem okF_f {l : List Ft} (h : ¬ VFs l) : okF l = false := by unfold okF; simp [h]
structure Fk (w : World) (v : Value) (l : List Ft) : Prop where
 hv : SlC w 10 v l.length (l.flatMap fF)
 hi : ∀ f ∈ l, FI f
 hl : l.length ≤ 1000000000
theorem Fk.ext {w w' : World} {v : Value} {l : List Ft} (h : Fk w v l) (x : Ext w w') : Fk w' v l := ⟨h.hv.ext x, h.hi, h.hl⟩
section
variable {w0 : World} {v : Value} {l : List Ft} (hF : Fk w0 v l)
include hF
set_option maxHeartbeats 4000000 in
theorem c_sorted (ho : OrdF l) : Calls Tryz.prog 63 #[v, .func (.func 62) #[] #[]] w0 (Ret fun r w' => Ext w0 w' ∧ r = .bool true) := by
 obtain ⟨hv, hi, hl⟩ := hF
 apply e_slices_IsSortedFunc_api_Fact_api_Fact
 unfold s_slices_IsSortedFunc_api_Fact_api_Fact
 have h := Hp.init [] w0
 refine leS (hv.hp h) ?_
 refine Bn_su (by omega) (by omega) ?_
 refine Lp1.mk (fun i W => ∃ z : Int, -1 ≤ z ∧ z < l.length ∧ i = .int .i64 z ∧ Hp [] w0 W [])
  (fun i _ => match i with | .int _ i' => (i' + 1).toNat | _ => 0) ⟨_, by omega, by omega, rfl, h⟩ ?_
 clear h
 rintro _ W ⟨z, hz0, hz1, rfl, h⟩
 by_cases hz : 0 < z
 ·refine Exists.elim (p := fun k : Nat => z = ((k + 1 : Nat) : Int)) ⟨(z - 1).toNat, by omega⟩ fun k hk => ?_
  subst hk
  refine Exists.elim (p := fun x => l[k + 1]? = some x) ⟨_, List.getElem?_eq_getElem (by omega)⟩ fun x hx => ?_
  refine Exists.elim (p := fun x => l[k]? = some x) ⟨_, List.getElem?_eq_getElem (by omega)⟩ fun y hy => ?_
  have sx : Seg (l.flatMap fF) ((k + 1) * 10) (fF x) := flat_seg (f := fF) (fun _ => rfl) hx
  have sy : Seg (l.flatMap fF) ((((k + 1 : Nat) : Int) - 1).toNat * 10) (fF y) := by
   rw [show (((k + 1 : Nat) : Int) - 1).toNat = k by omega]
   exact flat_seg (f := fF) (fun _ => rfl) hy
  have hlt := ho k y x hy hx
  have hn : ¬ plZ x y < 0 := fun h => by
   have := (plZ_lt x y).1 h
   omega
  have cc1 := fun {W : World} (_ : Ext w0 W) => c_byPl (w0 := W) (f := x) (g := y)
  refine Bn_gtT (by omega) (If_T ?_)
  replace h := h.dr
  refine diH h ‹_› (by omega) fun zb zo zk zv zc => ?_
  refine dhA h ‹_› ‹_› (by rfl) ?_
  refine Dv_su (by omega) (by omega) (diHz h ‹_› (by omega) (by omega) fun zb zo zk zv zc => ?_)
  refine dhA h ‹_› ‹_› (by rfl) ?_
  refine cw1 h n_trace_byPlace (cc1 h.ext) fun w h => ?_
  refine Dv_ltF (by omega) (If_F (Bn_su (by omega) (by omega) ?_))
  exact ⟨⟨_, by omega, by omega, rfl, h⟩, by show ((((k + 1 : Nat) : Int) - 1) + 1).toNat < (((k + 1 : Nat) : Int) + 1).toNat; omega⟩
 ·refine Bn_gtF (by omega) (If_F ?_)
  exact Ret.mk ⟨h.ext, rfl⟩
set_option maxHeartbeats 4000000 in
theorem c_VFs : Calls Tryz.prog 40 #[v] w0 (Ret fun r w' => Ext w0 w' ∧ r = .bool (okF l)) := by
 have hso := fun {W : World} (e : Ext w0 W) ho => c_sorted (w0 := W) (hF.ext e) ho
 obtain ⟨hv, hi, hl⟩ := hF
 obtain ⟨b, hb⟩ : ∃ b, okF l = b := ⟨_, rfl⟩
 rw [hb]
 apply e_trace_ValidFacts
 unfold s_trace_ValidFacts
 have h := Hp.init [] w0
 refine leS (hv.hp h) ?_
 refine Lp1.mk (fun i W => ∃ j : Nat, j ≤ l.length ∧ i = .int .i64 j ∧ (∀ x ∈ l.take j, VF x) ∧ (∀ i a b, i + 1 < j → l[i]? = some a → l[i + 1]? = some b → ltF a b) ∧ Hp [] w0 W [])
  (fun i _ => match i with | .int _ i' => l.length - i'.toNat | _ => 0) ⟨0, by omega, rfl, by simp, by omega, h⟩ ?_
 clear h
 rintro _ W ⟨j, hj, rfl, hall, hord, h⟩
 by_cases hjl : j < l.length
 ·refine Exists.elim (p := fun x => l[j]? = some x) ⟨_, List.getElem?_eq_getElem hjl⟩ fun x hx => ?_
  have sx : Seg (l.flatMap fF) (j * 10) (fF x) := flat_seg (f := fF) (fun _ => rfl) hx
  have hxm := List.mem_of_getElem? hx
  have hvf := fun {W : World} (_ : Ext w0 W) => c_VF (w0 := W) (hi x hxm)
  by_cases hxv : VF x
  rotate_left
  ·rw [decide_eq_false hxv] at hvf
   have cc1 := @hvf
   have hb : b = false := by rw [← hb]; exact okF_f fun h => hxv (h.2.1 x hxm)
   subst hb
   refine Bn_ltT (by omega) (If_T (iaH h ‹_› (by omega) fun zb zo zk zv zc => ?_))
   refine lhA h ‹_› ‹_› (by rfl) ?_
   refine alS h fun g1 w h => ?_
   refine stA h 0 rfl rfl rfl rfl fun w h => ?_
   replace h := h.dr
   refine dlA h 0 rfl rfl ?_
   refine cl1 h n_trace_ValidFact (cc1 h.ext) fun w h => ?_
   refine Dv_nF (GdP_TF (GdP_TF (GdP_TF (GdP_U (GdP_U (GdP_U (GdP_U (GdP_U (GdP_U (Gd_U (GdP_U (GdP_TF (PickP_T (If_T ?_))))))))))))))
   dsimp only [List.set] at h
   exact Ret.mk ⟨h.ext, rfl⟩
  rw [decide_eq_true hxv] at hvf
  have cc1 := @hvf
  have hall' : ∀ y ∈ l.take (j + 1), VF y := fun y hy => by
   rw [take_snoc hx] at hy
   rcases List.mem_append.1 hy with hy | hy
   ·exact hall y hy
   ·rw [List.mem_singleton] at hy; rw [hy]; exact hxv
  by_cases hj0 : j = 0
  ·subst hj0
   refine Bn_ltT (by omega) (If_T (iaH h ‹_› (by omega) fun zb zo zk zv zc => ?_))
   refine lhA h ‹_› ‹_› (by rfl) ?_
   refine alS h fun g1 w h => ?_
   refine stA h 0 rfl rfl rfl rfl fun w h => ?_
   replace h := h.dr
   refine dlA h 0 rfl rfl ?_
   refine cl1 h n_trace_ValidFact (cc1 h.ext) fun w h => ?_
   refine Dv_nT (GdP_F (GdP_F (Dv_gtF (by omega) (GdP_F (GdP_FT (GdP_FT (GdP_FT (GdP_FT (GdP_FT (GdP_FT (Gd_FT (GdP_FT (GdP_F (PickP_F (PickP_F (If_F (Bn_ad (by omega) (by omega) ?_)))))))))))))))))
   dsimp only [List.set] at h
   exact ⟨⟨0 + 1, by omega, rfl, hall', by omega, h.drop 1⟩, by show l.length - (((0 : Nat) : Int) + 1).toNat < l.length - ((0 : Nat) : Int).toNat; omega⟩
  refine Exists.elim (p := fun k : Nat => j = k + 1) ⟨j - 1, by omega⟩ fun k hk => ?_
  subst hk
  refine Exists.elim (p := fun x => l[k]? = some x) ⟨_, List.getElem?_eq_getElem (by omega)⟩ fun y hy => ?_
  have sy : Seg (l.flatMap fF) ((((k + 1 : Nat) : Int) - 1).toNat * 10) (fF y) := by
   rw [show (((k + 1 : Nat) : Int) - 1).toNat = k by omega]
   exact flat_seg (f := fF) (fun _ => rfl) hy
  have cc2 := fun {W : World} (_ : Ext w0 W) => c_byPl (w0 := W) (f := y) (g := x)
  by_cases hlt : plZ y x < 0
  ·have hlt2 := (plZ_lt y x).1 hlt
   refine Bn_ltT (by omega) (If_T (iaH h ‹_› (by omega) fun zb zo zk zv zc => ?_))
   refine lhA h ‹_› ‹_› (by rfl) ?_
   refine alS h fun g1 w h => ?_
   refine stA h 0 rfl rfl rfl rfl fun w h => ?_
   replace h := h.dr
   refine dlA h 0 rfl rfl ?_
   refine cl1 h n_trace_ValidFact (cc1 h.ext) fun w h => ?_
   refine Dv_nT (GdP_F (GdP_F (Dv_gtT (by omega) (GdP_F (GdP_T (GdP_T (GdP_T (Dv_su (by omega) (by omega) (GdP_T (diHz h ‹_› (by omega) (by omega) fun zb zo zk zv zc => ?_))))))))))
   refine GdP_T (dhA h ‹_› ‹_› (by rfl) ?_)
   refine GdP_T (dlA h 0 rfl rfl ?_)
   refine Gd_T (cl1 h n_trace_byPlace (cc2 h.ext) fun w h => ?_)
   refine GdP_T (Dv_geF (by omega) (GdP_F (PickP_T (PickP_F (If_F (Bn_ad (by omega) (by omega) ?_))))))
   dsimp only [List.set] at h
   refine ⟨⟨k + 1 + 1, by omega, rfl, hall', fun i a b hi ha hb => ?_, h.drop 1⟩, by show l.length - (((k + 1 : Nat) : Int) + 1).toNat < l.length - ((k + 1 : Nat) : Int).toNat; omega⟩
   by_cases e : i = k
   ·subst e
    rw [hy] at ha
    rw [hx] at hb
    cases ha; cases hb
    exact hlt2
   ·exact hord i a b (by omega) ha hb
  ·have hb : b = false := by rw [← hb]; exact okF_f fun h => hlt ((plZ_lt y x).2 (h.2.2 k y x hy hx))
   subst hb
   refine Bn_ltT (by omega) (If_T (iaH h ‹_› (by omega) fun zb zo zk zv zc => ?_))
   refine lhA h ‹_› ‹_› (by rfl) ?_
   refine alS h fun g1 w h => ?_
   refine stA h 0 rfl rfl rfl rfl fun w h => ?_
   replace h := h.dr
   refine dlA h 0 rfl rfl ?_
   refine cl1 h n_trace_ValidFact (cc1 h.ext) fun w h => ?_
   refine Dv_nT (GdP_F (GdP_F (Dv_gtT (by omega) (GdP_F (GdP_T (GdP_T (GdP_T (Dv_su (by omega) (by omega) (GdP_T (diHz h ‹_› (by omega) (by omega) fun zb zo zk zv zc => ?_))))))))))
   refine GdP_T (dhA h ‹_› ‹_› (by rfl) ?_)
   refine GdP_T (dlA h 0 rfl rfl ?_)
   refine Gd_T (cl1 h n_trace_byPlace (cc2 h.ext) fun w h => ?_)
   refine GdP_T (Dv_geT (by omega) (GdP_F (PickP_T (PickP_F (If_T ?_)))))
   dsimp only [List.set] at h
   exact Ret.mk ⟨h.ext, rfl⟩
 have e : j = l.length := by omega
 subst e
 rw [List.take_length] at hall
 have ho : OrdF l := fun i a b ha hb => hord i a b (List.getElem?_eq_some_iff.1 hb).1 ha hb
 by_cases h400 : l.length ≤ 400
 ·have hb : b = true := by rw [← hb]; exact okF_t ⟨h400, hall, ho⟩
  subst hb
  have cc3 := fun {W : World} (e : Ext w0 W) => hso e ho
  refine Bn_ltF (by omega) (If_F (leS (hv.hp h) ?_))
  refine Bn_leT (by omega) (Gd_T (Gd_T (cl1 h n_slices_IsSortedFunc_api_Fact_api_Fact (cc3 h.ext) fun w h => ?_)))
  refine Pick_T ?_
  exact Ret.mk ⟨h.ext, rfl⟩
 ·have hb : b = false := by rw [← hb]; exact okF_f fun h => h400 h.1
  subst hb
  refine Bn_ltF (by omega) (If_F (leS (hv.hp h) ?_))
  refine Bn_leF (by omega) (Gd_FT (Gd_FT (Pick_F ?_)))
  exact Ret.mk ⟨h.ext, rfl⟩
end
structure En (w : World) : Prop where
 hT : Tab w
 hE : ErrV w
theorem En.ext {w w' : World} (h : En w) (x : Ext w w') : En w' := ⟨h.hT.ext x, h.hE.ext x⟩
def inv1 (k : Int) : Rat := ((1 : Int) : Rat) / (k : Rat)
theorem inv1_den {k : Int} (h : 1 ≤ k) : (inv1 k).num = 1 ∧ ((inv1 k).den : Int) = k := by
 obtain ⟨n, rfl⟩ : ∃ n : Nat, k = n := ⟨k.toNat, by omega⟩
 have hn : n ≠ 0 := by omega
 have e : inv1 n = mkRat 1 n := by
  unfold inv1
  rw [Rat.mkRat_eq_div]; rfl
 have e2 : mkRat 1 n = ⟨1, n, hn, by simp⟩ := (Rat.mk_eq_mkRat 1 n hn (by simp)).symm
 rw [e, e2]
 exact ⟨rfl, rfl⟩
theorem c_sone {w0 : World} {k : Int} (hE : En w0) (hk : 1 ≤ k ∧ k ≤ 1000000) : Calls Tryz.prog 59 #[.int .i64 k] w0 (Ret fun r w' => Ext w0 w' ∧ r = vR (tq (inv1 k))) := by
 have cc1 : ∀ {W : World}, Ext w0 W → Calls Tryz.prog 21 #[.int .i64 1, .int .i64 k] W (Ret fun r w' => Ext W w' ∧ r = .tuple #[vR (tq (inv1 k)), .int .i64 0]) := fun e => k_of (hE.hT.ext e) (by decide) ⟨by omega, by omega⟩ (by omega)
 apply e_sample_one
 unfold s_sample_one
 have h := Hp.init [] w0
 refine alS h fun g1 w h => ?_
 refine cl1 h n_rational_Of (cc1 h.ext) fun w h => ?_
 refine Ex2 (alS h fun g2 w h => ?_)
 refine stA h 0 rfl rfl rfl rfl fun w h => ?_
 refine ldA h 0 rfl rfl ?_
 refine stA h 1 rfl rfl rfl rfl fun w h => ?_
 refine rcA h 1 rfl rfl ?_
 dsimp only [List.set] at h
 exact Ret.mk ⟨h.ext, rfl⟩
theorem dneI_f {w : World} {wi : Bool} {K : Value → Prop} (hk : K (.bool false)) : Dv Tryz.prog wi (bn .neq 102 true .nilIface .nilIface) w K := by
 cases wi <;> ((try simp -dsimp [go_sem]); repeat (simp -dsimp (disch := omega) only [gL, gI]; try simp -dsimp [go_sem])) <;> exact hk
theorem dneI_t {t : TypeId} {a : Addr} {w : World} {wi : Bool} {K : Value → Prop} (hk : K (.bool true)) : Dv Tryz.prog wi (bn .neq 102 true (.iface t (.pointer (some a))) .nilIface) w K := by
 cases wi <;> ((try simp -dsimp [go_sem]); repeat (simp -dsimp (disch := omega) only [gL, gI]; try simp -dsimp [go_sem])) <;> exact hk
theorem c_divisor {w0 : World} {k : Int} (hE : En w0) (hk : 1 ≤ k ∧ k ≤ 1000) : Calls Tryz.prog 39 #[vR (tq (inv1 k))] w0 (Ret fun r w' => Ext w0 w' ∧ r = .int .i64 k) := by
 have hd := (inv1_den hk.1).2
 have e2 : (tq (inv1 k)).2 = Lib.itoa k := by show Lib.itoa ((inv1 k).den : Int) = _; rw [hd]
 have k1 := hk.1
 have k2 := hk.2
 have cc1 : ∀ {W : World}, Ext w0 W → Calls Tryz.prog 60 #[str (tq (inv1 k)).2] W (Ret fun r w' => Ext W w' ∧ r = .tuple #[.int .i64 k, .nilIface]) := fun {W} e => by
  have hl : (tq (inv1 k)).2.length ≤ 1000000 := by
   rw [e2]
   exact itoa_ok (Nat.lt_of_le_of_lt (m := 1000) (by omega) (by unfold MaxI; decide))
  refine (c_AtoiAll (w := W) hl (hE.hE.ext e)).mono ?_
  have hat : Lib.atoiAll (tq (inv1 k)).2 = .ok k := by
   rw [e2, atoiAll_itoa, if_pos (by omega)]
  rintro _ w' ⟨_, rfl, x1, ⟨v, h1, rfl⟩ | ⟨n, b, h1, rfl⟩⟩
  ·rw [hat] at h1
   cases h1
   exact Ret.mk ⟨x1, rfl⟩
  ·exact absurd hat (h1 _)
 have cc2 : ∀ {W : World}, Ext w0 W → Calls Tryz.prog 31 #[.int .i64 k, .int .i64 1, .int .i64 1000] W (Ret fun r w' => Ext W w' ∧ r = .bool true) := fun e => c_isIn hk
 have cc3 : ∀ {W : World}, Ext w0 W → Calls Tryz.prog 59 #[.int .i64 k] W (Ret fun r w' => Ext W w' ∧ r = vR (tq (inv1 k))) := fun e => c_sone (hE.ext e) ⟨by omega, by omega⟩
 apply e_sample_divisor
 unfold s_sample_divisor
 have h := Hp.init [] w0
 refine bxA h fun g1 w h => ?_
 refine faS (Eng.ld1 h 0 rfl rfl (cl1 h n_strconv_Atoi (cc1 h.ext) fun w h => ?_))
 refine Ex2 ?_
 replace h := h.dr
 refine dneI_f ?_
 refine GdP_F (Gd_F (cl1 h n_sample_isIn (cc2 h.ext) fun w h => ?_))
 refine GdP_F (Dv_nT (PickP_F (GdP_F (dlA h 0 rfl rfl ?_))))
 refine GdP_F (Gd_F (cl1 h n_sample_one (cc3 h.ext) fun w h => ?_))
 refine Kg_F ?_
 refine klA h 0 rfl rfl ?_
 refine GdP_F (dqNeS ?_)
 refine PickP_F (If_F ?_)
 exact Ret.mk ⟨h.ext, rfl⟩
theorem c_divisor0 {w0 : World} (hE : En w0) : Calls Tryz.prog 39 #[.agg #[str [], str []]] w0 (Ret fun r w' => Ext w0 w' ∧ r = .int .i64 0) := by
 have hA := fun {W : World} (e : Ext w0 W) => c_AtoiAll (w := W) (s := []) (by decide) (hE.hE.ext e)
 apply e_sample_divisor
 unfold s_sample_divisor
 have h := Hp.init [] w0
 refine bxA h fun g1 w h => ?_
 refine faS (Eng.ld1 h 0 rfl rfl (Cl_i n_strconv_Atoi (hA h.ext) ?_))
 rintro _ w' ⟨x1, ⟨v, h1, rfl⟩ | ⟨n, b, h1, rfl⟩⟩
 ·have : Lib.atoiAll [] = Lib.NumEnd.syntax := rfl
  rw [this] at h1; cases h1
 have h := h.x x1
 refine Ex2 ?_
 replace h := h.dr
 refine dneI_t ?_
 refine GdP_TF (Gd_TF (GdP_TF (PickP_T (GdP_TF (GdP_TF (Gd_TF (Kg_TF ?_)))))))
 refine GdP_TF (PickP_T (If_T ?_))
 exact Ret.mk ⟨h.ext, rfl⟩
abbrev KF := Ft × Int
abbrev tKp : TypeId := 54
abbrev fK (x : KF) : List Value := [.int .i64 x.1.tr, .int .i64 x.1.sp, .int .i64 x.1.sv, .int .i64 x.1.ve, .int .i64 x.1.op, .int .i64 x.1.pe, .int .i64 x.1.da, .int .i64 x.1.lo, .int .i64 x.1.hi, .int .i64 x.1.by', str (tq (inv1 x.2)).1, str (tq (inv1 x.2)).2]
abbrev vK (x : KF) : Value := .agg #[.int .i64 x.1.tr, .int .i64 x.1.sp, .int .i64 x.1.sv, .int .i64 x.1.ve, .int .i64 x.1.op, .int .i64 x.1.pe, .int .i64 x.1.da, .int .i64 x.1.lo, .int .i64 x.1.hi, .int .i64 x.1.by', str (tq (inv1 x.2)).1, str (tq (inv1 x.2)).2]
abbrev fKF (x : KF) : List Value := fF x.1
theorem c_facts1 {w0 : World} {x : KF} {i : Int} : Calls Tryz.prog 65 ((#[] : Array Value) ++ #[.int .i64 i, vK x] ++ #[]) w0 (Ret fun r w' => Ext w0 w' ∧ r = .tuple #[vF x.1, .bool true]) := by
 rw [show ((#[] : Array Value) ++ #[.int .i64 i, vK x] ++ #[]) = #[.int .i64 i, vK x] from rfl]
 apply e_sample_facts_1
 unfold s_sample_facts_1
 have h := Hp.init [] w0
 refine bxA h fun g1 w h => ?_
 refine alS h fun g2 w h => ?_
 refine faS (ldA h 1 rfl rfl ?_)
 refine stA h 0 rfl rfl rfl rfl fun w h => ?_
 refine rcA h 0 rfl rfl ?_
 dsimp only [List.set] at h
 exact Ret.mk ⟨h.ext, rfl⟩
section
variable {w0 : World} {v : Value} {l : List KF} (hv : SlC w0 12 v l.length (l.flatMap fK)) (hl : l.length ≤ 1000)
include hv hl
set_option maxHeartbeats 4000000 in
theorem c_filtKF : Calls Tryz.prog 64 #[v, .func (.func 65) #[] #[]] w0 (Ret fun r w' => Hp [] w0 w' [ro tFt 10 r l.length (l.flatMap fKF)]) := by
 apply e_sample_filtered_api_Kept_api_Fact
 unfold s_sample_filtered_api_Kept_api_Fact
 have h := Hp.init [] w0
 refine leS (hv.hp h) ?_
 have h := h.nil tFt 10
 refine Lp2.mkK (fun a i W => ∃ (j : Nat), j ≤ l.length ∧ i = .int .i64 j ∧ Hp [] w0 W [ro tFt 10 a j ((l.take j).flatMap fKF)])
  (fun _ i _ => match i with | .int _ x => l.length - x.toNat | _ => 0) ⟨0, by omega, rfl, h⟩ ?_
 clear h
 rintro a _ W ⟨j, hj, rfl, h⟩ K hK
 by_cases hjl : j < l.length
 rotate_left
 ·rw [List.take_of_length_le (by omega), show j = l.length by omega] at h
  have ej : j = l.length := by omega
  refine Bn_ltF (by omega) (If_F ?_)
  exact Ret.mk h
 ·refine Exists.elim (p := fun x => l[j]? = some x) ⟨_, List.getElem?_eq_getElem hjl⟩ fun x hx => ?_
  have s1 : Seg (l.flatMap fK) (j * 12) (fK x) := flat_seg (f := fK) (fun _ => rfl) hx
  have cc1 : ∀ {W : World} {g : Nat}, Ext w0 W → Calls Tryz.prog 65 ((#[] : Array Value) ++ #[.int .i64 (j : Int), vK x] ++ #[]) W (Ret fun r w' => Ext W w' ∧ r = .tuple #[vF x.1, .bool true]) := fun _ => c_facts1
  refine Bn_ltT (by omega) (If_T (iaH h ‹_› (by omega) fun zb zo zk zv zc => ?_))
  refine lhA h ‹_› ‹_› (by rfl) ?_
  refine alS h fun g1 w h => ?_
  refine stA h 0 rfl rfl rfl rfl fun w h => ?_
  refine ldA h 0 rfl rfl ?_
  dsimp only [List.set] at h
  refine cw1 h n_sample_facts_1 c_facts1 fun w h => ?_
  refine Ex2 (alS h fun g2 w h => ?_)
  refine stA h 0 rfl rfl rfl rfl fun w h => ?_
  refine If_T (ldA h 0 rfl rfl ?_)
  refine bs1A h (by rfl) (by decide) (by rfl) (by decide) fun v1 w h => ?_
  refine apR (by rfl) (by decide) h 3 rfl (qZ 0 h rfl) (by first | rfl | assumption) (by omega) fun v2 w h => ?_
  refine Bn_ad (by omega) (by omega) ?_
  dsimp only [List.set] at h
  exact hK _ _ _ ⟨j + 1, by omega, rfl, by rw [take_snoc hx, List.flatMap_append]; exact h.sub (by simp)⟩ (by show l.length - ((j : Int) + 1).toNat < l.length - (j : Int).toNat; omega)
theorem c_facts : Calls Tryz.prog 41 #[v] w0 (Ret fun r w' => Hp [] w0 w' [ro tFt 10 r l.length (l.flatMap fKF)]) := by
 apply e_sample_facts
 unfold s_sample_facts
 have h := Hp.init [] w0
 refine Cl_i n_sample_filtered_api_Kept_api_Fact (c_filtKF hv hl) ?_
 intro r w' h
 exact Ret.mk h
end
theorem one_get {α : Type} {x y : α} {j : Nat} (h : [x][j]? = some y) : j = 0 ∧ y = x := by
 cases j with
 | zero => exact ⟨rfl, by simpa using h.symm⟩
 | succ j => simp at h
theorem gdK {op : BinOp} {c : Bool} {xs ys : Array Value} {w : World} : (eqG op tKp c (.agg xs) (.agg ys)).run Tryz.prog w = .ok () w := eqG_agg (by kernel_rfl)
theorem dKeq {w : World} {x : KF} {K : Value → Prop} (hk : K (.bool false)) : Dv Tryz.prog false (bn .neq tKp false (vK x) (vK x)) w K := by
 ((try simp -dsimp [go_sem, gdK]); repeat (simp -dsimp (disch := omega) only [gL, gI]; try simp -dsimp [go_sem, gdK]))
 exact hk
section
variable {w0 : World} {v u : Value} {x : KF} (hE : En w0) (hv : SlC w0 12 v 1 (fK x)) (hu : SlC w0 12 u 1 (fK x)) (hk : 1 ≤ x.2 ∧ x.2 ≤ 1000) (hf : VF x.1) (hi : FI x.1)
include hE hv hk hf hi
set_option maxHeartbeats 4000000 in
theorem c_acc1 : Calls Tryz.prog 18 #[v] w0 (Ret fun r w' => Ext w0 w' ∧ r = .bool true) := by
 have hv' : SlC w0 12 v ([x] : List KF).length (([x] : List KF).flatMap fK) := hv
 have hF : ∀ {W : World} {u : Value}, SlC W 10 u 1 (fF x.1) → Fk W u [x.1] := fun h => ⟨h, fun f hf => by
  simp only [List.mem_singleton] at hf
  rw [hf]; exact hi, by simp⟩
 have hV : VFs [x.1] := ⟨by simp, fun f hm => by
  simp only [List.mem_singleton] at hm
  rw [hm]; exact hf, fun i a b ha hb => by
  have h1 := one_get ha
  have h2 := one_get hb
  omega⟩
 apply e_sample_Accepts
 unfold s_sample_Accepts
 have h := Hp.init [] w0
 have s1 : Seg (fK x) (0 * 12) (fK x) := fun i z hz => by simpa using hz
 refine leS (hv.hp h) ?_
 refine Lp1.mkK (fun i W => ∃ j : Nat, j ≤ 1 ∧ i = .int .i64 j ∧ Hp [] w0 W []) (fun i _ => match i with | .int _ i' => 1 - i'.toNat | _ => 0) ⟨0, by omega, rfl, h⟩ ?_
 clear h
 rintro _ W ⟨j, hj, rfl, h⟩ K hK
 by_cases hj1 : j < 1
 ·have s1 : Seg (fK x) (j * 12) (fK x) := by rw [show j = 0 by omega]; exact s1
  have cc1 : ∀ {W : World}, Ext w0 W → Calls Tryz.prog 39 #[vR (tq (inv1 x.2))] W (Ret fun r w' => Ext W w' ∧ r = .int .i64 x.2) := fun e => c_divisor (hE.ext e) hk
  refine Bn_ltT (by omega) (If_T (iaH h ‹_› (by omega) fun zb zo zk zv zc => ?_))
  refine lhA h ‹_› ‹_› (by rfl) ?_
  refine alS h fun g1 w h => ?_
  refine stA h 0 rfl rfl rfl rfl fun w h => ?_
  replace h := h.dr
  refine dfS (dlA h 0 rfl rfl ?_)
  refine cl1 h n_sample_divisor (cc1 h.ext) fun w h => ?_
  refine Dv_eqF (by omega) (GdP_F (GdP_F (Dv_gtF (by omega) (GdP_F (GdP_FT (GdP_FT (GdP_FT (GdP_FT (GdP_FT (GdP_FT (GdP_FT (GdP_FT (GdP_FT (GdP_FT (GdP_FT (GdP_F (PickP_F (GdP_F (GdP_FT (GdP_FT (GdP_FT (GdP_FT (GdP_FT (GdP_FT (GdP_FT (GdP_FT (GdP_FT (GdP_F (PickP_F (PickP_F (If_F (Bn_ad (by omega) (by omega) ?_))))))))))))))))))))))))))))))))
  dsimp only [List.set] at h
  exact hK _ _ ⟨j + 1, by omega, rfl, h.drop 1⟩ (by show 1 - ((j : Int) + 1).toNat < 1 - (j : Int).toNat; omega)
 ·refine Bn_ltF (by omega) (If_F (Cl_i n_sample_facts (c_facts (l := [x]) (hv'.ext h.ext) (by simp)) ?_))
  rintro rf w2 h2
  have cc1 : ∀ {W : World}, Ext w2 W → Calls Tryz.prog 40 #[rf] W (Ret fun r w' => Ext W w' ∧ r = .bool true) := fun {W} e => by
   have := c_VFs (hF ((h2.sl (i := 0) rfl).ext e))
   rw [okF_t hV] at this
   exact this
  have x1 := h.ext.tr h2.ext
  clear h
  have h := Hp.init [] w2
  refine cl1 h n_trace_ValidFacts (cc1 h.ext) fun w h => ?_
  exact Ret.mk ⟨x1.tr h.ext, rfl⟩
include hu
set_option maxHeartbeats 4000000 in
theorem c_same1 : Calls Tryz.prog 25 #[v, u] w0 (Ret fun r w' => Ext w0 w' ∧ r = .bool true) := by
 apply e_ref15_Same
 unfold s_ref15_Same
 have h := Hp.init [] w0
 have s1 : Seg (fK x) (0 * 12) (fK x) := fun i z hz => by simpa using hz
 refine leS (hv.hp h) ?_
 refine leS (hu.hp h) ?_
 refine Bn_neF (by omega) (If_F (Lp1.mkK (fun i W => ∃ j : Nat, j ≤ 1 ∧ i = .int .i64 j ∧ Hp [] w0 W []) (fun i _ => match i with | .int _ i' => 1 - i'.toNat | _ => 0) ⟨0, by omega, rfl, h⟩ ?_))
 clear h
 rintro _ W ⟨j, hj, rfl, h⟩ K hK
 by_cases hj1 : j < 1
 ·have s1 : Seg (fK x) (j * 12) (fK x) := by rw [show j = 0 by omega]; exact s1
  refine leS (hv.hp h) ?_
  refine Bn_ltT (by omega) (If_T ?_)
  replace h := h.dr
  refine diH h ‹_› (by omega) fun zb zo zk zv zc => ?_
  refine dhA h ‹_› ‹_› (by rfl) ?_
  refine diH h ‹_› (by omega) fun zb zo zk zv zc => ?_
  refine dhA h ‹_› ‹_› (by rfl) ?_
  refine dKeq ?_
  refine If_F (Bn_ad (by omega) (by omega) ?_)
  exact hK _ _ ⟨j + 1, by omega, rfl, h⟩ (by show 1 - ((j : Int) + 1).toNat < 1 - (j : Int).toNat; omega)
 ·refine leS (hv.hp h) ?_
  refine Bn_ltF (by omega) (If_F ?_)
  exact Ret.mk ⟨h.ext, rfl⟩
end
theorem c_acc0 {w0 : World} {v : Value} (hE : En w0) (hv : SlC w0 12 v 1 [.int .i64 0, .int .i64 0, .int .i64 0, .int .i64 0, .int .i64 0, .int .i64 0, .int .i64 0, .int .i64 0, .int .i64 0, .int .i64 0, str [], str []]) : Calls Tryz.prog 18 #[v] w0 (Ret fun r w' => Ext w0 w' ∧ r = .bool false) := by
 apply e_sample_Accepts
 unfold s_sample_Accepts
 have h := Hp.init [] w0
 refine leS (hv.hp h) ?_
 have s1 : Seg [.int .i64 0, .int .i64 0, .int .i64 0, .int .i64 0, .int .i64 0, .int .i64 0, .int .i64 0, .int .i64 0, .int .i64 0, .int .i64 0, str [], str []] (0 * 12) [.int .i64 0, .int .i64 0, .int .i64 0, .int .i64 0, .int .i64 0, .int .i64 0, .int .i64 0, .int .i64 0, .int .i64 0, .int .i64 0, str [], str []] := fun i z hz => by simpa using hz
 refine Lp1.mkK (fun i W => ∃ j : Nat, j = 0 ∧ i = .int .i64 j ∧ Hp [] w0 W []) (fun i _ => 0) ⟨0, rfl, rfl, h⟩ ?_
 clear h
 rintro _ W ⟨j, hj, rfl, h⟩ K hK
 have s1 : Seg [.int .i64 0, .int .i64 0, .int .i64 0, .int .i64 0, .int .i64 0, .int .i64 0, .int .i64 0, .int .i64 0, .int .i64 0, .int .i64 0, str [], str []] (j * 12) [.int .i64 0, .int .i64 0, .int .i64 0, .int .i64 0, .int .i64 0, .int .i64 0, .int .i64 0, .int .i64 0, .int .i64 0, .int .i64 0, str [], str []] := by rw [hj]; exact s1
 have cc1 : ∀ {W : World}, Ext w0 W → Calls Tryz.prog 39 #[.agg #[str [], str []]] W (Ret fun r w' => Ext W w' ∧ r = .int .i64 0) := fun e => c_divisor0 (hE.ext e)
 refine Bn_ltT (by omega) (If_T (iaH h ‹_› (by omega) fun zb zo zk zv zc => ?_))
 refine lhA h ‹_› ‹_› (by rfl) ?_
 refine alS h fun g1 w h => ?_
 refine stA h 0 rfl rfl rfl rfl fun w h => ?_
 replace h := h.dr
 refine dfS (dlA h 0 rfl rfl ?_)
 refine cl1 h n_sample_divisor (cc1 h.ext) fun w h => ?_
 refine Dv_eqT (by omega) (GdP_TF (GdP_TF (GdP_TF (GdP_U (GdP_U (GdP_U (GdP_U (GdP_U (GdP_U (GdP_U (GdP_U (GdP_U (GdP_U (GdP_U (GdP_TF (GdP_TF (GdP_U (GdP_U (GdP_U (GdP_U (GdP_U (GdP_U (GdP_U (GdP_U (GdP_U (GdP_TF (PickP_T (If_T ?_))))))))))))))))))))))))))))
 dsimp only [List.set] at h
 exact Ret.mk ⟨h.ext, rfl⟩
end Go.Proofs.YtjgjeccfhmlcnaaGreatDoor
