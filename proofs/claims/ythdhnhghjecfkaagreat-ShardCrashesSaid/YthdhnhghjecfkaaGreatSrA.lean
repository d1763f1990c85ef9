/-
  Contracts and plain lemmas. By an AI agent.
-/
import Derived.Test.YthdhnhghjecfkaaGreatEngW
import Derived.Test.YthdhnhghjecfkaaGreatTyp
import Derived.Test.YthdhnhghjecfkaaGreatSpecD
import Derived.Test.YthdhnhghjecfkaaGreatPlain
set_option linter.unusedSimpArgs false
set_option linter.unusedVariables false
set_option linter.unusedSectionVars false
namespace Go.Proofs.YthdhnhghjecfkaaGreat
open Go Go.Eng Go.Proofs Go.RowKit
open Go.Srd (Ft VF Hd Mv mv0 Rd Ab Cmd store got)
set_option maxRecDepth 100000
abbrev Iw (n : Int) : Prop := -9223372036854775808 ≤ n ∧ n ≤ 9223372036854775807
abbrev tFt : TypeId := 42
abbrev tHd : TypeId := 62
abbrev fF (f : Ft) : List Value := [.int .i64 f.tr, .int .i64 f.sp, .int .i64 f.sv, .int .i64 f.ve, .int .i64 f.op, .int .i64 f.pe, .int .i64 f.da, .int .i64 f.lo, .int .i64 f.hi, .int .i64 f.by']
abbrev vF (f : Ft) : Value := .agg #[.int .i64 f.tr, .int .i64 f.sp, .int .i64 f.sv, .int .i64 f.ve, .int .i64 f.op, .int .i64 f.pe, .int .i64 f.da, .int .i64 f.lo, .int .i64 f.hi, .int .i64 f.by']
abbrev fH (h : Hd) : List Value := [.int .i64 h.1.tr, .int .i64 h.1.sp, .int .i64 h.1.sv, .int .i64 h.1.ve, .int .i64 h.1.op, .int .i64 h.1.pe, .int .i64 h.1.da, .int .i64 h.1.lo, .int .i64 h.1.hi, .int .i64 h.1.by', .int .i64 h.2]
abbrev vH (h : Hd) : Value := .agg #[.int .i64 h.1.tr, .int .i64 h.1.sp, .int .i64 h.1.sv, .int .i64 h.1.ve, .int .i64 h.1.op, .int .i64 h.1.pe, .int .i64 h.1.da, .int .i64 h.1.lo, .int .i64 h.1.hi, .int .i64 h.1.by', .int .i64 h.2]
abbrev fI (z : Int) : List Value := [.int .i64 z]
structure FI (f : Ft) : Prop where
 tr : Iw f.tr
 sp : Iw f.sp
 sv : Iw f.sv
 ve : Iw f.ve
 op : Iw f.op
 pe : Iw f.pe
 da : Iw f.da
 lo : Iw f.lo
 hi : Iw f.hi
 by' : Iw f.by'
theorem FI.of {f : Ft} (h : VF f) : FI f := by
 obtain ⟨h1, h2, h3, h4, h5, h6, h7, h8, h9, h10⟩ := h
 constructor <;> omega
theorem one_fH : ∀ l : List Hd, ((l.flatMap fH).all fun x => x.oneCell') = true
 | [] => rfl
 | r :: l => by
  rw [List.flatMap_cons, List.all_append, one_fH l]
  rfl
theorem one_fF : ∀ l : List Ft, ((l.flatMap fF).all fun x => x.oneCell') = true
 | [] => rfl
 | r :: l => by
  rw [List.flatMap_cons, List.all_append, one_fF l]
  rfl
theorem one_fI : ∀ l : List Int, ((l.flatMap fI).all fun x => x.oneCell') = true
 | [] => rfl
 | r :: l => by
  rw [List.flatMap_cons, List.all_append, one_fI l]
  rfl
section
variable {w : World} {n lo hi : Int}
theorem c_tinT (h : lo ≤ n ∧ n ≤ hi) : Calls Tryz.prog 98 #[.int .i64 n, .int .i64 lo, .int .i64 hi] w (Ret fun r w' => Ext w w' ∧ r = .bool true) := by
 have h1 := h.1
 have h2 := h.2
 apply e_trace_within
 unfold s_trace_within
 have h := Hp.init [] w
 refine Bn_geT (by omega) (Gd_T (Gd_T (Gd_T (Bn_leT (by omega) (Pick_T ?_)))))
 exact Ret.mk ⟨h.ext, rfl⟩
theorem c_tinF (h : ¬ (lo ≤ n ∧ n ≤ hi)) : Calls Tryz.prog 98 #[.int .i64 n, .int .i64 lo, .int .i64 hi] w (Ret fun r w' => Ext w w' ∧ r = .bool false) := by
 apply e_trace_within
 unfold s_trace_within
 by_cases h1 : lo ≤ n
 ·have h2 : hi < n := by omega
  have h := Hp.init [] w
  refine Bn_geT (by omega) (Gd_T (Gd_T (Gd_T (Bn_leF (by omega) (Pick_T ?_)))))
  exact Ret.mk ⟨h.ext, rfl⟩
 ·have h := Hp.init [] w
  refine Bn_geF (by omega) (Gd_FT (Gd_FT (Gd_FT (Pick_F ?_))))
  exact Ret.mk ⟨h.ext, rfl⟩
end
set_option maxHeartbeats 4000000 in
theorem c_VF {w0 : World} {f : Ft} (hf : FI f) : Calls Tryz.prog 58 #[vF f] w0 (Ret fun r w' => Ext w0 w' ∧ r = .bool (decide (VF f))) := by
 obtain ⟨i1, i2, i3, i4, i5, i6, i7, i8, i9, i10⟩ := hf
 by_cases n1 : 0 ≤ f.tr ∧ f.tr ≤ 999
 rotate_left
 ·rw [decide_eq_false (fun h : VF f => n1 h.1)]
  have cc1 := fun {W : World} (_ : Ext w0 W) => c_tinF (w := W) n1
  apply e_trace_ValidFact
  unfold s_trace_ValidFact
  have h := Hp.init [] w0
  refine bxA h fun g1 w h => ?_
  refine faS (ld1 h 0 rfl rfl (cl1 h n_trace_within (cc1 h.ext) fun w h => ?_))
  refine Gd_FT (Gd_FT (Gd_FT (Pick_F (Gd_FT (Gd_FT (Gd_FT (Pick_F (Gd_FT (Gd_FT (Gd_FT (Pick_F (Gd_FT (Gd_FT (Gd_FT (Pick_F (Gd_FT (Gd_FT (Gd_FT (Pick_F (Gd_FT (Gd_FT (Gd_FT (Gd_FT (Gd_FT (Gd_FT (Pick_F (Gd_FT (Gd_FT (Gd_FT (Gd_FT (Gd_FT (Pick_F (Gd_FT (Gd_FT (Gd_FT (Pick_F (Gd_FT (Gd_FT (Gd_FT ?_)))))))))))))))))))))))))))))))))))))))
  refine Pick_F ?_
  exact Ret.mk ⟨h.ext, rfl⟩
 have cc1 := fun {W : World} (_ : Ext w0 W) => c_tinT (w := W) n1
 by_cases n2 : 0 ≤ f.sp ∧ f.sp ≤ 9
 rotate_left
 ·rw [decide_eq_false (fun h : VF f => n2 h.2.1)]
  have cc2 := fun {W : World} (_ : Ext w0 W) => c_tinF (w := W) n2
  apply e_trace_ValidFact
  unfold s_trace_ValidFact
  have h := Hp.init [] w0
  refine bxA h fun g1 w h => ?_
  refine faS (ld1 h 0 rfl rfl (cl1 h n_trace_within (cc1 h.ext) fun w h => ?_))
  refine Gd_T (faS (Gd_T (ld1 h 0 rfl rfl (Gd_T (cl1 h n_trace_within (cc2 h.ext) fun w h => ?_)))))
  refine Pick_T (Gd_FT (Gd_FT (Gd_FT (Pick_F (Gd_FT (Gd_FT (Gd_FT (Pick_F (Gd_FT (Gd_FT (Gd_FT (Pick_F (Gd_FT (Gd_FT (Gd_FT (Pick_F (Gd_FT (Gd_FT (Gd_FT (Gd_FT (Gd_FT (Gd_FT (Pick_F (Gd_FT (Gd_FT (Gd_FT (Gd_FT (Gd_FT (Pick_F (Gd_FT (Gd_FT (Gd_FT (Pick_F (Gd_FT (Gd_FT (Gd_FT (Pick_F ?_)))))))))))))))))))))))))))))))))))))
  exact Ret.mk ⟨h.ext, rfl⟩
 have cc2 := fun {W : World} (_ : Ext w0 W) => c_tinT (w := W) n2
 by_cases n3 : 0 ≤ f.sv ∧ f.sv ≤ 7
 rotate_left
 ·rw [decide_eq_false (fun h : VF f => n3 h.2.2.1)]
  have cc3 := fun {W : World} (_ : Ext w0 W) => c_tinF (w := W) n3
  apply e_trace_ValidFact
  unfold s_trace_ValidFact
  have h := Hp.init [] w0
  refine bxA h fun g1 w h => ?_
  refine faS (ld1 h 0 rfl rfl (cl1 h n_trace_within (cc1 h.ext) fun w h => ?_))
  refine Gd_T (faS (Gd_T (ld1 h 0 rfl rfl (Gd_T (cl1 h n_trace_within (cc2 h.ext) fun w h => ?_)))))
  refine Pick_T (Gd_T (faS (Gd_T (ld1 h 0 rfl rfl (Gd_T (cl1 h n_trace_within (cc3 h.ext) fun w h => ?_))))))
  refine Pick_T (Gd_FT (Gd_FT (Gd_FT (Pick_F (Gd_FT (Gd_FT (Gd_FT (Pick_F (Gd_FT (Gd_FT (Gd_FT (Pick_F (Gd_FT (Gd_FT (Gd_FT (Gd_FT (Gd_FT (Gd_FT (Pick_F (Gd_FT (Gd_FT (Gd_FT (Gd_FT (Gd_FT (Pick_F (Gd_FT (Gd_FT (Gd_FT (Pick_F (Gd_FT (Gd_FT (Gd_FT (Pick_F ?_)))))))))))))))))))))))))))))))))
  exact Ret.mk ⟨h.ext, rfl⟩
 have cc3 := fun {W : World} (_ : Ext w0 W) => c_tinT (w := W) n3
 by_cases n4 : 0 ≤ f.ve ∧ f.ve ≤ 9
 rotate_left
 ·rw [decide_eq_false (fun h : VF f => n4 h.2.2.2.1)]
  have cc4 := fun {W : World} (_ : Ext w0 W) => c_tinF (w := W) n4
  apply e_trace_ValidFact
  unfold s_trace_ValidFact
  have h := Hp.init [] w0
  refine bxA h fun g1 w h => ?_
  refine faS (ld1 h 0 rfl rfl (cl1 h n_trace_within (cc1 h.ext) fun w h => ?_))
  refine Gd_T (faS (Gd_T (ld1 h 0 rfl rfl (Gd_T (cl1 h n_trace_within (cc2 h.ext) fun w h => ?_)))))
  refine Pick_T (Gd_T (faS (Gd_T (ld1 h 0 rfl rfl (Gd_T (cl1 h n_trace_within (cc3 h.ext) fun w h => ?_))))))
  refine Pick_T (Gd_T (faS (Gd_T (ld1 h 0 rfl rfl (Gd_T (cl1 h n_trace_within (cc4 h.ext) fun w h => ?_))))))
  refine Pick_T (Gd_FT (Gd_FT (Gd_FT (Pick_F (Gd_FT (Gd_FT (Gd_FT (Pick_F (Gd_FT (Gd_FT (Gd_FT (Gd_FT (Gd_FT (Gd_FT (Pick_F (Gd_FT (Gd_FT (Gd_FT (Gd_FT (Gd_FT (Pick_F (Gd_FT (Gd_FT (Gd_FT (Pick_F (Gd_FT (Gd_FT (Gd_FT (Pick_F ?_)))))))))))))))))))))))))))))
  exact Ret.mk ⟨h.ext, rfl⟩
 have cc4 := fun {W : World} (_ : Ext w0 W) => c_tinT (w := W) n4
 by_cases n5 : 0 ≤ f.op ∧ f.op ≤ 11
 rotate_left
 ·rw [decide_eq_false (fun h : VF f => n5 h.2.2.2.2.1)]
  have cc5 := fun {W : World} (_ : Ext w0 W) => c_tinF (w := W) n5
  apply e_trace_ValidFact
  unfold s_trace_ValidFact
  have h := Hp.init [] w0
  refine bxA h fun g1 w h => ?_
  refine faS (ld1 h 0 rfl rfl (cl1 h n_trace_within (cc1 h.ext) fun w h => ?_))
  refine Gd_T (faS (Gd_T (ld1 h 0 rfl rfl (Gd_T (cl1 h n_trace_within (cc2 h.ext) fun w h => ?_)))))
  refine Pick_T (Gd_T (faS (Gd_T (ld1 h 0 rfl rfl (Gd_T (cl1 h n_trace_within (cc3 h.ext) fun w h => ?_))))))
  refine Pick_T (Gd_T (faS (Gd_T (ld1 h 0 rfl rfl (Gd_T (cl1 h n_trace_within (cc4 h.ext) fun w h => ?_))))))
  refine Pick_T (Gd_T (faS (Gd_T (ld1 h 0 rfl rfl (Gd_T (cl1 h n_trace_within (cc5 h.ext) fun w h => ?_))))))
  refine Pick_T (Gd_FT (Gd_FT (Gd_FT (Pick_F (Gd_FT (Gd_FT (Gd_FT (Gd_FT (Gd_FT (Gd_FT (Pick_F (Gd_FT (Gd_FT (Gd_FT (Gd_FT (Gd_FT (Pick_F (Gd_FT (Gd_FT (Gd_FT (Pick_F (Gd_FT (Gd_FT (Gd_FT (Pick_F ?_)))))))))))))))))))))))))
  exact Ret.mk ⟨h.ext, rfl⟩
 have cc5 := fun {W : World} (_ : Ext w0 W) => c_tinT (w := W) n5
 by_cases n6 : -1 ≤ f.pe ∧ f.pe ≤ 19
 rotate_left
 ·rw [decide_eq_false (fun h : VF f => n6 h.2.2.2.2.2.1)]
  have cc6 := fun {W : World} (_ : Ext w0 W) => c_tinF (w := W) n6
  apply e_trace_ValidFact
  unfold s_trace_ValidFact
  have h := Hp.init [] w0
  refine bxA h fun g1 w h => ?_
  refine faS (ld1 h 0 rfl rfl (cl1 h n_trace_within (cc1 h.ext) fun w h => ?_))
  refine Gd_T (faS (Gd_T (ld1 h 0 rfl rfl (Gd_T (cl1 h n_trace_within (cc2 h.ext) fun w h => ?_)))))
  refine Pick_T (Gd_T (faS (Gd_T (ld1 h 0 rfl rfl (Gd_T (cl1 h n_trace_within (cc3 h.ext) fun w h => ?_))))))
  refine Pick_T (Gd_T (faS (Gd_T (ld1 h 0 rfl rfl (Gd_T (cl1 h n_trace_within (cc4 h.ext) fun w h => ?_))))))
  refine Pick_T (Gd_T (faS (Gd_T (ld1 h 0 rfl rfl (Gd_T (cl1 h n_trace_within (cc5 h.ext) fun w h => ?_))))))
  refine Pick_T (Gd_T (faS (Gd_T (ld1 h 0 rfl rfl (Gd_T (cl1 h n_trace_within (cc6 h.ext) fun w h => ?_))))))
  refine Pick_T (Gd_FT (Gd_FT (Gd_FT (Gd_FT (Gd_FT (Gd_FT (Pick_F (Gd_FT (Gd_FT (Gd_FT (Gd_FT (Gd_FT (Pick_F (Gd_FT (Gd_FT (Gd_FT (Pick_F (Gd_FT (Gd_FT (Gd_FT (Pick_F ?_)))))))))))))))))))))
  exact Ret.mk ⟨h.ext, rfl⟩
 have cc6 := fun {W : World} (_ : Ext w0 W) => c_tinT (w := W) n6
 by_cases n7 : f.da = f.tr / 10
 rotate_left
 ·rw [decide_eq_false (fun h : VF f => n7 h.2.2.2.2.2.2.1)]
  apply e_trace_ValidFact
  unfold s_trace_ValidFact
  have h := Hp.init [] w0
  refine bxA h fun g1 w h => ?_
  refine faS (ld1 h 0 rfl rfl (cl1 h n_trace_within (cc1 h.ext) fun w h => ?_))
  refine Gd_T (faS (Gd_T (ld1 h 0 rfl rfl (Gd_T (cl1 h n_trace_within (cc2 h.ext) fun w h => ?_)))))
  refine Pick_T (Gd_T (faS (Gd_T (ld1 h 0 rfl rfl (Gd_T (cl1 h n_trace_within (cc3 h.ext) fun w h => ?_))))))
  refine Pick_T (Gd_T (faS (Gd_T (ld1 h 0 rfl rfl (Gd_T (cl1 h n_trace_within (cc4 h.ext) fun w h => ?_))))))
  refine Pick_T (Gd_T (faS (Gd_T (ld1 h 0 rfl rfl (Gd_T (cl1 h n_trace_within (cc5 h.ext) fun w h => ?_))))))
  refine Pick_T (Gd_T (faS (Gd_T (ld1 h 0 rfl rfl (Gd_T (cl1 h n_trace_within (cc6 h.ext) fun w h => ?_))))))
  refine Pick_T (Gd_T (faS (Gd_T (ld1 h 0 rfl rfl (Gd_T (faS (Gd_T (ld1 h 0 rfl rfl (Gd_T (Bn_qu (by omega) (by omega) (by omega) (Gd_T (Bn_eqF (by omega) (Pick_T (Gd_FT (Gd_FT (Gd_FT (Gd_FT (Gd_FT (Pick_F (Gd_FT (Gd_FT (Gd_FT (Pick_F (Gd_FT (Gd_FT (Gd_FT (Pick_F ?_)))))))))))))))))))))))))))
  exact Ret.mk ⟨h.ext, rfl⟩
 by_cases n8 : 0 ≤ f.lo ∧ f.lo ≤ f.hi
 rotate_left
 ·rw [decide_eq_false (fun h : VF f => n8 h.2.2.2.2.2.2.2.1)]
  have cc8 := fun {W : World} (_ : Ext w0 W) => c_tinF (w := W) n8
  apply e_trace_ValidFact
  unfold s_trace_ValidFact
  have h := Hp.init [] w0
  refine bxA h fun g1 w h => ?_
  refine faS (ld1 h 0 rfl rfl (cl1 h n_trace_within (cc1 h.ext) fun w h => ?_))
  refine Gd_T (faS (Gd_T (ld1 h 0 rfl rfl (Gd_T (cl1 h n_trace_within (cc2 h.ext) fun w h => ?_)))))
  refine Pick_T (Gd_T (faS (Gd_T (ld1 h 0 rfl rfl (Gd_T (cl1 h n_trace_within (cc3 h.ext) fun w h => ?_))))))
  refine Pick_T (Gd_T (faS (Gd_T (ld1 h 0 rfl rfl (Gd_T (cl1 h n_trace_within (cc4 h.ext) fun w h => ?_))))))
  refine Pick_T (Gd_T (faS (Gd_T (ld1 h 0 rfl rfl (Gd_T (cl1 h n_trace_within (cc5 h.ext) fun w h => ?_))))))
  refine Pick_T (Gd_T (faS (Gd_T (ld1 h 0 rfl rfl (Gd_T (cl1 h n_trace_within (cc6 h.ext) fun w h => ?_))))))
  refine Pick_T (Gd_T (faS (Gd_T (ld1 h 0 rfl rfl (Gd_T (faS (Gd_T (ld1 h 0 rfl rfl (Gd_T (Bn_qu (by omega) (by omega) (by omega) (Gd_T (Bn_eqT (by omega) (Pick_T (Gd_T (faS (Gd_T (ld1 h 0 rfl rfl (Gd_T (faS (Gd_T (ld1 h 0 rfl rfl (Gd_T (cl1 h n_trace_within (cc8 h.ext) fun w h => ?_)))))))))))))))))))))))
  refine Pick_T (Gd_FT (Gd_FT (Gd_FT (Pick_F (Gd_FT (Gd_FT (Gd_FT (Pick_F ?_))))))))
  exact Ret.mk ⟨h.ext, rfl⟩
 have cc8 := fun {W : World} (_ : Ext w0 W) => c_tinT (w := W) n8
 by_cases n9 : f.hi ≤ 4398046511104
 rotate_left
 ·rw [decide_eq_false (fun h : VF f => n9 h.2.2.2.2.2.2.2.2.1)]
  apply e_trace_ValidFact
  unfold s_trace_ValidFact
  have h := Hp.init [] w0
  refine bxA h fun g1 w h => ?_
  refine faS (ld1 h 0 rfl rfl (cl1 h n_trace_within (cc1 h.ext) fun w h => ?_))
  refine Gd_T (faS (Gd_T (ld1 h 0 rfl rfl (Gd_T (cl1 h n_trace_within (cc2 h.ext) fun w h => ?_)))))
  refine Pick_T (Gd_T (faS (Gd_T (ld1 h 0 rfl rfl (Gd_T (cl1 h n_trace_within (cc3 h.ext) fun w h => ?_))))))
  refine Pick_T (Gd_T (faS (Gd_T (ld1 h 0 rfl rfl (Gd_T (cl1 h n_trace_within (cc4 h.ext) fun w h => ?_))))))
  refine Pick_T (Gd_T (faS (Gd_T (ld1 h 0 rfl rfl (Gd_T (cl1 h n_trace_within (cc5 h.ext) fun w h => ?_))))))
  refine Pick_T (Gd_T (faS (Gd_T (ld1 h 0 rfl rfl (Gd_T (cl1 h n_trace_within (cc6 h.ext) fun w h => ?_))))))
  refine Pick_T (Gd_T (faS (Gd_T (ld1 h 0 rfl rfl (Gd_T (faS (Gd_T (ld1 h 0 rfl rfl (Gd_T (Bn_qu (by omega) (by omega) (by omega) (Gd_T (Bn_eqT (by omega) (Pick_T (Gd_T (faS (Gd_T (ld1 h 0 rfl rfl (Gd_T (faS (Gd_T (ld1 h 0 rfl rfl (Gd_T (cl1 h n_trace_within (cc8 h.ext) fun w h => ?_)))))))))))))))))))))))
  refine Pick_T (Gd_T (faS (Gd_T (ld1 h 0 rfl rfl (Gd_T (Bn_leF (by omega) (Pick_T (Gd_FT (Gd_FT (Gd_FT (Pick_F ?_)))))))))))
  exact Ret.mk ⟨h.ext, rfl⟩
 by_cases n10 : 0 ≤ f.by' ∧ f.by' ≤ 24000
 rotate_left
 ·rw [decide_eq_false (fun h : VF f => n10 h.2.2.2.2.2.2.2.2.2)]
  have cc10 := fun {W : World} (_ : Ext w0 W) => c_tinF (w := W) n10
  apply e_trace_ValidFact
  unfold s_trace_ValidFact
  have h := Hp.init [] w0
  refine bxA h fun g1 w h => ?_
  refine faS (ld1 h 0 rfl rfl (cl1 h n_trace_within (cc1 h.ext) fun w h => ?_))
  refine Gd_T (faS (Gd_T (ld1 h 0 rfl rfl (Gd_T (cl1 h n_trace_within (cc2 h.ext) fun w h => ?_)))))
  refine Pick_T (Gd_T (faS (Gd_T (ld1 h 0 rfl rfl (Gd_T (cl1 h n_trace_within (cc3 h.ext) fun w h => ?_))))))
  refine Pick_T (Gd_T (faS (Gd_T (ld1 h 0 rfl rfl (Gd_T (cl1 h n_trace_within (cc4 h.ext) fun w h => ?_))))))
  refine Pick_T (Gd_T (faS (Gd_T (ld1 h 0 rfl rfl (Gd_T (cl1 h n_trace_within (cc5 h.ext) fun w h => ?_))))))
  refine Pick_T (Gd_T (faS (Gd_T (ld1 h 0 rfl rfl (Gd_T (cl1 h n_trace_within (cc6 h.ext) fun w h => ?_))))))
  refine Pick_T (Gd_T (faS (Gd_T (ld1 h 0 rfl rfl (Gd_T (faS (Gd_T (ld1 h 0 rfl rfl (Gd_T (Bn_qu (by omega) (by omega) (by omega) (Gd_T (Bn_eqT (by omega) (Pick_T (Gd_T (faS (Gd_T (ld1 h 0 rfl rfl (Gd_T (faS (Gd_T (ld1 h 0 rfl rfl (Gd_T (cl1 h n_trace_within (cc8 h.ext) fun w h => ?_)))))))))))))))))))))))
  refine Pick_T (Gd_T (faS (Gd_T (ld1 h 0 rfl rfl (Gd_T (Bn_leT (by omega) (Pick_T (Gd_T (faS (Gd_T (ld1 h 0 rfl rfl (Gd_T (cl1 h n_trace_within (cc10 h.ext) fun w h => ?_)))))))))))))
  refine Pick_T ?_
  exact Ret.mk ⟨h.ext, rfl⟩
 have cc10 := fun {W : World} (_ : Ext w0 W) => c_tinT (w := W) n10
 rw [decide_eq_true (show VF f from ⟨n1, n2, n3, n4, n5, n6, n7, n8, n9, n10⟩)]
 apply e_trace_ValidFact
 unfold s_trace_ValidFact
 have h := Hp.init [] w0
 refine bxA h fun g1 w h => ?_
 refine faS (ld1 h 0 rfl rfl (cl1 h n_trace_within (cc1 h.ext) fun w h => ?_))
 refine Gd_T (faS (Gd_T (ld1 h 0 rfl rfl (Gd_T (cl1 h n_trace_within (cc2 h.ext) fun w h => ?_)))))
 refine Pick_T (Gd_T (faS (Gd_T (ld1 h 0 rfl rfl (Gd_T (cl1 h n_trace_within (cc3 h.ext) fun w h => ?_))))))
 refine Pick_T (Gd_T (faS (Gd_T (ld1 h 0 rfl rfl (Gd_T (cl1 h n_trace_within (cc4 h.ext) fun w h => ?_))))))
 refine Pick_T (Gd_T (faS (Gd_T (ld1 h 0 rfl rfl (Gd_T (cl1 h n_trace_within (cc5 h.ext) fun w h => ?_))))))
 refine Pick_T (Gd_T (faS (Gd_T (ld1 h 0 rfl rfl (Gd_T (cl1 h n_trace_within (cc6 h.ext) fun w h => ?_))))))
 refine Pick_T (Gd_T (faS (Gd_T (ld1 h 0 rfl rfl (Gd_T (faS (Gd_T (ld1 h 0 rfl rfl (Gd_T (Bn_qu (by omega) (by omega) (by omega) (Gd_T (Bn_eqT (by omega) (Pick_T (Gd_T (faS (Gd_T (ld1 h 0 rfl rfl (Gd_T (faS (Gd_T (ld1 h 0 rfl rfl (Gd_T (cl1 h n_trace_within (cc8 h.ext) fun w h => ?_)))))))))))))))))))))))
 refine Pick_T (Gd_T (faS (Gd_T (ld1 h 0 rfl rfl (Gd_T (Bn_leT (by omega) (Pick_T (Gd_T (faS (Gd_T (ld1 h 0 rfl rfl (Gd_T (cl1 h n_trace_within (cc10 h.ext) fun w h => ?_)))))))))))))
 refine Pick_T ?_
 exact Ret.mk ⟨h.ext, rfl⟩
section
variable {w : World} {n lo hi : Int}
theorem c_inT (h : lo ≤ n ∧ n ≤ hi) : Calls Tryz.prog 20 #[.int .i64 n, .int .i64 lo, .int .i64 hi] w (Ret fun r w' => Ext w w' ∧ r = .bool true) := by
 have h1 := h.1
 have h2 := h.2
 apply e_shard_in
 unfold s_shard_in
 have h := Hp.init [] w
 refine Bn_geT (by omega) (Gd_T (Gd_T (Gd_T (Bn_leT (by omega) (Pick_T ?_)))))
 exact Ret.mk ⟨h.ext, rfl⟩
theorem c_inF (h : ¬ (lo ≤ n ∧ n ≤ hi)) : Calls Tryz.prog 20 #[.int .i64 n, .int .i64 lo, .int .i64 hi] w (Ret fun r w' => Ext w w' ∧ r = .bool false) := by
 apply e_shard_in
 unfold s_shard_in
 by_cases h1 : lo ≤ n
 ·have h2 : hi < n := by omega
  have h := Hp.init [] w
  refine Bn_geT (by omega) (Gd_T (Gd_T (Gd_T (Bn_leF (by omega) (Pick_T ?_)))))
  exact Ret.mk ⟨h.ext, rfl⟩
 ·have h := Hp.init [] w
  refine Bn_geF (by omega) (Gd_FT (Gd_FT (Gd_FT (Pick_F ?_))))
  exact Ret.mk ⟨h.ext, rfl⟩
theorem c_Slot (h : 0 ≤ n ∧ n ≤ 999) : Calls Tryz.prog 17 #[.int .i64 n] w (Ret fun r w' => Ext w w' ∧ r = .int .i64 (n % 8)) := by
 have h1 := h.1
 have h2 := h.2
 apply e_shard_Slot
 unfold s_shard_Slot
 have h := Hp.init [] w
 refine Bn_ltF (by omega) (Gd_F (Gd_F (Bn_gtF (by omega) (Pick_F (If_F (Bn_rm (by omega) (by omega) ?_))))))
 exact Ret.mk ⟨h.ext, rfl⟩
theorem c_SlotN (h : n < 0) : Calls Tryz.prog 17 #[.int .i64 n] w (Ret fun r w' => Ext w w' ∧ r = .int .i64 (-1)) := by
 apply e_shard_Slot
 unfold s_shard_Slot
 have h := Hp.init [] w
 refine Bn_ltT (by omega) (Gd_TF (Gd_TF (Pick_T (If_T ?_))))
 exact Ret.mk ⟨h.ext, rfl⟩
theorem c_mustT : Calls Tryz.prog 57 #[.bool true] w (Ret fun r w' => Ext w w' ∧ r = .tuple #[]) := by
 apply e_shard_must
 unfold s_shard_must
 have h := Hp.init [] w
 refine Un_T (If_F ?_)
 exact Ret.mk ⟨h.ext, rfl⟩
end
abbrev cR : List PanicEntry := [{ v := .iface 129 (.agg #[]), recovered := false }]
theorem c_mustF {w : World} : Calls Tryz.prog 57 #[.bool false] w (Fai cR [] w) := by
 apply e_shard_must
 obtain ⟨R, hR⟩ : ∃ R, R = Fai cR [] w := ⟨_, rfl⟩
 rw [← hR]
 unfold s_shard_must
 have h := Hp.init [] w
 refine Un_F (If_T ?_)
 refine ⟨.agg #[], w, by simp [go_sem], ?_⟩
 refine V_of (P := Tryz.prog) (run_makeInterface w _ _ (by kernel_rfl)) ?_
 unfold Pn N
 simp [go_sem, upN]
 subst hR
 exact ⟨rfl, h.mo⟩
theorem eqFt0 : EqN Tryz.prog tFt 10 0 := mkEqC (P := Tryz.prog) (t := tFt) (n := 10) (N := 0) Tryz.underlying42 (by kernel_rfl) (by repeat first | exact .nil rfl | refine .int (by decide) Tryz.underlying3 inferInstance rfl ?_)
instance : EqC Tryz.prog tFt 10 := .of0 eqFt0
theorem eqHd0 : EqN Tryz.prog tHd 11 1 := mkEqC (P := Tryz.prog) (t := tHd) (n := 11) (N := 1) Tryz.underlying62 (by kernel_rfl) (.sub (by decide) eqFt0 inferInstance rfl (.int (by decide) Tryz.underlying3 inferInstance rfl (.nil rfl)))
instance : EqC Tryz.prog tHd 11 := .of1 eqHd0
abbrev tMv : TypeId := 27
theorem eqMv0 : EqN Tryz.prog tMv 5 0 := mkEqC (P := Tryz.prog) (t := tMv) (n := 5) (N := 0) Tryz.underlying27 (by kernel_rfl) (by repeat first | exact .nil rfl | refine .int (by decide) Tryz.underlying3 inferInstance rfl ?_)
instance : EqC Tryz.prog tMv 5 := .of0 eqMv0
section
variable {t : TypeId} {n : Nat} {c wi : Bool} {w : World} {K : Value → World → Prop} {KP : Value → Prop} {xs ys : List Int}
theorem bnEqC [EqC Tryz.prog t n] (hg : Tryz.prog.eqGuardType Tryz.prog.depth t = false) (hx : xs.length = n) (hy : ys.length = n) (hk : K (.bool (decide (xs = ys))) w) : Bn Tryz.prog .eql t c (.agg (xs.map vI).toArray) (.agg (ys.map vI).toArray) w K := by
 have hq := EqC.run (P := Tryz.prog) (t := t) w hx hy
 refine V_of (v := .bool (decide (xs = ys))) (w' := w) ?_ hk
 simp only [Sem.run_bind, eqG_agg hg, Result.andThen_ok, binOp]
 simp [hq, Result.andThen]
theorem bnNeC [EqC Tryz.prog t n] (hg : Tryz.prog.eqGuardType Tryz.prog.depth t = false) (hx : xs.length = n) (hy : ys.length = n) (hk : K (.bool (!decide (xs = ys))) w) : Bn Tryz.prog .neq t c (.agg (xs.map vI).toArray) (.agg (ys.map vI).toArray) w K := by
 have hq := EqC.run (P := Tryz.prog) (t := t) w hx hy
 refine V_of (v := .bool (!decide (xs = ys))) (w' := w) ?_ hk
 simp only [Sem.run_bind, eqG_agg hg, Result.andThen_ok, binOp]
 simp [hq, Result.andThen]
theorem dbEqC [EqC Tryz.prog t n] (hg : Tryz.prog.eqGuardType Tryz.prog.depth t = false) (hx : xs.length = n) (hy : ys.length = n) (hk : KP (.bool (decide (xs = ys)))) : Dv Tryz.prog wi (bn .eql t c (.agg (xs.map vI).toArray) (.agg (ys.map vI).toArray)) w KP := by
 have hq := fun w => EqC.run (P := Tryz.prog) (t := t) w hx hy
 have hr : ∀ w, (bn .eql t c (.agg (xs.map vI).toArray) (.agg (ys.map vI).toArray)).run Tryz.prog w = .ok (.bool (decide (xs = ys))) w := fun w => by
  unfold bn
  simp only [Sem.run_bind, eqG_agg hg, Result.andThen_ok, binOp]
  simp [hq, Result.andThen]
 cases wi
 ·exact ⟨_, hr w, hk⟩
 ·exact ⟨_, hr, hk⟩
theorem dbNeC [EqC Tryz.prog t n] (hg : Tryz.prog.eqGuardType Tryz.prog.depth t = false) (hx : xs.length = n) (hy : ys.length = n) (hk : KP (.bool (!decide (xs = ys)))) : Dv Tryz.prog wi (bn .neq t c (.agg (xs.map vI).toArray) (.agg (ys.map vI).toArray)) w KP := by
 have hq := fun w => EqC.run (P := Tryz.prog) (t := t) w hx hy
 have hr : ∀ w, (bn .neq t c (.agg (xs.map vI).toArray) (.agg (ys.map vI).toArray)).run Tryz.prog w = .ok (.bool (!decide (xs = ys))) w := fun w => by
  unfold bn
  simp only [Sem.run_bind, eqG_agg hg, Result.andThen_ok, binOp]
  simp [hq, Result.andThen]
 cases wi
 ·exact ⟨_, hr w, hk⟩
 ·exact ⟨_, hr, hk⟩
end
abbrev zF (f : Ft) : List Int := [f.tr, f.sp, f.sv, f.ve, f.op, f.pe, f.da, f.lo, f.hi, f.by']
abbrev zH (h : Hd) : List Int := [h.1.tr, h.1.sp, h.1.sv, h.1.ve, h.1.op, h.1.pe, h.1.da, h.1.lo, h.1.hi, h.1.by', h.2]
abbrev zM (m : Mv) : List Int := [m.ph, m.sl, m.fr, m.to, m.cp]
abbrev vM (m : Mv) : Value := .agg #[.int .i64 m.ph, .int .i64 m.sl, .int .i64 m.fr, .int .i64 m.to, .int .i64 m.cp]
theorem zF_iff {f g : Ft} : zF f = zF g ↔ f = g := ⟨fun h => by
 obtain ⟨a1, a2, a3, a4, a5, a6, a7, a8, a9, a10⟩ := f
 obtain ⟨b1, b2, b3, b4, b5, b6, b7, b8, b9, b10⟩ := g
 simp only [zF, List.cons.injEq] at h
 obtain ⟨rfl, rfl, rfl, rfl, rfl, rfl, rfl, rfl, rfl, rfl, _⟩ := h
 rfl, fun h => by rw [h]⟩
theorem zH_iff {f g : Hd} : zH f = zH g ↔ f = g := ⟨fun h => by
 obtain ⟨⟨a1, a2, a3, a4, a5, a6, a7, a8, a9, a10⟩, a⟩ := f
 obtain ⟨⟨b1, b2, b3, b4, b5, b6, b7, b8, b9, b10⟩, b⟩ := g
 simp only [zH, List.cons.injEq] at h
 obtain ⟨rfl, rfl, rfl, rfl, rfl, rfl, rfl, rfl, rfl, rfl, rfl, _⟩ := h
 rfl, fun h => by rw [h]⟩
theorem zM_iff {f g : Mv} : zM f = zM g ↔ f = g := ⟨fun h => by
 obtain ⟨a1, a2, a3, a4, a5⟩ := f
 obtain ⟨b1, b2, b3, b4, b5⟩ := g
 simp only [zM, List.cons.injEq] at h
 obtain ⟨rfl, rfl, rfl, rfl, rfl, _⟩ := h
 rfl, fun h => by rw [h]⟩
section
variable {c wi : Bool} {w : World} {K : Value → World → Prop} {KP : Value → Prop}
theorem dneFt {x y : Ft} (hk : KP (.bool (!decide (x = y)))) : Dv Tryz.prog wi (bn .neq tFt c (vF x) (vF y)) w KP := dbNeC (xs := zF x) (ys := zF y) (by kernel_rfl) rfl rfl (by rwa [decide_eq_decide.2 zF_iff])
theorem deqHd {x y : Hd} (hk : KP (.bool (decide (x = y)))) : Dv Tryz.prog wi (bn .eql tHd c (vH x) (vH y)) w KP := dbEqC (xs := zH x) (ys := zH y) (by kernel_rfl) rfl rfl (by rwa [decide_eq_decide.2 zH_iff])
theorem dneHd {x y : Hd} (hk : KP (.bool (!decide (x = y)))) : Dv Tryz.prog wi (bn .neq tHd c (vH x) (vH y)) w KP := dbNeC (xs := zH x) (ys := zH y) (by kernel_rfl) rfl rfl (by rwa [decide_eq_decide.2 zH_iff])
theorem eqMv {x y : Mv} (hk : K (.bool (decide (x = y))) w) : Bn Tryz.prog .eql tMv c (vM x) (vM y) w K := bnEqC (xs := zM x) (ys := zM y) (by kernel_rfl) rfl rfl (by rwa [decide_eq_decide.2 zM_iff])
end
section
variable {w0 : World} {v : Value} {l : List Hd} {fn : FuncId} {caps : Array Value} {bs : List Bool} {I : Nat → World → Prop}
structure Asks (B : List Nat) (l : List Hd) (fn : FuncId) (caps : Array Value) (bs : List Bool) (I : Nat → World → Prop) : Prop where
 len : bs.length = l.length
 keep : ∀ {j W W'}, I j W → Mo B W W' → I j W'
 call : ∀ {j x b W}, l[j]? = some x → bs[j]? = some b → I j W → Calls Tryz.prog fn (#[] ++ #[vH x] ++ caps) W (Ret fun r W' => I (j + 1) W' ∧ r = .bool b)
set_option maxHeartbeats 1000000 in
theorem c_IxH {B : List Nat} (hn : Enters Tryz.prog fn) (hq : Asks B l fn caps bs I) (hv : ∀ {j W}, I j W → SlC W 11 v l.length (l.flatMap fH)) (hl : l.length ≤ 1000000) (h0 : I 0 w0) :
 Calls Tryz.prog 99 #[v, .func (.func fn) #[] caps] w0 (Ret fun r w' =>
  (∃ j : Nat, bs[j]? = some true ∧ (∀ i < j, bs[i]? = some false) ∧ r = .int .i64 j ∧ I (j + 1) w') ∨ ((∀ i < l.length, bs[i]? = some false) ∧ r = .int .i64 (-1) ∧ I l.length w')) := by
 have hlb := hq.len
 apply e_slices_IndexFunc_api_Held_api_Held
 unfold s_slices_IndexFunc_api_Held_api_Held
 have hs := hv h0
 have h := Hp.init [] w0
 refine leS (hs.hp h) ?_
 refine Lp1.mk (fun i W => ∃ j : Nat, j ≤ l.length ∧ i = .int .i64 j ∧ I j W ∧ (∀ i < j, bs[i]? = some false)) (fun i _ => match i with | .int _ i' => l.length - i'.toNat | _ => 0) ⟨0, by omega, rfl, hq.keep h0 h.mo.nilB, fun i hi => absurd hi (by omega)⟩ ?_
 clear h hs
 rintro _ W ⟨j, hj, rfl, hI, hf⟩
 have hs := hv hI
 have h := Hp.init [] W
 by_cases hjl : j < l.length
 ·refine Exists.elim (p := fun x => l[j]? = some x) ⟨_, List.getElem?_eq_getElem hjl⟩ fun x hx => ?_
  refine Exists.elim (p := fun x => bs[j]? = some x) ⟨_, List.getElem?_eq_getElem (by omega)⟩ fun b hb => ?_
  have sx : Seg (l.flatMap fH) (j * 11) (fH x) := flat_seg (f := fH) (fun _ => rfl) hx
  refine Bn_ltT (by omega) (If_T (iaH h ‹_› (by omega) fun zb zo zk zv zc => ?_))
  refine lhA h ‹_› ‹_› (by rfl) ?_
  refine Cw_i hn (hq.call hx hb (hq.keep hI h.mo.nilB)) ?_
  rintro _ w1 ⟨hI1, rfl⟩
  cases b with
  | true =>
   refine If_T ?_
   exact Ret.mk (.inl ⟨j, hb, hf, rfl, hI1⟩)
  | false =>
   refine If_F ?_
   replace h := Hp.init [] w1
   refine Bn_ad (by omega) (by omega) ?_
   exact ⟨⟨j + 1, by omega, rfl, hI1, fun i hi => by
    rcases Nat.lt_or_ge i j with h1 | h1
    ·exact hf i h1
    ·rw [show i = j by omega]; exact hb⟩, by show l.length - ((j : Int) + 1).toNat < l.length - (j : Int).toNat; omega⟩
 have hjl' : j = l.length := by omega
 subst hjl'
 refine Bn_ltF (by omega) (If_F ?_)
 exact Ret.mk (.inr ⟨hf, rfl, hI⟩)
end
def kept (bs : List Bool) (l : List Hd) : List Hd := ((l.zip bs).filter fun p => !p.2).map (·.1)
theorem kept_snoc {l : List Hd} {bs : List Bool} {x : Hd} {b : Bool} {j : Nat} (hx : l[j]? = some x) (hb : bs[j]? = some b) : kept (bs.take (j + 1)) (l.take (j + 1)) = kept (bs.take j) (l.take j) ++ if b then [] else [x] := by
 obtain ⟨h1, rfl⟩ := List.getElem?_eq_some_iff.1 hx
 obtain ⟨h2, rfl⟩ := List.getElem?_eq_some_iff.1 hb
 unfold kept
 rw [List.take_add_one, List.take_add_one, List.getElem?_eq_getElem h1, List.getElem?_eq_getElem h2]
 show (((l.take j ++ [l[j]]).zip (bs.take j ++ [bs[j]])).filter _).map _ = _
 rw [List.zip_append (by simp only [List.length_take]; omega), List.filter_append, List.map_append]
 congr 1
 cases bs[j] <;> rfl
theorem kept_none {l : List Hd} {bs : List Bool} (hl : bs.length = l.length) (h : ∀ i < l.length, bs[i]? = some false) : ∀ j ≤ l.length, kept (bs.take j) (l.take j) = l.take j
 | 0, _ => by simp [kept]
 | j + 1, hj => by
  have hx : l[j]? = some l[j] := List.getElem?_eq_getElem (by omega)
  rw [kept_snoc hx (h j (by omega)), kept_none hl h j (by omega), List.take_add_one, hx]
  rfl
structure AskD (g : Nat) (T : List Nat) (l : List Hd) (fn : FuncId) (caps : Array Value) (bs : List Bool) (I : Nat → World → Prop) : Prop where
 len : bs.length = l.length
 gT : g ∉ T
 keep : ∀ {j W W'}, I j W → Mo [g] W W' → I j W'
 call : ∀ {j x b W}, l[j]? = some x → bs[j]? = some b → I j W → Calls Tryz.prog fn (#[] ++ #[vH x] ++ caps) W (Ret fun r W' => Mo T W W' ∧ I (j + 1) W' ∧ r = .bool b)
theorem blk_mo {W W' : World} {g : Nat} {ty : TypeId} {cs : List Value} {T : List Nat} (h : Blk W g ty cs) (hm : Mo T W W') (hg : g ∉ T) : Blk W' g ty cs := (hm.block g h.lt hg).trans h
section
variable {w0 : World} {l : List Hd} {fn : FuncId} {caps : Array Value} {bs : List Bool} {I : Nat → World → Prop} {g cap : Nat} {rm : List Value} {T : List Nat}
set_option maxHeartbeats 4000000 in
theorem c_DelH (hn : Enters Tryz.prog fn) (hq : AskD g T l fn caps bs I) (hlen : (l.flatMap fH ++ rm).length = cap * 11) (hl : l.length ≤ cap) (hc : l.length ≤ 1000000) (h0 : I 0 w0) (hT : ∀ k ∈ T, k < w0.heap.size) (hg : Blk w0 g tHd (l.flatMap fH ++ rm)) :
 Calls Tryz.prog 100 #[.slice (some ⟨g, 0, none⟩) l.length cap, .func (.func fn) #[] caps] w0 (Ret fun r w' =>
  r = .slice (some ⟨g, 0, none⟩) (kept bs l).length cap ∧ (∃ ys, Blk w' g tHd ((kept bs l).flatMap fH ++ ys) ∧ ((kept bs l).flatMap fH ++ ys).length = cap * 11) ∧ I l.length w') := by
 have hlb := hq.len
 have hfl := flat_len (f := fH) (c := 11) (fun _ => rfl) l
 have hsl : ∀ {W}, Blk W g tHd (l.flatMap fH ++ rm) → SlC W 11 (.slice (some ⟨g, 0, none⟩) l.length cap) l.length (l.flatMap fH) := fun {W} hb =>
  ⟨hfl, .inr ⟨g, 0, cap, rfl, hl, fun i x hx => hb.cell (by rw [Nat.zero_add, List.getElem?_append_left (by have := (List.getElem?_eq_some_iff.1 hx).1; exact this)]; exact hx)⟩⟩
 have hIx := c_IxH (w0 := w0) (v := .slice (some ⟨g, 0, none⟩) l.length cap) (B := []) (I := fun j W => I j W ∧ Blk W g tHd (l.flatMap fH ++ rm) ∧ w0.heap.size ≤ W.heap.size) hn
  { len := hlb, keep := fun h hm => ⟨hq.keep h.1 hm.nilB, blk_mo h.2.1 hm (by simp), Nat.le_trans h.2.2 hm.size⟩, call := fun hx hb h => (hq.call hx hb h.1).mono fun e w ⟨v, he, h1, h2, h3⟩ => ⟨v, he, ⟨h2, blk_mo h.2.1 h1 hq.gT, Nat.le_trans h.2.2 h1.size⟩, h3⟩ }
  (fun h => hsl h.2.1) (by omega) ⟨h0, hg, Nat.le_refl _⟩
 obtain ⟨R, hR⟩ : ∃ R, R = Ret (fun (r : Value) (w' : World) => r = .slice (some ⟨g, 0, none⟩) (kept bs l).length cap ∧ (∃ ys, Blk w' g tHd ((kept bs l).flatMap fH ++ ys) ∧ ((kept bs l).flatMap fH ++ ys).length = cap * 11) ∧ I l.length w') := ⟨_, rfl⟩
 rw [← hR]
 apply e_slices_DeleteFunc_api_Held_api_Held
 unfold s_slices_DeleteFunc_api_Held_api_Held
 refine Cl_i n_slices_IndexFunc_api_Held_api_Held hIx ?_
 rintro _ w1 (⟨i0, hb0, hbf, rfl, hI, hg1, hz1⟩ | ⟨hbf, rfl, hI, hg1, hz1⟩)
 rotate_left
 ·have h := Hp.init [] w1
  refine Bn_eqT (by omega) (If_T ?_)
  rw [hR]
  have e : kept bs l = l := by
   have := kept_none hlb hbf l.length (Nat.le_refl _)
   rwa [List.take_length, List.take_of_length_le (by omega)] at this
  rw [e]
  exact Ret.mk ⟨rfl, ⟨rm, hg1, hlen⟩, hI⟩
 have hi0 : i0 < l.length := by have := (List.getElem?_eq_some_iff.1 hb0).1; omega
 have h := Hp.init [] w1
 refine Bn_eqF (by omega) (If_F (Bn_ad (by omega) (by omega) ?_))
 clear h
 refine Lp2.mk (fun i j W => ∃ (p q : Nat) (cs : List Value), i = .int .i64 p ∧ j = .int .i64 q ∧ q ≤ l.length ∧ p < q ∧ p = (kept (bs.take q) (l.take q)).length ∧ I q W ∧ Blk W g tHd cs ∧ w0.heap.size ≤ W.heap.size ∧ cs.length = cap * 11 ∧ cs.take (p * 11) = (kept (bs.take q) (l.take q)).flatMap fH ∧ cs.drop (q * 11) = (l.drop q).flatMap fH ++ rm)
  (fun _ j _ => match j with | .int _ j' => l.length - j'.toNat | _ => 0) ?_ ?_
 ·have e : kept (bs.take (i0 + 1)) (l.take (i0 + 1)) = l.take i0 := by
   have hx : l[i0]? = some l[i0] := List.getElem?_eq_getElem hi0
   rw [kept_snoc hx hb0, if_pos rfl, List.append_nil]
   have hb' : ∀ i < i0, (bs.take i0)[i]? = some false := fun i hi => by rw [List.getElem?_take_of_lt hi]; exact hbf i hi
   have := kept_none (l := l.take i0) (bs := bs.take i0) (by rw [List.length_take, List.length_take, hlb]) (fun i hi => hb' i (by rw [List.length_take] at hi; omega)) i0 (by rw [List.length_take]; omega)
   rwa [List.take_take, List.take_take, Nat.min_self] at this
  refine ⟨i0, i0 + 1, l.flatMap fH ++ rm, rfl, rfl, by omega, by omega, by rw [e, List.length_take]; omega, hI, hg1, hz1, hlen, ?_, ?_⟩
  ·rw [e, List.take_append_of_le_length (by omega), flat_take (f := fH) (c := 11) (fun _ => rfl)]
  ·rw [List.drop_append_of_le_length (by omega), flat_drop (f := fH) (c := 11) (fun _ => rfl)]
 ·rintro _ _ W ⟨p, q, cs, rfl, rfl, hq1, hpq, hp, hIq, hgW, hzW, hcl, ht, hd⟩
  have hks : ∀ {W : World} {cs : List Value}, Blk W g tHd cs → ∀ k ∈ (bx g tHd cs).ks, k < W.heap.size ∧ (W.heap.size ≤ k ∨ k ∈ [g]) := fun hb k hk => by
   have : k = g := by simpa using hk
   subst this
   exact ⟨hb.lt, .inr (by simp)⟩
  have h : Hp [g] W W [bx g tHd cs] := (Hp.init [g] W).nw (bx_at hgW) (hks hgW) (by simp)
  refine leB ?_
  by_cases hql : q < l.length
  ·refine Exists.elim (p := fun x => l[q]? = some x) ⟨_, List.getElem?_eq_getElem hql⟩ fun x hx => ?_
   refine Exists.elim (p := fun x => bs[q]? = some x) ⟨_, List.getElem?_eq_getElem (by omega)⟩ fun b hb => ?_
   have hdx : cs.drop (q * 11) = fH x ++ ((l.drop (q + 1)).flatMap fH ++ rm) := by
    obtain ⟨h1, h2⟩ := List.getElem?_eq_some_iff.1 hx
    rw [hd, List.drop_eq_getElem_cons h1, h2, List.flatMap_cons, List.append_assoc]
   have hdn : cs.drop ((q + 1) * 11) = (l.drop (q + 1)).flatMap fH ++ rm := by
    rw [show (q + 1) * 11 = q * 11 + 11 by omega, ← List.drop_drop, hdx]
    rfl
   have hks1 := kept_snoc hx hb
   refine Bn_ltT (by omega) (If_T (iaB hql ?_))
   refine ldA h 0 rfl (cut_at (r := (l.drop (q + 1)).flatMap fH ++ rm) (by omega) (by rw [Nat.zero_add]; exact hdx) (by rfl)) ?_
   refine alS h fun g1 w h => ?_
   refine stA h 0 rfl rfl rfl rfl fun w h => ?_
   refine ldA h 0 rfl rfl ?_
   dsimp only [List.set] at h
   refine Cw_i hn (hq.call hx hb (hq.keep hIq h.mo)) ?_
   rintro _ w2 ⟨m2, hI2, rfl⟩
   have hg1W : W.heap.size ≤ g1 := by
    rcases ((h.ks _ (by simp : bx g1 tHd (fH x) ∈ _) g1 (by simp)).2) with h1 | h1
    ·exact h1
    ·exact absurd h1 ((List.pairwise_cons.1 h.nd).1 (bx g tHd cs) (by simp) g1 (by simp))
   have hb1 : Blk w2 g1 tHd (fH x) := blk_mo (h.get (i := 0) rfl) m2 fun hc => by have := hT _ hc; omega
   have hb2 : Blk w2 g tHd cs := blk_mo (h.get (i := 1) rfl) m2 hq.gT
   have hz2 : w0.heap.size ≤ w2.heap.size := Nat.le_trans hzW (Nat.le_trans h.mo.size m2.size)
   cases b with
   | true =>
    refine Un_T (If_F (Bn_ad (by omega) (by omega) ?_))
    refine ⟨⟨p, q + 1, cs, rfl, rfl, by omega, by omega, by rw [hks1]; simpa using hp, hI2, hb2, hz2, hcl, by rw [hks1]; simpa using ht, hdn⟩, by show l.length - ((q : Int) + 1).toNat < l.length - (q : Int).toNat; omega⟩
   | false =>
    refine Un_F (If_T (V_of (run_ldA (P := Tryz.prog) (t := tHd) hb1 rfl) ?_))
    refine iaB (by omega) ?_
    have h2 : Hp [g] w2 w2 [bx g tHd cs] := (Hp.init [g] w2).nw (bx_at hb2) (hks hb2) (by simp)
    refine stA h2 0 rfl rfl rfl (wr_at (by rw [Nat.zero_add, hcl]; show p * 11 + 11 ≤ cap * 11; omega)) fun w3 h3 => ?_
    refine Bn_ad (by omega) (by omega) (Bn_ad (by omega) (by omega) ?_)
    refine ⟨⟨p + 1, q + 1, _, rfl, rfl, by omega, by omega, by rw [hks1, List.length_append, ← hp]; rfl, hq.keep hI2 h3.mo, h3.get (i := 0) rfl, Nat.le_trans hz2 h3.mo.size, ?_, ?_, ?_⟩, by show l.length - ((q : Int) + 1).toNat < l.length - (q : Int).toNat; omega⟩
    ·rw [List.length_append, List.length_append, List.length_take, List.length_drop]
     show min (0 + p * 11) cs.length + 11 + (cs.length - (0 + p * 11 + 11)) = cap * 11
     omega
    ·rw [Nat.zero_add, show (p + 1) * 11 = (cs.take (p * 11) ++ fH x).length by rw [List.length_append, List.length_take]; show _ = min (p * 11) cs.length + 11; omega, List.take_left, ht, hks1, List.flatMap_append]
     rfl
    ·rw [Nat.zero_add, show (q + 1) * 11 = (cs.take (p * 11) ++ fH x).length + (q - p) * 11 by rw [List.length_append, List.length_take]; show _ = min (p * 11) cs.length + 11 + _; omega, ← List.drop_drop, List.drop_left, List.drop_drop]
     show cs.drop (p * 11 + 11 + (q - p) * 11) = _
     rw [show p * 11 + 11 + (q - p) * 11 = (q + 1) * 11 by omega]
     exact hdn
  ·have hq2 : q = l.length := by omega
   subst hq2
   have e : kept (bs.take l.length) (l.take l.length) = kept bs l := by rw [List.take_length, List.take_of_length_le (by omega)]
   rw [e] at hp ht
   refine Bn_ltF (by omega) (If_F (scBL (by omega) (by omega) ?_))
   refine clS (by rfl) (by rfl) h 0 rfl (by rw [Nat.zero_add, hcl, ← Nat.add_mul]; exact Nat.mul_le_mul_right 11 (by omega)) fun ys w1 hy h1 => ?_
   refine scBH (by omega) (by omega) ?_
   have hbl : Blk w1 g tHd (cs.take (0 + p * 11) ++ ys ++ cs.drop (0 + p * 11 + (l.length - p) * 11)) := h1.get (i := 0) rfl
   rw [Nat.zero_add, ht, List.append_assoc] at hbl
   rw [hR, hp]
   refine Ret.mk ⟨rfl, ⟨_, hbl, ?_⟩, hq.keep hIq h1.mo⟩
   rw [← ht, List.length_append, List.length_append, List.length_take, List.length_drop, hy, hcl]
   omega
end
section
variable {c wi : Bool} {w : World} {KP : Value → Prop}
theorem dneFtS {x : Ft} (hk : KP (.bool false)) : Dv Tryz.prog wi (bn .neq tFt c (vF x) (vF x)) w KP := dneFt (by rw [decide_eq_true rfl]; exact hk)
theorem dneHdS {x : Hd} (hk : KP (.bool false)) : Dv Tryz.prog wi (bn .neq tHd c (vH x) (vH x)) w KP := dneHd (by rw [decide_eq_true rfl]; exact hk)
end
abbrev RV := Rd × Value × Value
abbrev tRd : TypeId := 48
abbrev tIn : TypeId := 3
abbrev fR (r : RV) : List Value := [.int .i64 r.1.id, .int .i64 r.1.up, r.2.1, .int .i64 r.1.nx, r.2.2]
abbrev vR (r : RV) : Value := .agg #[.int .i64 r.1.id, .int .i64 r.1.up, r.2.1, .int .i64 r.1.nx, r.2.2]
def ixOf {α : Type} (p : α → Bool) (l : List α) : Int := if l.findIdx p < l.length then (l.findIdx p : Nat) else -1
theorem ixOf_none {α : Type} {p : α → Bool} {l : List α} (h : ∀ x ∈ l, p x = false) : ixOf p l = -1 := by
 unfold ixOf
 rw [if_neg]
 intro hc
 have := List.findIdx_getElem (p := p) (xs := l) (w := hc)
 rw [h _ (List.getElem_mem hc)] at this
 cases this
theorem ixOf_some {α : Type} {p : α → Bool} {l : List α} {j : Nat} {x : α} (hx : l[j]? = some x) (hp : p x = true) (h : ∀ y ∈ l.take j, p y = false) : ixOf p l = j := by
 obtain ⟨hj, rfl⟩ := List.getElem?_eq_some_iff.1 hx
 have e : l.findIdx p = j := by
  rw [List.findIdx_eq hj]
  refine ⟨hp, fun i hi => ?_⟩
  rw [h _ (List.mem_take_iff_getElem.2 ⟨i, by omega, rfl⟩)]
 unfold ixOf
 rw [e, if_pos hj]
theorem ixOf_any {α : Type} {p : α → Bool} {l : List α} : decide (0 ≤ ixOf p l) = l.any p := by
 by_cases h : l.any p = true
 ·rw [h]
  apply decide_eq_true
  unfold ixOf
  obtain ⟨x, hx, hp⟩ := List.any_eq_true.1 h
  rw [if_pos (List.findIdx_lt_length_of_exists ⟨x, hx, hp⟩)]
  omega
 ·have h := Bool.eq_false_iff.2 h
  rw [h, ixOf_none fun x hx => by have := List.any_eq_false.1 h x hx; simpa using this]
  rfl
theorem take_new {α : Type} {p : α → Bool} {l : List α} {j : Nat} {x : α} (hx : l[j]? = some x) (hp : p x = false) (h : ∀ y ∈ l.take j, p y = false) : ∀ y ∈ l.take (j + 1), p y = false := by
 rw [List.take_add_one, hx]
 intro y hy
 rcases List.mem_append.1 hy with hy | hy
 ·exact h y hy
 ·have : y = x := by simpa using hy
  rw [this]; exact hp
theorem eqNlHd_t {c : Bool} {w : World} {K : Value → World → Prop} (hk : K (.bool true) w) : Bn Tryz.prog .eql 60 c (.slice none 0 0) (.slice none 0 0) w K := by ((try simp -dsimp [go_sem, Tryz.underlying60]); repeat (simp -dsimp (disch := omega) only [gL, gI]; try simp -dsimp [go_sem, Tryz.underlying60])); exact hk
theorem eqNlHd_f {c : Bool} {a : Addr} {n m : Nat} {w : World} {K : Value → World → Prop} (hk : K (.bool false) w) : Bn Tryz.prog .eql 60 c (.slice (some a) n m) (.slice none 0 0) w K := by ((try simp -dsimp [go_sem, Tryz.underlying60]); repeat (simp -dsimp (disch := omega) only [gL, gI]; try simp -dsimp [go_sem, Tryz.underlying60])); exact hk
theorem c_CloneHd {w0 : World} {v : Value} {l : List Hd} (hv : SlC w0 11 v l.length (l.flatMap fH)) (hl : l.length ≤ 1000000) : Calls Tryz.prog 77 #[v] w0 (Ret fun r w' => ∃ u, r = u ∧ Hp [] w0 w' [ro tHd 11 u l.length (l.flatMap fH)]) := by
 have h1 := one_fH l
 rcases hv.2 with ⟨rfl, h0⟩ | ⟨b, o, cap, rfl, hc⟩
 ·have e : l = [] := List.eq_nil_of_length_eq_zero h0
  subst e
  apply e_slices_Clone_api_Held_api_Held
  unfold s_slices_Clone_api_Held_api_Held
  refine eqNlHd_t ?_
  have h := (Hp.init [] w0).nil tHd 11
  refine If_T ?_
  exact Ret.mk ⟨_, rfl, h⟩
 ·apply e_slices_Clone_api_Held_api_Held
  unfold s_slices_Clone_api_Held_api_Held
  refine eqNlHd_f ?_
  have h := Hp.init [] w0
  refine If_F (bs0 h fun v w h => ?_)
  refine apR (by rfl) (by decide) h 0 rfl (hv.hp h) (by first | rfl | assumption) (by omega) fun v1 w h => ?_
  dsimp only [List.set] at h
  have h : Hp [] w0 w [ro tHd 11 v1 (0 + l.length) ([] ++ l.flatMap fH)] := h
  rw [Nat.zero_add, List.nil_append] at h
  exact Ret.mk ⟨_, rfl, h⟩
theorem eqNlIn_t {c : Bool} {w : World} {K : Value → World → Prop} (hk : K (.bool true) w) : Bn Tryz.prog .eql 25 c (.slice none 0 0) (.slice none 0 0) w K := by ((try simp -dsimp [go_sem, Tryz.underlying25]); repeat (simp -dsimp (disch := omega) only [gL, gI]; try simp -dsimp [go_sem, Tryz.underlying25])); exact hk
theorem eqNlIn_f {c : Bool} {a : Addr} {n m : Nat} {w : World} {K : Value → World → Prop} (hk : K (.bool false) w) : Bn Tryz.prog .eql 25 c (.slice (some a) n m) (.slice none 0 0) w K := by ((try simp -dsimp [go_sem, Tryz.underlying25]); repeat (simp -dsimp (disch := omega) only [gL, gI]; try simp -dsimp [go_sem, Tryz.underlying25])); exact hk
theorem c_CloneIn {w0 : World} {v : Value} {l : List Int} (hv : SlC w0 1 v l.length (l.flatMap fI)) (hl : l.length ≤ 1000000) : Calls Tryz.prog 73 #[v] w0 (Ret fun r w' => ∃ u, r = u ∧ Hp [] w0 w' [ro tIn 1 u l.length (l.flatMap fI)]) := by
 have h1 := one_fI l
 rcases hv.2 with ⟨rfl, h0⟩ | ⟨b, o, cap, rfl, hc⟩
 ·have e : l = [] := List.eq_nil_of_length_eq_zero h0
  subst e
  apply e_slices_Clone_int_int
  unfold s_slices_Clone_int_int
  refine eqNlIn_t ?_
  have h := (Hp.init [] w0).nil tIn 1
  refine If_T ?_
  exact Ret.mk ⟨_, rfl, h⟩
 ·apply e_slices_Clone_int_int
  unfold s_slices_Clone_int_int
  refine eqNlIn_f ?_
  have h := Hp.init [] w0
  refine If_F (bs0 h fun v w h => ?_)
  refine apR (by rfl) (by decide) h 0 rfl (hv.hp h) (by first | rfl | assumption) (by omega) fun v1 w h => ?_
  dsimp only [List.set] at h
  have h : Hp [] w0 w [ro tIn 1 v1 (0 + l.length) ([] ++ l.flatMap fI)] := h
  rw [Nat.zero_add, List.nil_append] at h
  exact Ret.mk ⟨_, rfl, h⟩
theorem eqNlFt_t {c : Bool} {w : World} {K : Value → World → Prop} (hk : K (.bool true) w) : Bn Tryz.prog .eql 35 c (.slice none 0 0) (.slice none 0 0) w K := by ((try simp -dsimp [go_sem, Tryz.underlying35]); repeat (simp -dsimp (disch := omega) only [gL, gI]; try simp -dsimp [go_sem, Tryz.underlying35])); exact hk
theorem eqNlFt_f {c : Bool} {a : Addr} {n m : Nat} {w : World} {K : Value → World → Prop} (hk : K (.bool false) w) : Bn Tryz.prog .eql 35 c (.slice (some a) n m) (.slice none 0 0) w K := by ((try simp -dsimp [go_sem, Tryz.underlying35]); repeat (simp -dsimp (disch := omega) only [gL, gI]; try simp -dsimp [go_sem, Tryz.underlying35])); exact hk
theorem c_CloneFt {w0 : World} {v : Value} {l : List Ft} (hv : SlC w0 10 v l.length (l.flatMap fF)) (hl : l.length ≤ 1000000) : Calls Tryz.prog 79 #[v] w0 (Ret fun r w' => ∃ u, r = u ∧ Hp [] w0 w' [ro tFt 10 u l.length (l.flatMap fF)]) := by
 have h1 := one_fF l
 rcases hv.2 with ⟨rfl, h0⟩ | ⟨b, o, cap, rfl, hc⟩
 ·have e : l = [] := List.eq_nil_of_length_eq_zero h0
  subst e
  apply e_slices_Clone_api_Fact_api_Fact
  unfold s_slices_Clone_api_Fact_api_Fact
  refine eqNlFt_t ?_
  have h := (Hp.init [] w0).nil tFt 10
  refine If_T ?_
  exact Ret.mk ⟨_, rfl, h⟩
 ·apply e_slices_Clone_api_Fact_api_Fact
  unfold s_slices_Clone_api_Fact_api_Fact
  refine eqNlFt_f ?_
  have h := Hp.init [] w0
  refine If_F (bs0 h fun v w h => ?_)
  refine apR (by rfl) (by decide) h 0 rfl (hv.hp h) (by first | rfl | assumption) (by omega) fun v1 w h => ?_
  dsimp only [List.set] at h
  have h : Hp [] w0 w [ro tFt 10 v1 (0 + l.length) ([] ++ l.flatMap fF)] := h
  rw [Nat.zero_add, List.nil_append] at h
  exact Ret.mk ⟨_, rfl, h⟩
theorem eqNlRd_t {c : Bool} {w : World} {K : Value → World → Prop} (hk : K (.bool true) w) : Bn Tryz.prog .eql 28 c (.slice none 0 0) (.slice none 0 0) w K := by ((try simp -dsimp [go_sem, Tryz.underlying28]); repeat (simp -dsimp (disch := omega) only [gL, gI]; try simp -dsimp [go_sem, Tryz.underlying28])); exact hk
theorem eqNlRd_f {c : Bool} {a : Addr} {n m : Nat} {w : World} {K : Value → World → Prop} (hk : K (.bool false) w) : Bn Tryz.prog .eql 28 c (.slice (some a) n m) (.slice none 0 0) w K := by ((try simp -dsimp [go_sem, Tryz.underlying28]); repeat (simp -dsimp (disch := omega) only [gL, gI]; try simp -dsimp [go_sem, Tryz.underlying28])); exact hk
theorem c_CloneRd {w0 : World} {v : Value} {l : List RV} (hv : SlC w0 5 v l.length (l.flatMap fR)) (h1 : ((l.flatMap fR).all fun x => x.oneCell') = true) (hl : l.length ≤ 1000000) : Calls Tryz.prog 78 #[v] w0 (Ret fun r w' => ∃ u, r = u ∧ Hp [] w0 w' [ro tRd 5 u l.length (l.flatMap fR)]) := by
 rcases hv.2 with ⟨rfl, h0⟩ | ⟨b, o, cap, rfl, hc⟩
 ·have e : l = [] := List.eq_nil_of_length_eq_zero h0
  subst e
  apply e_slices_Clone_api_Reader_api_Reader
  unfold s_slices_Clone_api_Reader_api_Reader
  refine eqNlRd_t ?_
  have h := (Hp.init [] w0).nil tRd 5
  refine If_T ?_
  exact Ret.mk ⟨_, rfl, h⟩
 ·apply e_slices_Clone_api_Reader_api_Reader
  unfold s_slices_Clone_api_Reader_api_Reader
  refine eqNlRd_f ?_
  have h := Hp.init [] w0
  refine If_F (bs0 h fun v w h => ?_)
  refine apR (by rfl) (by decide) h 0 rfl (hv.hp h) (by first | rfl | assumption) (by omega) fun v1 w h => ?_
  dsimp only [List.set] at h
  have h : Hp [] w0 w [ro tRd 5 v1 (0 + l.length) ([] ++ l.flatMap fR)] := h
  rw [Nat.zero_add, List.nil_append] at h
  exact Ret.mk ⟨_, rfl, h⟩
set_option maxHeartbeats 2000000
theorem c_IxHd {w0 : World} {v : Value} {l : List Hd} {fn : FuncId} {caps : Array Value} {p : Hd → Bool} (hv : SlC w0 11 v l.length (l.flatMap fH)) (hl : l.length ≤ 1000000) (hn : Enters Tryz.prog fn)
 (hp : ∀ {W x}, x ∈ l → Ext w0 W → Calls Tryz.prog fn (#[] ++ #[vH x] ++ caps) W (Ret fun r W' => Ext W W' ∧ r = .bool (p x))) : Calls Tryz.prog 99 #[v, .func (.func fn) #[] caps] w0 (Ret fun r w' => Ext w0 w' ∧ r = .int .i64 (ixOf p l)) := by
 apply e_slices_IndexFunc_api_Held_api_Held
 unfold s_slices_IndexFunc_api_Held_api_Held
 have h := Hp.init [] w0
 refine leS (hv.hp h) ?_
 refine Lp1.mk (fun i W => ∃ j : Nat, j ≤ l.length ∧ i = .int .i64 j ∧ Hp [] w0 W [] ∧ (∀ y ∈ l.take j, p y = false)) (fun i _ => match i with | .int _ i' => l.length - i'.toNat | _ => 0) ⟨0, by omega, rfl, h, by simp⟩ ?_
 clear h
 rintro _ W ⟨j, hj, rfl, h, hf⟩
 by_cases hjl : j < l.length
 ·refine Exists.elim (p := fun x => l[j]? = some x) ⟨_, List.getElem?_eq_getElem hjl⟩ fun x hx => ?_
  have sx : Seg (l.flatMap fH) (j * 11) (fH x) := flat_seg (f := fH) (fun _ => rfl) hx
  have hcall := fun {W : World} => hp (W := W) (List.mem_of_getElem? hx)
  cases hb : p x with
  | true =>
   rw [hb] at hcall
   refine Bn_ltT (by omega) (If_T (iaH h ‹_› (by omega) fun zb zo zk zv zc => ?_))
   refine lhA h ‹_› ‹_› (by rfl) ?_
   refine cw1 h hn (hcall h.ext) fun w h => ?_
   refine If_T ?_
   rw [← ixOf_some hx hb hf]
   exact Ret.mk ⟨h.ext, rfl⟩
  | false =>
   rw [hb] at hcall
   refine Bn_ltT (by omega) (If_T (iaH h ‹_› (by omega) fun zb zo zk zv zc => ?_))
   refine lhA h ‹_› ‹_› (by rfl) ?_
   refine cw1 h hn (hcall h.ext) fun w h => ?_
   refine If_F (Bn_ad (by omega) (by omega) ?_)
   exact ⟨⟨j + 1, by omega, rfl, h, take_new hx hb hf⟩, by show l.length - ((j : Int) + 1).toNat < l.length - (j : Int).toNat; omega⟩
 have hjl' : j = l.length := by omega
 subst hjl'
 rw [List.take_length] at hf
 refine Bn_ltF (by omega) (If_F ?_)
 rw [← ixOf_none hf]
 exact Ret.mk ⟨h.ext, rfl⟩
theorem c_IxIn {w0 : World} {v : Value} {l : List Int} {fn : FuncId} {caps : Array Value} {p : Int → Bool} (hv : SlC w0 1 v l.length (l.flatMap fI)) (hl : l.length ≤ 1000000) (hn : Enters Tryz.prog fn)
 (hp : ∀ {W x}, x ∈ l → Ext w0 W → Calls Tryz.prog fn (#[] ++ #[kvI x] ++ caps) W (Ret fun r W' => Ext W W' ∧ r = .bool (p x))) : Calls Tryz.prog 133 #[v, .func (.func fn) #[] caps] w0 (Ret fun r w' => Ext w0 w' ∧ r = .int .i64 (ixOf p l)) := by
 apply e_slices_IndexFunc_int_int
 unfold s_slices_IndexFunc_int_int
 have h := Hp.init [] w0
 refine leS (hv.hp h) ?_
 refine Lp1.mk (fun i W => ∃ j : Nat, j ≤ l.length ∧ i = .int .i64 j ∧ Hp [] w0 W [] ∧ (∀ y ∈ l.take j, p y = false)) (fun i _ => match i with | .int _ i' => l.length - i'.toNat | _ => 0) ⟨0, by omega, rfl, h, by simp⟩ ?_
 clear h
 rintro _ W ⟨j, hj, rfl, h, hf⟩
 by_cases hjl : j < l.length
 ·refine Exists.elim (p := fun x => l[j]? = some x) ⟨_, List.getElem?_eq_getElem hjl⟩ fun x hx => ?_
  have sx : Seg (l.flatMap fI) (j * 1) (fI x) := flat_seg (f := fI) (fun _ => rfl) hx
  have hcall := fun {W : World} => hp (W := W) (List.mem_of_getElem? hx)
  cases hb : p x with
  | true =>
   rw [hb] at hcall
   refine Bn_ltT (by omega) (If_T (iaH h ‹_› (by omega) fun zb zo zk zv zc => ?_))
   refine lh0 h ‹_› ‹_› (by rfl) ?_
   refine cw1 h hn (hcall h.ext) fun w h => ?_
   refine If_T ?_
   rw [← ixOf_some hx hb hf]
   exact Ret.mk ⟨h.ext, rfl⟩
  | false =>
   rw [hb] at hcall
   refine Bn_ltT (by omega) (If_T (iaH h ‹_› (by omega) fun zb zo zk zv zc => ?_))
   refine lh0 h ‹_› ‹_› (by rfl) ?_
   refine cw1 h hn (hcall h.ext) fun w h => ?_
   refine If_F (Bn_ad (by omega) (by omega) ?_)
   exact ⟨⟨j + 1, by omega, rfl, h, take_new hx hb hf⟩, by show l.length - ((j : Int) + 1).toNat < l.length - (j : Int).toNat; omega⟩
 have hjl' : j = l.length := by omega
 subst hjl'
 rw [List.take_length] at hf
 refine Bn_ltF (by omega) (If_F ?_)
 rw [← ixOf_none hf]
 exact Ret.mk ⟨h.ext, rfl⟩
theorem c_IxRd {w0 : World} {v : Value} {l : List RV} {fn : FuncId} {caps : Array Value} {p : RV → Bool} (hv : SlC w0 5 v l.length (l.flatMap fR)) (hl : l.length ≤ 1000000) (hn : Enters Tryz.prog fn)
 (hp : ∀ {W x}, x ∈ l → Ext w0 W → Calls Tryz.prog fn (#[] ++ #[vR x] ++ caps) W (Ret fun r W' => Ext W W' ∧ r = .bool (p x))) : Calls Tryz.prog 74 #[v, .func (.func fn) #[] caps] w0 (Ret fun r w' => Ext w0 w' ∧ r = .int .i64 (ixOf p l)) := by
 apply e_slices_IndexFunc_api_Reader_api_Reader
 unfold s_slices_IndexFunc_api_Reader_api_Reader
 have h := Hp.init [] w0
 refine leS (hv.hp h) ?_
 refine Lp1.mk (fun i W => ∃ j : Nat, j ≤ l.length ∧ i = .int .i64 j ∧ Hp [] w0 W [] ∧ (∀ y ∈ l.take j, p y = false)) (fun i _ => match i with | .int _ i' => l.length - i'.toNat | _ => 0) ⟨0, by omega, rfl, h, by simp⟩ ?_
 clear h
 rintro _ W ⟨j, hj, rfl, h, hf⟩
 by_cases hjl : j < l.length
 ·refine Exists.elim (p := fun x => l[j]? = some x) ⟨_, List.getElem?_eq_getElem hjl⟩ fun x hx => ?_
  have sx : Seg (l.flatMap fR) (j * 5) (fR x) := flat_seg (f := fR) (fun _ => rfl) hx
  have hcall := fun {W : World} => hp (W := W) (List.mem_of_getElem? hx)
  cases hb : p x with
  | true =>
   rw [hb] at hcall
   refine Bn_ltT (by omega) (If_T (iaH h ‹_› (by omega) fun zb zo zk zv zc => ?_))
   refine lhA h ‹_› ‹_› (by rfl) ?_
   refine cw1 h hn (hcall h.ext) fun w h => ?_
   refine If_T ?_
   rw [← ixOf_some hx hb hf]
   exact Ret.mk ⟨h.ext, rfl⟩
  | false =>
   rw [hb] at hcall
   refine Bn_ltT (by omega) (If_T (iaH h ‹_› (by omega) fun zb zo zk zv zc => ?_))
   refine lhA h ‹_› ‹_› (by rfl) ?_
   refine cw1 h hn (hcall h.ext) fun w h => ?_
   refine If_F (Bn_ad (by omega) (by omega) ?_)
   exact ⟨⟨j + 1, by omega, rfl, h, take_new hx hb hf⟩, by show l.length - ((j : Int) + 1).toNat < l.length - (j : Int).toNat; omega⟩
 have hjl' : j = l.length := by omega
 subst hjl'
 rw [List.take_length] at hf
 refine Bn_ltF (by omega) (If_F ?_)
 rw [← ixOf_none hf]
 exact Ret.mk ⟨h.ext, rfl⟩
theorem c_CoHd {w0 : World} {v : Value} {l : List Hd} {fn : FuncId} {caps : Array Value} {p : Hd → Bool} (hv : SlC w0 11 v l.length (l.flatMap fH)) (hl : l.length ≤ 1000000) (hn : Enters Tryz.prog fn)
 (hp : ∀ {W x}, x ∈ l → Ext w0 W → Calls Tryz.prog fn (#[] ++ #[vH x] ++ caps) W (Ret fun r W' => Ext W W' ∧ r = .bool (p x))) : Calls Tryz.prog 59 #[v, .func (.func fn) #[] caps] w0 (Ret fun r w' => Ext w0 w' ∧ r = .bool (l.any p)) := by
 have cc1 := fun {W : World} (e : Ext w0 W) => c_IxHd (w0 := W) (p := p) (hv.ext e) hl hn fun hx e' => hp hx (e.tr e')
 have hd := ixOf_any (p := p) (l := l)
 apply e_slices_ContainsFunc_api_Held_api_Held
 unfold s_slices_ContainsFunc_api_Held_api_Held
 have h := Hp.init [] w0
 cases hb : l.any p with
 | true =>
  rw [hb] at hd
  have hd := of_decide_eq_true hd
  refine cl1 h n_slices_IndexFunc_api_Held_api_Held (cc1 h.ext) fun w h => ?_
  refine Bn_geT (by omega) ?_
  exact Ret.mk ⟨h.ext, rfl⟩
 | false =>
  rw [hb] at hd
  have hd := of_decide_eq_false hd
  refine cl1 h n_slices_IndexFunc_api_Held_api_Held (cc1 h.ext) fun w h => ?_
  refine Bn_geF (by omega) ?_
  exact Ret.mk ⟨h.ext, rfl⟩
theorem c_CoIn {w0 : World} {v : Value} {l : List Int} {fn : FuncId} {caps : Array Value} {p : Int → Bool} (hv : SlC w0 1 v l.length (l.flatMap fI)) (hl : l.length ≤ 1000000) (hn : Enters Tryz.prog fn)
 (hp : ∀ {W x}, x ∈ l → Ext w0 W → Calls Tryz.prog fn (#[] ++ #[kvI x] ++ caps) W (Ret fun r W' => Ext W W' ∧ r = .bool (p x))) : Calls Tryz.prog 117 #[v, .func (.func fn) #[] caps] w0 (Ret fun r w' => Ext w0 w' ∧ r = .bool (l.any p)) := by
 have cc1 := fun {W : World} (e : Ext w0 W) => c_IxIn (w0 := W) (p := p) (hv.ext e) hl hn fun hx e' => hp hx (e.tr e')
 have hd := ixOf_any (p := p) (l := l)
 apply e_slices_ContainsFunc_int_int
 unfold s_slices_ContainsFunc_int_int
 have h := Hp.init [] w0
 cases hb : l.any p with
 | true =>
  rw [hb] at hd
  have hd := of_decide_eq_true hd
  refine cl1 h n_slices_IndexFunc_int_int (cc1 h.ext) fun w h => ?_
  refine Bn_geT (by omega) ?_
  exact Ret.mk ⟨h.ext, rfl⟩
 | false =>
  rw [hb] at hd
  have hd := of_decide_eq_false hd
  refine cl1 h n_slices_IndexFunc_int_int (cc1 h.ext) fun w h => ?_
  refine Bn_geF (by omega) ?_
  exact Ret.mk ⟨h.ext, rfl⟩
theorem c_CoRd {w0 : World} {v : Value} {l : List RV} {fn : FuncId} {caps : Array Value} {p : RV → Bool} (hv : SlC w0 5 v l.length (l.flatMap fR)) (hl : l.length ≤ 1000000) (hn : Enters Tryz.prog fn)
 (hp : ∀ {W x}, x ∈ l → Ext w0 W → Calls Tryz.prog fn (#[] ++ #[vR x] ++ caps) W (Ret fun r W' => Ext W W' ∧ r = .bool (p x))) : Calls Tryz.prog 67 #[v, .func (.func fn) #[] caps] w0 (Ret fun r w' => Ext w0 w' ∧ r = .bool (l.any p)) := by
 have cc1 := fun {W : World} (e : Ext w0 W) => c_IxRd (w0 := W) (p := p) (hv.ext e) hl hn fun hx e' => hp hx (e.tr e')
 have hd := ixOf_any (p := p) (l := l)
 apply e_slices_ContainsFunc_api_Reader_api_Reader
 unfold s_slices_ContainsFunc_api_Reader_api_Reader
 have h := Hp.init [] w0
 cases hb : l.any p with
 | true =>
  rw [hb] at hd
  have hd := of_decide_eq_true hd
  refine cl1 h n_slices_IndexFunc_api_Reader_api_Reader (cc1 h.ext) fun w h => ?_
  refine Bn_geT (by omega) ?_
  exact Ret.mk ⟨h.ext, rfl⟩
 | false =>
  rw [hb] at hd
  have hd := of_decide_eq_false hd
  refine cl1 h n_slices_IndexFunc_api_Reader_api_Reader (cc1 h.ext) fun w h => ?_
  refine Bn_geF (by omega) ?_
  exact Ret.mk ⟨h.ext, rfl⟩
theorem c_EqHd {w0 : World} {u v : Value} {l : List Hd} (hu : SlC w0 11 u l.length (l.flatMap fH)) (hv : SlC w0 11 v l.length (l.flatMap fH)) (hl : l.length ≤ 1000000) : Calls Tryz.prog 38 #[u, v] w0 (Ret fun r w' => Ext w0 w' ∧ r = .bool true) := by
 apply e_slices_Equal_api_Held_api_Held
 unfold s_slices_Equal_api_Held_api_Held
 have h := Hp.init [] w0
 refine leS (hu.hp h) ?_
 refine leS (hv.hp h) ?_
 refine Bn_neF (by omega) (If_F (leS (hu.hp h) ?_))
 refine Lp1.mk (fun i W => ∃ j : Nat, j ≤ l.length ∧ i = .int .i64 j ∧ Hp [] w0 W []) (fun i _ => match i with | .int _ i' => l.length - i'.toNat | _ => 0) ⟨0, by omega, rfl, h⟩ ?_
 clear h
 rintro _ W ⟨j, hj, rfl, h⟩
 by_cases hjl : j < l.length
 ·refine Exists.elim (p := fun x => l[j]? = some x) ⟨_, List.getElem?_eq_getElem hjl⟩ fun x hx => ?_
  have sx : Seg (l.flatMap fH) (j * 11) (fH x) := flat_seg (f := fH) (fun _ => rfl) hx
  refine Bn_ltT (by omega) (If_T ?_)
  replace h := h.dr
  refine diH h ‹_› (by omega) fun zb zo zk zv zc => ?_
  refine dhA h ‹_› ‹_› (by rfl) ?_
  refine diH h ‹_› (by omega) fun zb zo zk zv zc => ?_
  refine dhA h ‹_› ‹_› (by rfl) ?_
  refine dneHdS ?_
  refine If_F (Bn_ad (by omega) (by omega) ?_)
  exact ⟨⟨j + 1, by omega, rfl, h⟩, by show l.length - ((j : Int) + 1).toNat < l.length - (j : Int).toNat; omega⟩
 have hjl' : j = l.length := by omega
 subst hjl'
 refine Bn_ltF (by omega) (If_F ?_)
 exact Ret.mk ⟨h.ext, rfl⟩
theorem c_EqIn {w0 : World} {u v : Value} {l : List Int} (hu : SlC w0 1 u l.length (l.flatMap fI)) (hv : SlC w0 1 v l.length (l.flatMap fI)) (hl : l.length ≤ 1000000) : Calls Tryz.prog 41 #[u, v] w0 (Ret fun r w' => Ext w0 w' ∧ r = .bool true) := by
 apply e_slices_Equal_int_int
 unfold s_slices_Equal_int_int
 have h := Hp.init [] w0
 refine leS (hu.hp h) ?_
 refine leS (hv.hp h) ?_
 refine Bn_neF (by omega) (If_F (leS (hu.hp h) ?_))
 refine Lp1.mk (fun i W => ∃ j : Nat, j ≤ l.length ∧ i = .int .i64 j ∧ Hp [] w0 W []) (fun i _ => match i with | .int _ i' => l.length - i'.toNat | _ => 0) ⟨0, by omega, rfl, h⟩ ?_
 clear h
 rintro _ W ⟨j, hj, rfl, h⟩
 by_cases hjl : j < l.length
 ·refine Exists.elim (p := fun x => l[j]? = some x) ⟨_, List.getElem?_eq_getElem hjl⟩ fun x hx => ?_
  have sx : Seg (l.flatMap fI) (j * 1) (fI x) := flat_seg (f := fI) (fun _ => rfl) hx
  refine Bn_ltT (by omega) (If_T ?_)
  replace h := h.dr
  refine diH h ‹_› (by omega) fun zb zo zk zv zc => ?_
  refine dh0 h ‹_› ‹_› (by rfl) ?_
  refine diH h ‹_› (by omega) fun zb zo zk zv zc => ?_
  refine dh0 h ‹_› ‹_› (by rfl) ?_
  refine Dv_neF (by omega) (If_F (Bn_ad (by omega) (by omega) ?_))
  exact ⟨⟨j + 1, by omega, rfl, h⟩, by show l.length - ((j : Int) + 1).toNat < l.length - (j : Int).toNat; omega⟩
 have hjl' : j = l.length := by omega
 subst hjl'
 refine Bn_ltF (by omega) (If_F ?_)
 exact Ret.mk ⟨h.ext, rfl⟩
theorem c_EqFt {w0 : World} {u v : Value} {l : List Ft} (hu : SlC w0 10 u l.length (l.flatMap fF)) (hv : SlC w0 10 v l.length (l.flatMap fF)) (hl : l.length ≤ 1000000) : Calls Tryz.prog 42 #[u, v] w0 (Ret fun r w' => Ext w0 w' ∧ r = .bool true) := by
 apply e_slices_Equal_api_Fact_api_Fact
 unfold s_slices_Equal_api_Fact_api_Fact
 have h := Hp.init [] w0
 refine leS (hu.hp h) ?_
 refine leS (hv.hp h) ?_
 refine Bn_neF (by omega) (If_F (leS (hu.hp h) ?_))
 refine Lp1.mk (fun i W => ∃ j : Nat, j ≤ l.length ∧ i = .int .i64 j ∧ Hp [] w0 W []) (fun i _ => match i with | .int _ i' => l.length - i'.toNat | _ => 0) ⟨0, by omega, rfl, h⟩ ?_
 clear h
 rintro _ W ⟨j, hj, rfl, h⟩
 by_cases hjl : j < l.length
 ·refine Exists.elim (p := fun x => l[j]? = some x) ⟨_, List.getElem?_eq_getElem hjl⟩ fun x hx => ?_
  have sx : Seg (l.flatMap fF) (j * 10) (fF x) := flat_seg (f := fF) (fun _ => rfl) hx
  refine Bn_ltT (by omega) (If_T ?_)
  replace h := h.dr
  refine diH h ‹_› (by omega) fun zb zo zk zv zc => ?_
  refine dhA h ‹_› ‹_› (by rfl) ?_
  refine diH h ‹_› (by omega) fun zb zo zk zv zc => ?_
  refine dhA h ‹_› ‹_› (by rfl) ?_
  refine dneFtS ?_
  refine If_F (Bn_ad (by omega) (by omega) ?_)
  exact ⟨⟨j + 1, by omega, rfl, h⟩, by show l.length - ((j : Int) + 1).toNat < l.length - (j : Int).toNat; omega⟩
 have hjl' : j = l.length := by omega
 subst hjl'
 refine Bn_ltF (by omega) (If_F ?_)
 exact Ret.mk ⟨h.ext, rfl⟩
theorem c_Has {w0 : World} {v : Value} {l : List Hd} {x : Hd} (hv : SlC w0 11 v l.length (l.flatMap fH)) (hl : l.length ≤ 1000000) : Calls Tryz.prog 134 #[v, vH x] w0 (Ret fun r w' => Ext w0 w' ∧ r = .int .i64 (ixOf (fun y => decide (x = y)) l)) := by
 apply e_slices_Index_api_Held_api_Held
 unfold s_slices_Index_api_Held_api_Held
 have h := Hp.init [] w0
 refine bxA h fun g1 w h => ?_
 refine leS (hv.hp h) ?_
 refine Lp1.mk (fun i W => ∃ j : Nat, j ≤ l.length ∧ i = .int .i64 j ∧ Hp [] w0 W [bx g1 tHd (fH x)] ∧ (∀ y ∈ l.take j, (fun y => decide (x = y)) y = false)) (fun i _ => match i with | .int _ i' => l.length - i'.toNat | _ => 0) ⟨0, by omega, rfl, h, by simp⟩ ?_
 clear h
 rintro _ W ⟨j, hj, rfl, h, hf⟩
 by_cases hjl : j < l.length
 ·refine Exists.elim (p := fun x => l[j]? = some x) ⟨_, List.getElem?_eq_getElem hjl⟩ fun y hy => ?_
  have sx : Seg (l.flatMap fH) (j * 11) (fH y) := flat_seg (f := fH) (fun _ => rfl) hy
  refine Bn_ltT (by omega) (If_T ?_)
  replace h := h.dr
  refine dlA h 0 rfl rfl ?_
  refine diH h ‹_› (by omega) fun zb zo zk zv zc => ?_
  refine dhA h ‹_› ‹_› (by rfl) ?_
  refine deqHd ?_
  by_cases hb : x = y
  ·rw [decide_eq_true hb]
   refine If_T ?_
   rw [← ixOf_some hy (p := fun y => decide (x = y)) (decide_eq_true hb) hf]
   exact Ret.mk ⟨h.ext, rfl⟩
  ·rw [decide_eq_false hb]
   refine If_F (Bn_ad (by omega) (by omega) ?_)
   exact ⟨⟨j + 1, by omega, rfl, h, take_new (p := fun y => decide (x = y)) hy (decide_eq_false hb) hf⟩, by show l.length - ((j : Int) + 1).toNat < l.length - (j : Int).toNat; omega⟩
 have hjl' : j = l.length := by omega
 subst hjl'
 rw [List.take_length] at hf
 refine Bn_ltF (by omega) (If_F ?_)
 rw [← ixOf_none hf]
 exact Ret.mk ⟨h.ext, rfl⟩
theorem c_ContHd {w0 : World} {v : Value} {l : List Hd} {x : Hd} (hv : SlC w0 11 v l.length (l.flatMap fH)) (hl : l.length ≤ 1000000) : Calls Tryz.prog 121 #[v, vH x] w0 (Ret fun r w' => Ext w0 w' ∧ r = .bool (l.any fun y => decide (x = y))) := by
 have cc1 := fun {W : World} (e : Ext w0 W) => c_Has (w0 := W) (x := x) (hv.ext e) hl
 have hd := ixOf_any (p := fun y => decide (x = y)) (l := l)
 apply e_slices_Contains_api_Held_api_Held
 unfold s_slices_Contains_api_Held_api_Held
 have h := Hp.init [] w0
 cases hb : l.any (fun y => decide (x = y)) with
 | true =>
  rw [hb] at hd
  have hd := of_decide_eq_true hd
  refine bxA h fun g1 w h => ?_
  refine ldA h 0 rfl rfl ?_
  refine cl1 h n_slices_Index_api_Held_api_Held (cc1 h.ext) fun w h => ?_
  refine Bn_geT (by omega) ?_
  exact Ret.mk ⟨h.ext, rfl⟩
 | false =>
  rw [hb] at hd
  have hd := of_decide_eq_false hd
  refine bxA h fun g1 w h => ?_
  refine ldA h 0 rfl rfl ?_
  refine cl1 h n_slices_Index_api_Held_api_Held (cc1 h.ext) fun w h => ?_
  refine Bn_geF (by omega) ?_
  exact Ret.mk ⟨h.ext, rfl⟩
theorem n_shard_caught : Enters Tryz.prog 46 := enters_of Tryz.func46 (by kernel_rfl) rfl
abbrev tBo : TypeId := 4
theorem c_caughtR {g : Nat} {w : World} : CallsW Tryz.prog 46 #[pr g 0] .returning w (fun e u' w' => e = .returned (.tuple #[]) ∧ u' = .returning ∧ w' = w) := by
 refine callsDIn_of_wpSIn (F := Fence.wide) Tryz.func46 rfl trivial fun c₀ cs hu => ?_
 apply wpSIn_seq
 apply wpSIn_region
 simp [wpOpsSIn, go_sem, recoverD, hu, Tryz.ntmps46, Exit.thenS]
 apply wpSIn_seq
 apply wpSIn_region
 simp [wpOpsSIn, go_sem, Tryz.ntmps46, Exit.thenS]
 refine wpSIn_cond (t := false) (by simp [Act.eval, Array.replicate]) ?_
 simp only [Bool.false_eq_true, if_false]
 refine wpSIn_of_wpIn rfl (wpIn_skip ?_)
 cases c₀
 simp_all [bodyPostS, results, Tryz.results46]
theorem run_isRef (w : World) : (Instr.typeAssert (.iface 129 (.agg #[])) 20 129 true).run Tryz.prog w = .ok (.tuple #[.agg #[], .bool true]) w := by
 simp [Instr.typeAssert, run_underlying Tryz.underlying129, Result.andThen]
theorem c_caughtP {g : Nat} {w : World} {b : Bool} (hb : Blk w g tBo [.bool b]) : CallsW Tryz.prog 46 #[pr g 0] (.panicking cR) w (fun e u' w' => e = .returned (.tuple #[]) ∧ settle u' = .returning ∧ Blk w' g tBo [.bool false] ∧ Mo [g] w w') := by
 refine callsDIn_of_wpSIn (F := Fence.wide) Tryz.func46 rfl trivial fun c₀ cs hu => ?_
 apply wpSIn_seq
 apply wpSIn_region
 simp [wpOpsSIn, go_sem, recoverD, hu, Tryz.ntmps46, Exit.thenS]
 apply wpSIn_seq
 apply wpSIn_region
 simp [wpOpsSIn, go_sem, Tryz.ntmps46, Exit.thenS]
 refine wpSIn_cond (t := true) (by simp [Act.eval, Array.replicate]) ?_
 simp only [if_true]
 apply wpSIn_seq
 apply wpSIn_seq
 apply wpSIn_region
 simp [wpOpsSIn, go_sem, run_isRef]
 simp only [Exit.thenS]
 apply wpSIn_seq
 apply wpSIn_region
 simp [wpOpsSIn, go_sem]
 simp only [Exit.thenS]
 refine wpSIn_cond (t := false) (by simp [Act.eval, Array.replicate]) ?_
 simp only [Bool.false_eq_true, if_false]
 refine wpSIn_of_wpIn rfl (wpIn_skip ?_)
 simp only [Exit.thenS]
 apply wpSIn_region
 have hb1 : Blk (w.alloc (Obj.cells #[] 129)) g tBo [.bool b] := blk_mo hb (Mo.of ((Ext.refl w).al _)) (T := []) (by simp)
 have h1 : (w.alloc (Obj.cells #[] 129)).cell? ⟨g, 0, none⟩ = some (.bool b) := hb1.cell rfl
 have h2 : (w.alloc (Obj.cells #[] 129)).frozen? ⟨g, 0, none⟩ = false := hb1.frz 0
 have hf : Blk ((w.alloc (Obj.cells #[] 129)).setCell ⟨g, 0, none⟩ (.bool false)) g tBo [.bool false] := hb1.set1 _
 have hm : Mo [g] w ((w.alloc (Obj.cells #[] 129)).setCell ⟨g, 0, none⟩ (.bool false)) :=
  (Mo.of ((Ext.refl w).al _)).tr ⟨rfl, rfl, rfl, by simp, fun k hk hs => heap_setCell_other _ ⟨g, 0, none⟩ k _ (by simpa using hs)⟩
 simp [wpOpsSIn, go_sem, h1, h2]
 cases c₀
 simp_all [bodyPostS, results, Tryz.results46, settle]
end Go.Proofs.YthdhnhghjecfkaaGreat
namespace Go.Proofs.YthdhnhghjecfkaaGreat
open Go Go.Eng Go.Proofs Go.RowKit
open Go.Srd (Ft VF Hd Mv mv0 Rd Ab Cmd got)
set_option maxRecDepth 100000
abbrev tSh : TypeId := 30
abbrev tSt : TypeId := 76
abbrev tCh : TypeId := 78
abbrev tHs : TypeId := 60
abbrev fV (v : Value) : List Value := [v]
structure Sx where
 sv : Value
 rv : Value
 dv : Value
 ls : List Value
 rs : List RV
abbrev cS (x : Sx) (a : Ab) : List Value := [x.sv, x.rv, .int .i64 a.A.length, .int .i64 a.mv.ph, .int .i64 a.mv.sl, .int .i64 a.mv.fr, .int .i64 a.mv.to, .int .i64 a.mv.cp, x.dv]
abbrev vSh (x : Sx) (a : Ab) : Value := .agg #[x.sv, x.rv, .int .i64 a.A.length, .int .i64 a.mv.ph, .int .i64 a.mv.sl, .int .i64 a.mv.fr, .int .i64 a.mv.to, .int .i64 a.mv.cp, x.dv]
structure ShR (w : World) (x : Sx) (a : Ab) : Prop where
 st : SlC w 1 x.sv a.k (x.ls.flatMap fV)
 ls : ∀ (i : Nat) (v : Value), x.ls[i]? = some v → SlC w 11 v (Srd.store a i).length ((Srd.store a i).flatMap fH)
 ro : SlC w 1 x.rv a.ro.length (a.ro.flatMap fI)
 rd : SlC w 5 x.dv x.rs.length (x.rs.flatMap fR)
 rs : x.rs.map (·.1) = a.rd
 rr : ∀ r ∈ x.rs, SlC w 1 r.2.1 r.1.ro.length (r.1.ro.flatMap fI) ∧ SlC w 10 r.2.2 (got a r.1).length ((got a r.1).flatMap fF)
theorem ShR.ext {w w' : World} {x : Sx} {a : Ab} (h : ShR w x a) (e : Ext w w') : ShR w' x a :=
 ⟨h.st.ext e, fun i v hv => (h.ls i v hv).ext e, h.ro.ext e, h.rd.ext e, h.rs, fun r hr => ⟨(h.rr r hr).1.ext e, (h.rr r hr).2.ext e⟩⟩
theorem ShR.k {w : World} {x : Sx} {a : Ab} (h : ShR w x a) : x.ls.length = a.k := by
 have := h.st.1
 rw [flat_len (f := fV) (c := 1) (fun _ => rfl)] at this
 omega
theorem ShR.at {w : World} {x : Sx} {a : Ab} (h : ShR w x a) {i : Nat} (hi : i < a.k) : ∃ v, x.ls[i]? = some v ∧ SlC w 11 v (Srd.store a i).length ((Srd.store a i).flatMap fH) :=
 ⟨_, List.getElem?_eq_getElem (by rw [h.k]; exact hi), h.ls i _ (List.getElem?_eq_getElem (by rw [h.k]; exact hi))⟩
theorem ShR.one {w : World} {x : Sx} {a : Ab} (h : ShR w x a) : x.sv.oneCell' = true ∧ x.rv.oneCell' = true ∧ x.dv.oneCell' = true ∧ (∀ v ∈ x.ls, v.oneCell' = true) ∧ (∀ r ∈ x.rs, r.2.1.oneCell' = true ∧ r.2.2.oneCell' = true) :=
 ⟨(slc_c1 h.st).2, (slc_c1 h.ro).2, (slc_c1 h.rd).2, fun v hv => by
   obtain ⟨i, hi, rfl⟩ := List.getElem_of_mem hv
   exact (slc_c1 (h.ls i _ (List.getElem?_eq_getElem hi))).2, fun r hr => ⟨(slc_c1 (h.rr r hr).1).2, (slc_c1 (h.rr r hr).2).2⟩⟩
def kB (v : Value) : List Nat := v.ownBlock.toList
def kS (x : Sx) : List Nat := kB x.sv ++ (kB x.rv ++ (kB x.dv ++ (x.ls.flatMap kB ++ x.rs.flatMap fun r => kB r.2.1 ++ kB r.2.2)))
theorem ShR.mv {w w' : World} {x : Sx} {a : Ab} (h : ShR w x a) (hb : ∀ k ∈ kS x, k < w.heap.size → w'.heap[k]? = w.heap[k]?) : ShR w' x a := by
 have m : ∀ {v : Value} {c n : Nat} {xs : List Value}, SlC w c v n xs → (∀ k ∈ kB v, k ∈ kS x) → SlC w' c v n xs := fun hs hk => hs.mv fun k hk' hl => hb k (hk k (by unfold kB; rw [hk']; simp)) hl
 refine ⟨m h.st fun k hk => ?_, fun i v hv => m (h.ls i v hv) fun k hk => ?_, m h.ro fun k hk => ?_, m h.rd fun k hk => ?_, h.rs, fun r hr => ⟨m (h.rr r hr).1 fun k hk => ?_, m (h.rr r hr).2 fun k hk => ?_⟩⟩
 ·simp only [kS, List.mem_append]; exact .inl hk
 ·simp only [kS, List.mem_append]; exact .inr (.inr (.inr (.inl (List.mem_flatMap.2 ⟨v, List.mem_of_getElem? hv, hk⟩))))
 ·simp only [kS, List.mem_append]; exact .inr (.inl hk)
 ·simp only [kS, List.mem_append]; exact .inr (.inr (.inl hk))
 ·simp only [kS, List.mem_append]; exact .inr (.inr (.inr (.inr (List.mem_flatMap.2 ⟨r, hr, List.mem_append_left _ hk⟩))))
 ·simp only [kS, List.mem_append]; exact .inr (.inr (.inr (.inr (List.mem_flatMap.2 ⟨r, hr, List.mem_append_right _ hk⟩))))
abbrev shE (x : Sx) (a : Ab) (fv : Value) (l : List Ft) : Et := ⟨kS x ++ kB fv, fun w => ShR w x a ∧ SlC w 10 fv l.length (l.flatMap fF)⟩
theorem shE_sm {x : Sx} {a : Ab} {fv : Value} {l : List Ft} : (shE x a fv l).Simple := fun B S w h w' _ hb =>
 ⟨h.1.mv fun k hk hl => hb k hl (.inl (List.mem_append_left _ hk)), h.2.mv fun k hk hl => hb k hl (.inl (List.mem_append_right _ (by unfold kB; rw [hk]; simp)))⟩
theorem c_cmp {w : World} {x y : Int} : Calls Tryz.prog 64 #[.int .i64 x, .int .i64 y] w (Ret fun r w' => Ext w w' ∧ r = .int .i64 (if x < y then -1 else if y < x then 1 else 0)) := by
 have hn : ∀ {W : World} {z : Int}, Ext w W → Calls Tryz.prog 102 #[.int .i64 z] W (Ret fun r w' => Ext W w' ∧ r = .bool false) := fun {W z} _ => by
  apply e_cmp_isNaN_int
  unfold s_cmp_isNaN_int
  have h := Hp.init [] W
  refine Bn_neF (by omega) ?_
  exact Ret.mk ⟨h.ext, rfl⟩
 have cc1 := @hn
 apply e_cmp_Compare_int
 unfold s_cmp_Compare_int
 have h := Hp.init [] w
 by_cases h1 : x < y
 ·rw [if_pos h1]
  refine cl1 h n_cmp_isNaN_int (cc1 h.ext) fun w h => ?_
  refine cl1 h n_cmp_isNaN_int (cc1 h.ext) fun w h => ?_
  refine If_F (If_F (Bn_ltT (by omega) (If_T ?_)))
  exact Ret.mk ⟨h.ext, rfl⟩
 ·rw [if_neg h1]
  by_cases h2 : y < x
  ·rw [if_pos h2]
   refine cl1 h n_cmp_isNaN_int (cc1 h.ext) fun w h => ?_
   refine cl1 h n_cmp_isNaN_int (cc1 h.ext) fun w h => ?_
   refine If_F (If_F (Bn_ltF (by omega) (If_F (Bn_gtT (by omega) (If_T ?_)))))
   exact Ret.mk ⟨h.ext, rfl⟩
  ·rw [if_neg h2]
   refine cl1 h n_cmp_isNaN_int (cc1 h.ext) fun w h => ?_
   refine cl1 h n_cmp_isNaN_int (cc1 h.ext) fun w h => ?_
   refine If_F (If_F (Bn_ltF (by omega) (If_F (Bn_gtF (by omega) (If_F ?_)))))
   exact Ret.mk ⟨h.ext, rfl⟩
theorem c_or {w0 : World} {v : Value} {x y : Int} (hv : SlC w0 1 v 2 [.int .i64 x, .int .i64 y]) : Calls Tryz.prog 83 #[v] w0 (Ret fun r w' => Ext w0 w' ∧ r = .int .i64 (if x = 0 then y else x)) := by
 apply e_cmp_Or_int
 unfold s_cmp_Or_int
 have h := Hp.init [] w0
 refine leS (hv.hp h) ?_
 refine Lp1.mk (fun i W => ∃ j : Nat, i = .int .i64 j ∧ j ≤ 2 ∧ Hp [] w0 W [] ∧ (1 ≤ j → x = 0) ∧ (2 ≤ j → y = 0)) (fun i _ => match i with | .int _ i' => 3 - i'.toNat | _ => 0) ⟨0, rfl, by omega, h, by omega, by omega⟩ ?_
 clear h
 rintro _ W ⟨j, rfl, hj, h, hx, hy⟩
 by_cases h0 : j = 0
 ·subst h0
  have sx : Seg [.int .i64 x, .int .i64 y] (0 * 1) [.int .i64 x] := fun i u hu => by cases i <;> simp at hu ⊢; exact hu
  by_cases hx : x = 0
  ·subst hx
   refine Bn_ltT (by omega) (If_T (iaH h ‹_› (by omega) fun zb zo zk zv zc => ?_))
   refine lh0 h ‹_› ‹_› (by rfl) ?_
   refine Bn_neF (by omega) (If_F (Bn_ad (by omega) (by omega) ?_))
   exact ⟨⟨1, rfl, by omega, h, fun _ => rfl, by omega⟩, by decide⟩
  ·rw [if_neg hx]
   refine Bn_ltT (by omega) (If_T (iaH h ‹_› (by omega) fun zb zo zk zv zc => ?_))
   refine lh0 h ‹_› ‹_› (by rfl) ?_
   refine Bn_neT (by omega) (If_T ?_)
   exact Ret.mk ⟨h.ext, rfl⟩
 rw [if_pos (hx (by omega))]
 by_cases h1 : j = 1
 ·subst h1
  have sy : Seg [.int .i64 x, .int .i64 y] (1 * 1) [.int .i64 y] := fun i u hu => by cases i <;> simp at hu ⊢; exact hu
  by_cases hy : y = 0
  ·subst hy
   refine Bn_ltT (by omega) (If_T (iaH h ‹_› (by omega) fun zb zo zk zv zc => ?_))
   refine lh0 h ‹_› ‹_› (by rfl) ?_
   refine Bn_neF (by omega) (If_F (Bn_ad (by omega) (by omega) ?_))
   exact ⟨⟨2, rfl, by omega, h, fun _ => hx (by omega), fun _ => rfl⟩, by decide⟩
  ·refine Bn_ltT (by omega) (If_T (iaH h ‹_› (by omega) fun zb zo zk zv zc => ?_))
   refine lh0 h ‹_› ‹_› (by rfl) ?_
   refine Bn_neT (by omega) (If_T ?_)
   exact Ret.mk ⟨h.ext, rfl⟩
 have h2 : j = 2 := by omega
 subst h2
 rw [hy (by omega)]
 refine Bn_ltF (by omega) (If_F ?_)
 exact Ret.mk ⟨h.ext, rfl⟩
def cmpF (f g : Ft) : Int := if f.tr < g.tr then -1 else if g.tr < f.tr then 1 else if f.sp < g.sp then -1 else if g.sp < f.sp then 1 else 0
set_option maxHeartbeats 1000000 in
theorem c_order {w : World} {f g : Ft} : Calls Tryz.prog 45 #[vF f, vF g] w (Ret fun r w' => Ext w w' ∧ r = .int .i64 (cmpF f g)) := by
 have cc1 := fun {W : World} {x y : Int} (_ : Ext w W) => c_cmp (w := W) (x := x) (y := y)
 apply e_shard_order
 unfold s_shard_order
 have h := Hp.init [] w
 refine bxA h fun g1 w h => ?_
 refine bxA h fun g2 w h => ?_
 replace h := h.dr
 refine dfS (dl1 h 1 rfl rfl (dfS (dl1 h 0 rfl rfl (dfS (dl1 h 1 rfl rfl (dfS (dl1 h 0 rfl rfl (cl1 h n_cmp_Compare_int (cc1 h.ext) fun w h => ?_))))))))
 refine kl1 h 1 rfl rfl (kl1 h 0 rfl rfl (cl1 h n_cmp_Compare_int (cc1 h.ext) fun w h => ?_))
 refine bsN (vs := [_, _]) h (.cons (by rfl) (by rfl) (.cons (by rfl) (by rfl) .nil)) (by rfl) (by rfl) (by decide) (by decide) (by decide) fun v1 w h => ?_
 refine cl1 h n_cmp_Or_int (c_or (qZ 0 h rfl)) fun w h => ?_
 skip
 refine Ret.mk ⟨h.ext, ?_⟩
 congr 1
 unfold cmpF
 by_cases h1 : f.tr < g.tr
 ·simp [h1]
 ·by_cases h2 : g.tr < f.tr
  ·simp [h1, h2]
  ·simp [h1, h2]
end Go.Proofs.YthdhnhghjecfkaaGreat
