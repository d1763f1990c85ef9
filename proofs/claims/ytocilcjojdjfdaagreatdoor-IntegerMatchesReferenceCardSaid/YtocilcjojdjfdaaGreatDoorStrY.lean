/-
  Contracts of functions of the program, and plain lemmas on numbers and strings. By an AI agent.
-/
import Derived.Test.YtocilcjojdjfdaaGreatDoorStrX
set_option linter.unusedSimpArgs false
set_option linter.unusedVariables false
namespace Go.Proofs.YtocilcjojdjfdaaGreatDoor
open Go Go.Eng Go.Proofs Go.Num Go.RowKit
set_option maxRecDepth 100000
set_option linter.unusedVariables false
def sgn (b : Bool) (x : Int) : Int := if b then -x else x
def SgnAt (w : World) (z m : Int) (r : Value) (w' : World) : Prop := Ext w w' ∧ ∃ s t n, r = .agg #[.bool s, t] ∧ NumAt w' t n ∧ sgn s n = z ∧ n ≤ m
theorem c_splus {w : World} {a b : Bool} {u v : Value} {x y : Int} (hu : NumAt w u x) (hv : NumAt w v y) (hx : x < Mx) (hy : y < Mx) :
    Calls Tryz.prog 39 #[.agg #[.bool a, u], .agg #[.bool b, v]] w (Ret (SgnAt w (sgn a x + sgn b y) (x + y))) := by
  have hx0 := hu.nonneg
  have hy0 := hv.nonneg
  obtain ⟨a1, n1, cap1, rfl⟩ := hu.slice
  obtain ⟨a2, n2, cap2, rfl⟩ := hv.slice
  apply e_integer_signed_plus
  unfold s_integer_signed_plus
  obtain ⟨w1, hw1⟩ : ∃ w1, ((w.alloc (Obj.cells #[.bool a, .slice a1 n1 cap1] 50)).alloc (Obj.cells #[.bool b, .slice a2 n2 cap2] 50)).alloc (Obj.cells #[.bool false, .slice none 0 0] 50) = w1 := ⟨_, rfl⟩
  have he : Ext w w1 := by rw [← hw1]; exact (((Ext.refl w).al _).al _).al _
  have hs1 : w1.heap.size = w.heap.size + 3 := by rw [← hw1]; simp
  have b0 : Blk w1 w.heap.size 50 [.bool a, .slice a1 n1 cap1] := by rw [← hw1]; exact ((Blk.al w [_, _] _).ext ((Ext.refl _).al _)).ext ((Ext.refl _).al _)
  have b1 : Blk w1 (w.heap.size + 1) 50 [.bool b, .slice a2 n2 cap2] := by
    rw [← hw1]; have := (Blk.al (w.alloc (Obj.cells #[.bool a, .slice a1 n1 cap1] 50)) [.bool b, .slice a2 n2 cap2] 50).ext ((Ext.refl _).al (Obj.cells #[.bool false, .slice none 0 0] 50)); simpa using this
  have b2 : Blk w1 (w.heap.size + 1 + 1) 50 [.bool false, .slice none 0 0] := by
    rw [← hw1]; have := Blk.al ((w.alloc (Obj.cells #[.bool a, .slice a1 n1 cap1] 50)).alloc (Obj.cells #[.bool b, .slice a2 n2 cap2] 50)) [.bool false, .slice none 0 0] 50; simpa using this
  have d1 : ∀ W, Ext W W.drew := fun W => Ext.dr (.refl W)
  have fin : ∀ W, Ext w1 W → ∀ (s : Bool) a3 n3 c3 n, NumAt W (.slice a3 n3 c3) n → sgn s n = sgn a x + sgn b y → n ≤ x + y →
      Ret (SgnAt w (sgn a x + sgn b y) (x + y)) (.returned (.agg #[.bool s, .slice a3 n3 c3]))
        ((W.setCell ⟨w.heap.size + 1 + 1, 0, none⟩ (.bool s)).setCell ⟨w.heap.size + 1 + 1, 1, none⟩ (.slice a3 n3 c3)) := by
    intro W hW s a3 n3 c3 n hn h1 h2
    have c2 := b2.ext hW
    have l : w.heap.size ≤ w.heap.size + 1 + 1 := by omega
    refine Ret.mk ⟨Ext.stB (Ext.stB (he.trans (hW.mono he.size)) l _) l _, s, _, n, rfl, ?_, h1, h2⟩
    exact (hn.setBlk c2 (by simp) 0 _).setBlk (c2.set 0 _) (by simp) 1 _
  by_cases hab : a = b
  · subst hab
    ((try simp -dsimp [go_sem]); repeat (simp -dsimp (disch := omega) only [w64, wu64, dlt_t, dlt_f, dle_t, dle_f, deq_t, deq_f, beq_t, beq_f, bne_t, bne_f, nlt_t, nlt_f, nle_t, nle_f, neq_t, neq_f, nbeq_t, nbeq_f, nbne_t, nbne_f, it_t, it_f, dit_t, dit_f]; try simp -dsimp [go_sem]))
    rw [hw1]
    refine Cl_i n_integer_number_plus (c_plus (hu.ext (he.tr (d1 _))) (hv.ext (he.tr (d1 _))) hx hy) ?_
    rintro r W ⟨h1, h2, _⟩
    obtain ⟨a3, n3, c3, rfl⟩ := h1.slice
    have h2' := (d1 w1).tr h2
    have c0 := b0.ext h2'
    have c2 := b2.ext h2'
    ((try simp -dsimp [go_sem, c0.cell (i := 0) rfl, c2.cell (i := 0) rfl, c2.cell (i := 1) rfl, c2.frz 0, c2.frz 1]); repeat (simp -dsimp (disch := omega) only [w64, wu64, dlt_t, dlt_f, dle_t, dle_f, deq_t, deq_f, beq_t, beq_f, bne_t, bne_f, nlt_t, nlt_f, nle_t, nle_f, neq_t, neq_f, nbeq_t, nbeq_f, nbne_t, nbne_f, it_t, it_f, dit_t, dit_f]; try simp -dsimp [go_sem, c0.cell (i := 0) rfl, c2.cell (i := 0) rfl, c2.cell (i := 1) rfl, c2.frz 0, c2.frz 1]))
    exact fin W h2' a _ _ _ _ h1 (by cases a <;> simp [sgn] <;> omega) (Int.le_refl _)
  · have hab' : (a == b) = false := by simpa using hab
    ((try simp -dsimp [go_sem, hab']); repeat (simp -dsimp (disch := omega) only [w64, wu64, dlt_t, dlt_f, dle_t, dle_f, deq_t, deq_f, beq_t, beq_f, bne_t, bne_f, nlt_t, nlt_f, nle_t, nle_f, neq_t, neq_f, nbeq_t, nbeq_f, nbne_t, nbne_f, it_t, it_f, dit_t, dit_f]; try simp -dsimp [go_sem, hab']))
    rw [hw1]
    refine Cl_i n_integer_number_compare (c_compare (hu.ext he) (hv.ext he) hx hy) ?_
    rintro _ W ⟨rfl, hW⟩
    have c0 := b0.ext hW
    have c1 := b1.ext hW
    have hxW := (hu.ext he).ext (hW.tr (d1 _))
    have hyW := (hv.ext he).ext (hW.tr (d1 _))
    by_cases hle : y ≤ x
    · have hc : 0 ≤ cmpI x y := by unfold cmpI; split <;> (try split) <;> omega
      ((try simp -dsimp [go_sem, hc, c0.cell (i := 0) rfl, c0.cell (i := 1) rfl, c1.cell (i := 0) rfl, c1.cell (i := 1) rfl]); repeat (simp -dsimp (disch := omega) only [w64, wu64, dlt_t, dlt_f, dle_t, dle_f, deq_t, deq_f, beq_t, beq_f, bne_t, bne_f, nlt_t, nlt_f, nle_t, nle_f, neq_t, neq_f, nbeq_t, nbeq_f, nbne_t, nbne_f, it_t, it_f, dit_t, dit_f]; try simp -dsimp [go_sem, hc, c0.cell (i := 0) rfl, c0.cell (i := 1) rfl, c1.cell (i := 0) rfl, c1.cell (i := 1) rfl]))
      refine Cl_i n_integer_number_minus (c_minus hxW hyW hx hle) ?_
      rintro r W2 ⟨h1, h2, _⟩
      obtain ⟨a3, n3, c3, rfl⟩ := h1.slice
      have h2' := (hW.tr (d1 _)).tr h2
      have c0 := b0.ext h2'
      have c2 := b2.ext h2'
      ((try simp -dsimp [go_sem, c0.cell (i := 0) rfl, c2.cell (i := 0) rfl, c2.cell (i := 1) rfl, c2.frz 0, c2.frz 1]); repeat (simp -dsimp (disch := omega) only [w64, wu64, dlt_t, dlt_f, dle_t, dle_f, deq_t, deq_f, beq_t, beq_f, bne_t, bne_f, nlt_t, nlt_f, nle_t, nle_f, neq_t, neq_f, nbeq_t, nbeq_f, nbne_t, nbne_f, it_t, it_f, dit_t, dit_f]; try simp -dsimp [go_sem, c0.cell (i := 0) rfl, c2.cell (i := 0) rfl, c2.cell (i := 1) rfl, c2.frz 0, c2.frz 1]))
      exact fin W2 h2' a _ _ _ _ h1 (by cases a <;> cases b <;> simp [sgn] at hab ⊢ <;> omega) (by omega)
    · have hc : cmpI x y < 0 := by unfold cmpI; rw [if_pos (by omega)]; decide
      ((try simp -dsimp [go_sem, hc, c0.cell (i := 0) rfl, c0.cell (i := 1) rfl, c1.cell (i := 0) rfl, c1.cell (i := 1) rfl]); repeat (simp -dsimp (disch := omega) only [w64, wu64, dlt_t, dlt_f, dle_t, dle_f, deq_t, deq_f, beq_t, beq_f, bne_t, bne_f, nlt_t, nlt_f, nle_t, nle_f, neq_t, neq_f, nbeq_t, nbeq_f, nbne_t, nbne_f, it_t, it_f, dit_t, dit_f]; try simp -dsimp [go_sem, hc, c0.cell (i := 0) rfl, c0.cell (i := 1) rfl, c1.cell (i := 0) rfl, c1.cell (i := 1) rfl]))
      refine Cl_i n_integer_number_minus (c_minus hyW hxW hy (by omega)) ?_
      rintro r W2 ⟨h1, h2, _⟩
      obtain ⟨a3, n3, c3, rfl⟩ := h1.slice
      have h2' := (hW.tr (d1 _)).tr h2
      have c1 := b1.ext h2'
      have c2 := b2.ext h2'
      ((try simp -dsimp [go_sem, c1.cell (i := 0) rfl, c2.cell (i := 0) rfl, c2.cell (i := 1) rfl, c2.frz 0, c2.frz 1]); repeat (simp -dsimp (disch := omega) only [w64, wu64, dlt_t, dlt_f, dle_t, dle_f, deq_t, deq_f, beq_t, beq_f, bne_t, bne_f, nlt_t, nlt_f, nle_t, nle_f, neq_t, neq_f, nbeq_t, nbeq_f, nbne_t, nbne_f, it_t, it_f, dit_t, dit_f]; try simp -dsimp [go_sem, c1.cell (i := 0) rfl, c2.cell (i := 0) rfl, c2.cell (i := 1) rfl, c2.frz 0, c2.frz 1]))
      exact fin W2 h2' b _ _ _ _ h1 (by cases a <;> cases b <;> simp [sgn] at hab ⊢ <;> omega) (by omega)
theorem resI_eq (z : Int) (s : Bool) (n : Int) (h : sgn s n = z) : resI (if s then -n else n) = resI z := by rw [← h]; rfl
theorem MaxMx : ((MaxI : Nat) : Int) * MaxI * 100000000 < Mx := by unfold MaxI Mx; decide +kernel
theorem MaxI_pos : 1000000 < (MaxI : Int) := by unfold MaxI; decide +kernel
theorem MaxI_Mx : (MaxI : Int) * 100000000 < Mx := by
  have h1 := MaxMx
  have h2 := MaxI_pos
  have : (MaxI : Int) * 100000000 * 1 ≤ (MaxI : Int) * 100000000 * MaxI := Int.mul_le_mul_of_nonneg_left (by omega) (by omega)
  have h3 : (MaxI : Int) * 100000000 * MaxI = MaxI * MaxI * 100000000 := by grind
  omega
theorem sgn_natAbs (z : Int) : sgn (decide (z < 0)) z.natAbs = z := by unfold sgn; split <;> simp at * <;> omega
theorem resI_tuple (z : Int) : ∃ a b, resI z = .tuple #[a, b] := by unfold resI; split <;> exact ⟨_, _, rfl⟩
theorem abs_lt {z : Int} (h : z.natAbs < MaxI) : (z.natAbs : Int) < MaxI := by omega
theorem cl_text {w w1 : World} {z m : Int} {r : Value} (hr : SgnAt w z m r w1) (hm : m < Mx) (ht : Tab w) {pan : List PanicEntry → World → Prop} {K : Value → World → Prop} (hk : ∀ a b W, resI z = .tuple #[a, b] → Ext w W → K (.tuple #[a, b]) W) : Cl Tryz.prog 40 #[r] w1 pan K := by
  obtain ⟨h1, s, t, n, rfl, hn, hz, hle⟩ := hr
  refine Cl_i n_integer_signed_text (c_text hn (by omega) (ht.ext h1)) ?_
  rintro _ W ⟨h2, rfl⟩
  obtain ⟨a, b, hab⟩ := resI_tuple z
  rw [resI_eq z s n hz, hab]
  exact hk a b W hab (h1.tr h2)
theorem c_Add {x y : Int} {w : World} (hx : x.natAbs < MaxI) (hy : y.natAbs < MaxI) (ht : Tab w) :
    Calls Tryz.prog 14 #[str (Lib.itoa x), str (Lib.itoa y)] w (Ret fun r w' => Ext w w' ∧ r = resI (x + y)) := by
  apply e_integer_Add
  unfold s_integer_Add
  refine Cl_i n_integer_both (c_both_ok hx hy) ?_
  rintro _ w1 ⟨h1, u, v, rfl, hu, hv⟩
  obtain ⟨a1, n1, cap1, rfl⟩ := hu.slice
  obtain ⟨a2, n2, cap2, rfl⟩ := hv.slice
  have hM := MaxI_Mx
  have hp := MaxI_pos
  have gx := abs_lt hx
  have gy := abs_lt hy
  ((try simp -dsimp [go_sem]); repeat (simp -dsimp (disch := omega) only [w64, wu64, dlt_t, dlt_f, dle_t, dle_f, deq_t, deq_f, beq_t, beq_f, bne_t, bne_f, nlt_t, nlt_f, nle_t, nle_f, neq_t, neq_f, nbeq_t, nbeq_f, nbne_t, nbne_f, it_t, it_f, dit_t, dit_f]; try simp -dsimp [go_sem]))
  have ha : ∀ o1 o2, Ext w1 ((w1.alloc o1).alloc o2) := fun o1 o2 => ((Ext.refl w1).al _).al _
  refine Cl_i n_integer_signed_plus (c_splus (hu.ext (ha _ _)) (hv.ext (ha _ _)) (by omega) (by omega)) ?_
  intro r W hr
  rw [sgn_natAbs, sgn_natAbs] at hr
  refine cl_text hr (by omega) (ht.ext (h1.tr (ha _ _))) fun a b W2 hab h2 => ?_
  ((try simp -dsimp [go_sem]); repeat (simp -dsimp (disch := omega) only [w64, wu64, dlt_t, dlt_f, dle_t, dle_f, deq_t, deq_f, beq_t, beq_f, bne_t, bne_f, nlt_t, nlt_f, nle_t, nle_f, neq_t, neq_f, nbeq_t, nbeq_f, nbne_t, nbne_f, it_t, it_f, dit_t, dit_f]; try simp -dsimp [go_sem]))
  exact Ret.mk ⟨(h1.tr (ha _ _)).tr h2, hab.symm⟩
theorem sgn_not (b : Bool) (n : Int) : sgn (!b) n = - sgn b n := by cases b <;> simp [sgn]
theorem c_Sub {x y : Int} {w : World} (hx : x.natAbs < MaxI) (hy : y.natAbs < MaxI) (ht : Tab w) :
    Calls Tryz.prog 16 #[str (Lib.itoa x), str (Lib.itoa y)] w (Ret fun r w' => Ext w w' ∧ r = resI (x - y)) := by
  apply e_integer_Sub
  unfold s_integer_Sub
  refine Cl_i n_integer_both (c_both_ok hx hy) ?_
  rintro _ w1 ⟨h1, u, v, rfl, hu, hv⟩
  obtain ⟨a1, n1, cap1, rfl⟩ := hu.slice
  obtain ⟨a2, n2, cap2, rfl⟩ := hv.slice
  have hM := MaxI_Mx
  have hp := MaxI_pos
  have gx := abs_lt hx
  have gy := abs_lt hy
  obtain ⟨bx, hbx⟩ : ∃ bx, bx = decide (x < 0) := ⟨_, rfl⟩
  obtain ⟨bY, hbY⟩ : ∃ bY, bY = decide (y < 0) := ⟨_, rfl⟩
  rw [← hbx, ← hbY]
  ((try simp -dsimp [go_sem]); repeat (simp -dsimp (disch := omega) only [w64, wu64, dlt_t, dlt_f, dle_t, dle_f, deq_t, deq_f, beq_t, beq_f, bne_t, bne_f, nlt_t, nlt_f, nle_t, nle_f, neq_t, neq_f, nbeq_t, nbeq_f, nbne_t, nbne_f, it_t, it_f, dit_t, dit_f]; try simp -dsimp [go_sem]))
  have ha : ∀ o1 o2, Ext w1 ((w1.alloc o1).alloc o2) := fun o1 o2 => ((Ext.refl w1).al _).al _
  refine Cl_i n_integer_signed_plus (c_splus (hu.ext (ha _ _)) (hv.ext (ha _ _)) (by omega) (by omega)) ?_
  intro r W hr
  rw [hbx, hbY, sgn_not, sgn_natAbs, sgn_natAbs] at hr
  refine cl_text hr (by omega) (ht.ext (h1.tr (ha _ _))) fun a b W2 hab h2 => ?_
  ((try simp -dsimp [go_sem]); repeat (simp -dsimp (disch := omega) only [w64, wu64, dlt_t, dlt_f, dle_t, dle_f, deq_t, deq_f, beq_t, beq_f, bne_t, bne_f, nlt_t, nlt_f, nle_t, nle_f, neq_t, neq_f, nbeq_t, nbeq_f, nbne_t, nbne_f, it_t, it_f, dit_t, dit_f]; try simp -dsimp [go_sem]))
  exact Ret.mk ⟨(h1.tr (ha _ _)).tr h2, hab.symm⟩
theorem c_Mul {x y : Int} {w : World} (hx : x.natAbs < MaxI) (hy : y.natAbs < MaxI) (ht : Tab w) :
    Calls Tryz.prog 15 #[str (Lib.itoa x), str (Lib.itoa y)] w (Ret fun r w' => Ext w w' ∧ r = resI (x * y)) := by
  apply e_integer_Mul
  unfold s_integer_Mul
  refine Cl_i n_integer_both (c_both_ok hx hy) ?_
  rintro _ w1 ⟨h1, u, v, rfl, hu, hv⟩
  obtain ⟨a1, n1, cap1, rfl⟩ := hu.slice
  obtain ⟨a2, n2, cap2, rfl⟩ := hv.slice
  have hM := MaxI_Mx
  have hMM := MaxMx
  have hp := MaxI_pos
  have gx := abs_lt hx
  have gy := abs_lt hy
  have hxy : (x.natAbs : Int) * y.natAbs < Mx := by
    have h1 : (x.natAbs : Int) * y.natAbs ≤ MaxI * MaxI := Int.mul_le_mul (by omega) (by omega) (by omega) (by omega)
    have h2 : 0 ≤ (MaxI : Int) * MaxI := Int.mul_nonneg (by omega) (by omega)
    omega
  obtain ⟨bx, hbx⟩ : ∃ bx, bx = decide (x < 0) := ⟨_, rfl⟩
  obtain ⟨bY, hbY⟩ : ∃ bY, bY = decide (y < 0) := ⟨_, rfl⟩
  rw [← hbx, ← hbY]
  ((try simp -dsimp [go_sem]); repeat (simp -dsimp (disch := omega) only [w64, wu64, dlt_t, dlt_f, dle_t, dle_f, deq_t, deq_f, beq_t, beq_f, bne_t, bne_f, nlt_t, nlt_f, nle_t, nle_f, neq_t, neq_f, nbeq_t, nbeq_f, nbne_t, nbne_f, it_t, it_f, dit_t, dit_f]; try simp -dsimp [go_sem]))
  obtain ⟨w2, hw2⟩ : ∃ w2, (w1.alloc (Obj.cells #[.bool bx, .slice a1 n1 cap1] 50)).alloc (Obj.cells #[.bool bY, .slice a2 n2 cap2] 50) = w2 := ⟨_, rfl⟩
  have h12 : Ext w1 w2 := by rw [← hw2]; exact ((Ext.refl w1).al _).al _
  have b1 : Blk w2 w1.heap.size 50 [.bool bx, .slice a1 n1 cap1] := by rw [← hw2]; exact (Blk.al w1 [_, _] _).ext ((Ext.refl _).al _)
  have b2 : Blk w2 (w1.heap.size + 1) 50 [.bool bY, .slice a2 n2 cap2] := by rw [← hw2]; have := Blk.al (w1.alloc (Obj.cells #[.bool bx, .slice a1 n1 cap1] 50)) [.bool bY, .slice a2 n2 cap2] 50; simpa using this
  have hd : Ext w2 w2.drew := Ext.dr (.refl _)
  rw [hw2]
  refine Cl_i n_integer_number_times (c_times (hu.ext (h12.tr hd)) (hv.ext (h12.tr hd)) (by omega) (by omega) hxy) ?_
  rintro r W ⟨hn, hW⟩
  obtain ⟨a3, n3, cap3, rfl⟩ := hn.slice
  have hW2 := hd.tr hW
  have c1 := b1.ext hW2
  have c2 := b2.ext hW2
  ((try simp -dsimp [go_sem, c1.cell (i := 0) rfl, c2.cell (i := 0) rfl]); repeat (simp -dsimp (disch := omega) only [w64, wu64, dlt_t, dlt_f, dle_t, dle_f, deq_t, deq_f, beq_t, beq_f, bne_t, bne_f, nlt_t, nlt_f, nle_t, nle_f, neq_t, neq_f, nbeq_t, nbeq_f, nbne_t, nbne_f, it_t, it_f, dit_t, dit_f]; try simp -dsimp [go_sem, c1.cell (i := 0) rfl, c2.cell (i := 0) rfl]))
  have hwW : Ext w W := (h1.tr h12).tr hW2
  have hsg : SgnAt w (x * y) (x.natAbs * y.natAbs) (.agg #[.bool (!bx == bY), .slice a3 n3 cap3]) W := by
    refine ⟨hwW, _, _, _, rfl, hn, ?_, Int.le_refl _⟩
    have e1 := sgn_natAbs x
    have e2 := sgn_natAbs y
    rw [← hbx] at e1
    rw [← hbY] at e2
    conv => rhs; rw [← e1, ← e2]
    cases bx <;> cases bY <;> simp [sgn, Int.neg_mul, Int.mul_neg]
  refine cl_text hsg hxy ht fun a b W2 hab h2 => ?_
  ((try simp -dsimp [go_sem]); repeat (simp -dsimp (disch := omega) only [w64, wu64, dlt_t, dlt_f, dle_t, dle_f, deq_t, deq_f, beq_t, beq_f, bne_t, bne_f, nlt_t, nlt_f, nle_t, nle_f, neq_t, neq_f, nbeq_t, nbeq_f, nbne_t, nbne_f, it_t, it_f, dit_t, dit_f]; try simp -dsimp [go_sem]))
  exact Ret.mk ⟨h2, hab.symm⟩
theorem c_Valid {s : List UInt8} {w : World} (hl : s.length ≤ 1000000) : Calls Tryz.prog 19 #[str s] w (Ret fun r w' => Ext w w' ∧ r = .bool (validB s)) := by
  apply e_integer_Valid
  unfold s_integer_Valid
  refine Cl_i n_integer_isValid (c_isValid hl) ?_
  intro r w1 h
  exact Ret.mk h
theorem c_FromInt {n : Int} {w : World} (h0 : -9223372036854775808 ≤ n) (h1 : n ≤ 9223372036854775807) (ht : Tab w) : Calls Tryz.prog 35 #[.int .i64 n] w (Ret fun r w' => Ext w w' ∧ r = str (Lib.itoa n)) := by
  apply e_integer_FromInt
  unfold s_integer_FromInt
  refine Cl_i n_strconv_Itoa (c_Itoa h0 h1 ht) ?_
  rintro r w1 ⟨h2, h3⟩
  exact Ret.mk ⟨h3, h2⟩
theorem c_Compare {x y : Int} {w : World} (hx : x.natAbs < MaxI) (hy : y.natAbs < MaxI) :
    Calls Tryz.prog 18 #[str (Lib.itoa x), str (Lib.itoa y)] w (Ret fun r w' => Ext w w' ∧ r = .int .i64 (cmpI x y)) := by
  apply e_integer_Compare
  unfold s_integer_Compare
  refine Cl_i n_integer_both (c_both_ok hx hy) ?_
  rintro _ w1 ⟨h1, u, v, rfl, hu, hv⟩
  obtain ⟨a1, n1, cap1, rfl⟩ := hu.slice
  obtain ⟨a2, n2, cap2, rfl⟩ := hv.slice
  have hM := MaxI_Mx
  have hp := MaxI_pos
  have gx := abs_lt hx
  have gy := abs_lt hy
  have ha : ∀ o1 o2, Ext w1 ((w1.alloc o1).alloc o2) := fun o1 o2 => ((Ext.refl w1).al _).al _
  by_cases hx0 : x < 0
  · by_cases hy0 : y < 0
    · ((try simp -dsimp [go_sem, hx0, hy0]); repeat (simp -dsimp (disch := omega) only [w64, wu64, dlt_t, dlt_f, dle_t, dle_f, deq_t, deq_f, beq_t, beq_f, bne_t, bne_f, nlt_t, nlt_f, nle_t, nle_f, neq_t, neq_f, nbeq_t, nbeq_f, nbne_t, nbne_f, it_t, it_f, dit_t, dit_f]; try simp -dsimp [go_sem, hx0, hy0]))
      refine Cl_i n_integer_number_compare (c_compare (hv.ext (ha _ _)) (hu.ext (ha _ _)) (by omega) (by omega)) ?_
      rintro _ W ⟨rfl, hW⟩
      refine Ret.mk ⟨(h1.tr (ha _ _)).tr hW, ?_⟩
      congr 1
      unfold cmpI
      repeat' split
      all_goals first | rfl | omega
    · ((try simp -dsimp [go_sem, hx0, hy0]); repeat (simp -dsimp (disch := omega) only [w64, wu64, dlt_t, dlt_f, dle_t, dle_f, deq_t, deq_f, beq_t, beq_f, bne_t, bne_f, nlt_t, nlt_f, nle_t, nle_f, neq_t, neq_f, nbeq_t, nbeq_f, nbne_t, nbne_f, it_t, it_f, dit_t, dit_f]; try simp -dsimp [go_sem, hx0, hy0]))
      refine Ret.mk ⟨h1.tr (ha _ _), ?_⟩
      unfold cmpI; rw [if_pos (by omega)]
  · by_cases hy0 : y < 0
    · ((try simp -dsimp [go_sem, hx0, hy0]); repeat (simp -dsimp (disch := omega) only [w64, wu64, dlt_t, dlt_f, dle_t, dle_f, deq_t, deq_f, beq_t, beq_f, bne_t, bne_f, nlt_t, nlt_f, nle_t, nle_f, neq_t, neq_f, nbeq_t, nbeq_f, nbne_t, nbne_f, it_t, it_f, dit_t, dit_f]; try simp -dsimp [go_sem, hx0, hy0]))
      refine Ret.mk ⟨h1.tr (ha _ _), ?_⟩
      unfold cmpI; rw [if_neg (by omega), if_pos (by omega)]
    · ((try simp -dsimp [go_sem, hx0, hy0]); repeat (simp -dsimp (disch := omega) only [w64, wu64, dlt_t, dlt_f, dle_t, dle_f, deq_t, deq_f, beq_t, beq_f, bne_t, bne_f, nlt_t, nlt_f, nle_t, nle_f, neq_t, neq_f, nbeq_t, nbeq_f, nbne_t, nbne_f, it_t, it_f, dit_t, dit_f]; try simp -dsimp [go_sem, hx0, hy0]))
      refine Cl_i n_integer_number_compare (c_compare (hu.ext (ha _ _)) (hv.ext (ha _ _)) (by omega) (by omega)) ?_
      rintro _ W ⟨rfl, hW⟩
      refine Ret.mk ⟨(h1.tr (ha _ _)).tr hW, ?_⟩
      rw [show (x.natAbs : Int) = x from by omega, show (y.natAbs : Int) = y from by omega]
end Go.Proofs.YtocilcjojdjfdaaGreatDoor
namespace Go.Proofs.YtocilcjojdjfdaaGreatDoor
open Go Go.Eng Go.Proofs Go.Num Go.RowKit
set_option maxRecDepth 100000
set_option linter.unusedVariables false
theorem div_fin {x y Q R : Int} (hy : y ≠ 0) (h : R + y.natAbs * sgn (decide (x < 0)) Q = x) (h0 : 0 ≤ R) (h1 : R < y.natAbs) : x / y = sgn (!decide (x < 0) == decide (y < 0)) Q ∧ x % y = R := by
  have hb : (0 : Int) < y.natAbs := by omega
  obtain ⟨e1, e2⟩ := (Int.ediv_emod_unique hb).2 ⟨h, h0, h1⟩
  by_cases hy0 : y < 0
  · have hyn : y = -(y.natAbs : Int) := by omega
    constructor
    · rw [hyn, Int.ediv_neg, e1, ← hyn]
      by_cases hx : x < 0 <;> simp [sgn, hx, hy0]
    · rw [hyn, Int.emod_neg, e2]
  · have hyn : y = (y.natAbs : Int) := by omega
    constructor
    · rw [hyn, e1, ← hyn]
      by_cases hx : x < 0 <;> simp [sgn, hx, hy0]
    · rw [hyn, e2]
theorem NumAt.zero_iff {w : World} {v : Value} {x : Int} (h : NumAt w v x) : ∃ a n c, v = .slice a n c ∧ (n = 0 ↔ x = 0) ∧ 0 ≤ x := by
  obtain ⟨xs, h1, h2, rfl⟩ := h
  obtain ⟨a, c, rfl⟩ := h1.slice
  refine ⟨_, _, _, rfl, ?_, num_nonneg h2.1⟩
  constructor
  · intro h
    rw [List.eq_nil_of_length_eq_zero h]; rfl
  · intro h
    refine Classical.byContradiction fun hc => ?_
    have := h2.pos (by intro h; subst h; simp at hc)
    omega
theorem c_one {w : World} : Calls Tryz.prog 44 #[] w (Ret fun r w' => NumAt w' r 1 ∧ Ext w w') := by
  apply e_integer_one
  unfold s_integer_one
  refine Bs_own sliN rfl (Nat.le_refl w.heap.size) ?_
  intro v W ho hg _
  exact Ret.mk ⟨⟨[1], ho.slAt, ⟨by simp [Dg], rfl⟩, rfl⟩, World.grownBy.ext hg⟩
theorem resI_small {z : Int} (h : z.natAbs < MaxI) : resI z = .tuple #[str (Lib.itoa z), .int .i64 0] := if_pos h
theorem c_both_sl {x y : Int} {w : World} (hx : x.natAbs < MaxI) (hy : y.natAbs < MaxI) :
    Calls Tryz.prog 38 #[str (Lib.itoa x), str (Lib.itoa y)] w (Ret fun r w' => Ext w w' ∧ ∃ bx bY a1 n1 c1 a2 n2 c2, r = .tuple #[.agg #[.bool bx, .slice a1 n1 c1], .agg #[.bool bY, .slice a2 n2 c2], .bool true] ∧ bx = decide (x < 0) ∧ bY = decide (y < 0) ∧ NumAt w' (.slice a1 n1 c1) x.natAbs ∧ NumAt w' (.slice a2 n2 c2) y.natAbs ∧ (n1 = 0 ↔ x = 0) ∧ (n2 = 0 ↔ y = 0)) := by
  refine (c_both_ok hx hy).mono ?_
  rintro _ w' ⟨_, rfl, h1, u, v, rfl, hu, hv⟩
  obtain ⟨a1, n1, cap1, rfl, hn1, _⟩ := hu.zero_iff
  obtain ⟨a2, n2, cap2, rfl, hn2, _⟩ := hv.zero_iff
  exact Ret.mk ⟨h1, _, _, a1, n1, cap1, a2, n2, cap2, rfl, rfl, rfl, hu, hv, by omega, by omega⟩
theorem c_over_sl {w : World} {u v : Value} {x y : Int} (hu : NumAt w u x) (hv : NumAt w v y) (hx : x < Mx) (hy0 : 0 < y) (hy : y * 10000 < Mx) :
    Calls Tryz.prog 42 #[u, v] w (Ret fun r w' => Ext w w' ∧ ∃ a1 n1 c1 a2 n2 c2, r = .tuple #[.slice a1 n1 c1, .slice a2 n2 c2] ∧ NumAt w' (.slice a1 n1 c1) (x / y) ∧ NumAt w' (.slice a2 n2 c2) (x % y) ∧ (n2 = 0 ↔ x % y = 0)) := by
  refine (c_over hu hv hx hy0 hy).mono ?_
  rintro _ w' ⟨_, rfl, h1, u, v, rfl, hu, hv⟩
  obtain ⟨a1, n1, cap1, rfl⟩ := hu.slice
  obtain ⟨a2, n2, cap2, rfl, hn2, _⟩ := hv.zero_iff
  exact Ret.mk ⟨h1, a1, n1, cap1, a2, n2, cap2, rfl, hu, hv, hn2⟩
theorem cl_text_small {w w1 : World} {z m : Int} {r : Value} (hr : SgnAt w z m r w1) (hm : m < Mx) (hz : z.natAbs < MaxI) (ht : Tab w) {pan : List PanicEntry → World → Prop} {K : Value → World → Prop} (hk : ∀ W, Ext w W → Ext w1 W → K (.tuple #[str (Lib.itoa z), .int .i64 0]) W) : Cl Tryz.prog 40 #[r] w1 pan K := by
  obtain ⟨h1, s, t, n, rfl, hn, hsz, hle⟩ := hr
  refine Cl_i n_integer_signed_text (c_text hn (by omega) (ht.ext h1)) ?_
  rintro _ W ⟨h2, rfl⟩
  rw [resI_eq z s n hsz, resI_small hz]
  exact hk W (h1.tr h2) h2
def DivR (w : World) (x y : Int) (r : Value) (w' : World) : Prop := Ext w w' ∧ r = .tuple #[str (Lib.itoa (x / y)), str (Lib.itoa (x % y)), .int .i64 0]
theorem c_Div {x y : Int} {w : World} (hx : x.natAbs < MaxI) (hy : y.natAbs < MaxI) (hy0 : y ≠ 0) (ht : Tab w) :
    Calls Tryz.prog 17 #[str (Lib.itoa x), str (Lib.itoa y)] w (Ret (DivR w x y)) := by
  apply e_integer_Div
  unfold s_integer_Div
  refine Cl_i n_integer_both (c_both_sl hx hy) ?_
  rintro _ w1 ⟨h1, bx, bY, a1, n1, cap1, a2, n2, cap2, rfl, hbx, hbY, hu, hv, hn1, hn2⟩
  have hM := MaxI_Mx
  have hp := MaxI_pos
  have gx := abs_lt hx
  have gy := abs_lt hy
  have hn2' : n2 ≠ 0 := by omega
  ((try simp -dsimp [go_sem, hn2']); repeat (simp -dsimp (disch := omega) only [w64, wu64, dlt_t, dlt_f, dle_t, dle_f, deq_t, deq_f, beq_t, beq_f, bne_t, bne_f, nlt_t, nlt_f, nle_t, nle_f, neq_t, neq_f, nbeq_t, nbeq_f, nbne_t, nbne_f, it_t, it_f, dit_t, dit_f]; try simp -dsimp [go_sem, hn2']))
  have e1 := sgn_natAbs x
  rw [← hbx] at e1
  have hgen : ∀ w2, (w1.alloc (Obj.cells #[.bool bx, .slice a1 n1 cap1] 50)).alloc (Obj.cells #[.bool bY, .slice a2 n2 cap2] 50) = w2 → Ext w1 w2 ∧ Blk w2 w1.heap.size 50 [.bool bx, .slice a1 n1 cap1] ∧ Blk w2 (w1.heap.size + 1) 50 [.bool bY, .slice a2 n2 cap2] := by
    intro w2 hw2
    refine ⟨by rw [← hw2]; exact ((Ext.refl w1).al _).al _, by rw [← hw2]; exact (Blk.al w1 [_, _] _).ext ((Ext.refl _).al _), ?_⟩
    rw [← hw2]; have := Blk.al (w1.alloc (Obj.cells #[.bool bx, .slice a1 n1 cap1] 50)) [.bool bY, .slice a2 n2 cap2] 50; simpa using this
  have hg := hgen _ rfl
  refine Cl_i n_integer_number_over (c_over_sl (hu.ext hg.1) (hv.ext hg.1) (by omega) (by omega) (by omega)) ?_
  rintro _ w3 ⟨h3, a4, n4, c4, a5, n5, c5, rfl, hq, hm, hn5⟩
  have b1 := hg.2.1.ext h3
  have b2 := hg.2.2.ext h3
  have h13 := hg.1.tr h3
  clear hgen hg h3
  ((try simp -dsimp [go_sem]); repeat (simp -dsimp (disch := omega) only [w64, wu64, dlt_t, dlt_f, dle_t, dle_f, deq_t, deq_f, beq_t, beq_f, bne_t, bne_f, nlt_t, nlt_f, nle_t, nle_f, neq_t, neq_f, nbeq_t, nbeq_f, nbne_t, nbne_f, it_t, it_f, dit_t, dit_f]; try simp -dsimp [go_sem]))
  have hmlt : (x.natAbs : Int) % y.natAbs < y.natAbs := Int.emod_lt_of_pos _ (by omega)
  have hm0 : 0 ≤ (x.natAbs : Int) % y.natAbs := Int.emod_nonneg _ (by omega)
  have hdm := Int.mul_ediv_add_emod (x.natAbs : Int) y.natAbs
  have hq0 : 0 ≤ (x.natAbs : Int) / y.natAbs := Int.ediv_nonneg (by omega) (by omega)
  have hqle : (x.natAbs : Int) / y.natAbs ≤ x.natAbs := Int.ediv_le_self _ (by omega)
  refine Jn2.mk fun K hK => ?_
  have hww : Ext w w3 := h1.tr h13
  have hK2 : ∀ W a6 n6 c6 a7 n7 c7 Q R, Ext w3 W → NumAt W (.slice a6 n6 c6) Q → NumAt W (.slice a7 n7 c7) R → Q ≤ x.natAbs → R < y.natAbs → R + y.natAbs * sgn bx Q = x → K (.slice a6 n6 c6) (.slice a7 n7 c7) W := by
    intro W a6 n6 c6 a7 n7 c7 Q R hW nq nr hQ hR hx'
    refine hK _ _ W ?_
    have h0 := nr.nonneg
    have hQ0 := nq.nonneg
    obtain ⟨f1, f2⟩ := div_fin hy0 (by rw [← hbx]; exact hx') h0 hR
    rw [← hbx, ← hbY] at f1
    have hz1 : (x / y).natAbs < MaxI := by
      rw [f1]; unfold sgn; split <;> omega
    have hz2 : (x % y).natAbs < MaxI := by rw [f2]; omega
    have c1 := b1.ext hW
    have c2 := b2.ext hW
    ((try simp -dsimp [go_sem, c1.cell (i := 0) rfl, c2.cell (i := 0) rfl]); repeat (simp -dsimp (disch := omega) only [w64, wu64, dlt_t, dlt_f, dle_t, dle_f, deq_t, deq_f, beq_t, beq_f, bne_t, bne_f, nlt_t, nlt_f, nle_t, nle_f, neq_t, neq_f, nbeq_t, nbeq_f, nbne_t, nbne_f, it_t, it_f, dit_t, dit_f]; try simp -dsimp [go_sem, c1.cell (i := 0) rfl, c2.cell (i := 0) rfl]))
    refine cl_text_small (w := w) (z := x / y) (m := x.natAbs) ⟨hww.tr hW, _, _, _, rfl, nq, f1.symm, hQ⟩ (by omega) hz1 ht fun W2 k2 k2' => ?_
    ((try simp -dsimp [go_sem]); repeat (simp -dsimp (disch := omega) only [w64, wu64, dlt_t, dlt_f, dle_t, dle_f, deq_t, deq_f, beq_t, beq_f, bne_t, bne_f, nlt_t, nlt_f, nle_t, nle_f, neq_t, neq_f, nbeq_t, nbeq_f, nbne_t, nbne_f, it_t, it_f, dit_t, dit_f]; try simp -dsimp [go_sem]))
    refine cl_text_small (w := w) (z := x % y) (m := y.natAbs) ⟨k2, _, _, _, rfl, nr.ext k2', (show sgn false R = x % y from f2.symm), by omega⟩ (by omega) hz2 ht fun W3 k3 _ => ?_
    ((try simp -dsimp [go_sem]); repeat (simp -dsimp (disch := omega) only [w64, wu64, dlt_t, dlt_f, dle_t, dle_f, deq_t, deq_f, beq_t, beq_f, bne_t, bne_f, nlt_t, nlt_f, nle_t, nle_f, neq_t, neq_f, nbeq_t, nbeq_f, nbne_t, nbne_f, it_t, it_f, dit_t, dit_f]; try simp -dsimp [go_sem]))
    exact Ret.mk ⟨k3, rfl⟩
  by_cases hneg : x < 0
  · have hbt : bx = true := by rw [hbx]; exact decide_eq_true hneg
    by_cases hr0 : (x.natAbs : Int) % y.natAbs = 0
    · have hn50 : n5 = 0 := hn5.2 hr0
      ((try simp -dsimp [go_sem, b1.cell (i := 0) rfl, hbt, hn50]); repeat (simp -dsimp (disch := omega) only [w64, wu64, dlt_t, dlt_f, dle_t, dle_f, deq_t, deq_f, beq_t, beq_f, bne_t, bne_f, nlt_t, nlt_f, nle_t, nle_f, neq_t, neq_f, nbeq_t, nbeq_f, nbne_t, nbne_f, it_t, it_f, dit_t, dit_f]; try simp -dsimp [go_sem, b1.cell (i := 0) rfl, hbt, hn50]))
      rw [← hn50]
      exact hK2 w3 _ _ _ _ _ _ _ _ (.refl _) hq hm hqle hmlt (by rw [hbt]; simp only [sgn, if_true]; rw [Int.mul_neg]; omega)
    · have hn50 : n5 ≠ 0 := fun h => hr0 (hn5.1 h)
      have hn51 : 0 < n5 := by omega
      have hd : Ext w3 w3.drew := Ext.dr (.refl _)
      ((try simp -dsimp [go_sem, b1.cell (i := 0) rfl, hbt, hn51, b2.cell (i := 1) rfl]); repeat (simp -dsimp (disch := omega) only [w64, wu64, dlt_t, dlt_f, dle_t, dle_f, deq_t, deq_f, beq_t, beq_f, bne_t, bne_f, nlt_t, nlt_f, nle_t, nle_f, neq_t, neq_f, nbeq_t, nbeq_f, nbne_t, nbne_f, it_t, it_f, dit_t, dit_f]; try simp -dsimp [go_sem, b1.cell (i := 0) rfl, hbt, hn51, b2.cell (i := 1) rfl]))
      refine Cl_i n_integer_one c_one ?_
      rintro r1 W1 ⟨g1, g2⟩
      have x1 := hd.tr g2
      ((try simp -dsimp [go_sem, (b2.ext x1).cell (i := 1) rfl]); repeat (simp -dsimp (disch := omega) only [w64, wu64, dlt_t, dlt_f, dle_t, dle_f, deq_t, deq_f, beq_t, beq_f, bne_t, bne_f, nlt_t, nlt_f, nle_t, nle_f, neq_t, neq_f, nbeq_t, nbeq_f, nbne_t, nbne_f, it_t, it_f, dit_t, dit_f]; try simp -dsimp [go_sem, (b2.ext x1).cell (i := 1) rfl]))
      refine Cl_i n_integer_number_plus (c_plus (hq.ext x1) g1 (by omega) (by omega)) ?_
      rintro r2 W2 ⟨g3, g4, _⟩
      have x2 := x1.tr g4
      ((try simp -dsimp [go_sem, (b2.ext x2).cell (i := 1) rfl]); repeat (simp -dsimp (disch := omega) only [w64, wu64, dlt_t, dlt_f, dle_t, dle_f, deq_t, deq_f, beq_t, beq_f, bne_t, bne_f, nlt_t, nlt_f, nle_t, nle_f, neq_t, neq_f, nbeq_t, nbeq_f, nbne_t, nbne_f, it_t, it_f, dit_t, dit_f]; try simp -dsimp [go_sem, (b2.ext x2).cell (i := 1) rfl]))
      have hv3 : NumAt w3 (.slice a2 n2 cap2) y.natAbs := hv.ext h13
      refine Cl_i n_integer_number_minus (c_minus (hv3.ext x2) (hm.ext x2) (by omega) (by omega)) ?_
      rintro r3 W3 ⟨g5, g6, _⟩
      have g3' := g3.ext g6
      obtain ⟨a6, n6, c6, hr2⟩ := g3'.slice
      obtain ⟨a7, n7, c7, hr3⟩ := g5.slice
      rw [hr2] at g3' ⊢
      rw [hr3] at g5 ⊢
      refine hK2 W3 _ _ _ _ _ _ _ _ (x2.tr g6) g3' g5 ?_ (by omega) ?_
      · have hy2 : 2 ≤ (y.natAbs : Int) := by
          refine Classical.byContradiction fun hc => ?_
          have : (y.natAbs : Int) = 1 := by omega
          rw [this] at hr0; simp at hr0
        have : 2 * ((x.natAbs : Int) / y.natAbs) ≤ y.natAbs * (x.natAbs / y.natAbs) := Int.mul_le_mul_of_nonneg_right hy2 hq0
        omega
      · rw [hbt]; simp only [sgn, if_true]; rw [Int.mul_neg, Int.mul_add]; omega
  · have hbt : bx = false := by rw [hbx]; exact decide_eq_false hneg
    ((try simp -dsimp [go_sem, b1.cell (i := 0) rfl, hbt]); repeat (simp -dsimp (disch := omega) only [w64, wu64, dlt_t, dlt_f, dle_t, dle_f, deq_t, deq_f, beq_t, beq_f, bne_t, bne_f, nlt_t, nlt_f, nle_t, nle_f, neq_t, neq_f, nbeq_t, nbeq_f, nbne_t, nbne_f, it_t, it_f, dit_t, dit_f]; try simp -dsimp [go_sem, b1.cell (i := 0) rfl, hbt]))
    exact hK2 w3 _ _ _ _ _ _ _ _ (.refl _) hq hm hqle hmlt (by rw [hbt]; simp only [sgn]; rw [if_neg (by decide)]; omega)
end Go.Proofs.YtocilcjojdjfdaaGreatDoor
namespace Go.Proofs.YtocilcjojdjfdaaGreatDoor
open Go Go.Eng Go.Proofs Go.Num Go.RowKit
set_option maxRecDepth 100000
set_option linter.unusedVariables false
theorem SlAt.unique {w : World} {v : Value} {xs ys : List Value} (h : SlAt w v xs) (k : SlAt w v ys) : xs = ys := by
  rcases h with ⟨rfl, rfl⟩ | ⟨b, o, cap, rfl, h2, h3⟩
  · rcases k with ⟨_, rfl⟩ | ⟨b, o, cap, h1, _⟩
    · rfl
    · simp at h1
  · rcases k with ⟨h1, _⟩ | ⟨b', o', cap', h1, k2, k3⟩
    · simp at h1
    · simp only [Value.slice.injEq, Option.some.injEq, Addr.mk.injEq, and_true] at h1
      obtain ⟨⟨rfl, rfl⟩, hl, _⟩ := h1
      apply List.ext_getElem?
      intro i
      by_cases hi : i < xs.length
      · have a1 := h3 i _ (List.getElem?_eq_getElem hi)
        have a2 := k3 i _ (List.getElem?_eq_getElem (by omega : i < ys.length))
        rw [a1] at a2
        rw [List.getElem?_eq_getElem hi, List.getElem?_eq_getElem (by omega : i < ys.length)]
        exact a2
      · rw [List.getElem?_eq_none (by omega), List.getElem?_eq_none (by omega)]
theorem NumAt.unique {w : World} {v : Value} {x y : Int} (h : NumAt w v x) (k : NumAt w v y) : x = y := by
  obtain ⟨xs, h1, _, rfl⟩ := h
  obtain ⟨ys, k1, _, rfl⟩ := k
  have := SlAt.unique h1 k1
  have : xs = ys := by
    have hi : Function.Injective iv := fun a b h => by simpa using h
    exact (List.map_inj_right (fun a b h => hi h)).1 this
  rw [this]
open Classical in
noncomputable def numV (w : World) (v : Value) : Int := if h : ∃ x, NumAt w v x then Classical.choose h else 0
theorem NumAt.numV {w : World} {v : Value} {x : Int} (h : NumAt w v x) : numV w v = x := by
  have hx : ∃ x, NumAt w v x := ⟨x, h⟩
  unfold Go.Proofs.YtocilcjojdjfdaaGreatDoor.numV
  rw [dif_pos hx]
  exact (Classical.choose_spec hx).unique h
theorem c_Gcd {x y : Int} {w : World} (hx : x.natAbs < MaxI) (hy : y.natAbs < MaxI) (ht : Tab w) :
    Calls Tryz.prog 20 #[str (Lib.itoa x), str (Lib.itoa y)] w (Ret fun r w' => Ext w w' ∧ r = resI (Int.gcd x y)) := by
  apply e_integer_Gcd
  unfold s_integer_Gcd
  refine Cl_i n_integer_both (c_both_sl hx hy) ?_
  rintro _ w1 ⟨h1, bx, bY, a1, n1, cap1, a2, n2, cap2, rfl, hbx, hbY, hu, hv, hn1, hn2⟩
  have hM := MaxI_Mx
  have hp := MaxI_pos
  have gx := abs_lt hx
  have gy := abs_lt hy
  ((try simp -dsimp [go_sem]); repeat (simp -dsimp (disch := omega) only [w64, wu64, dlt_t, dlt_f, dle_t, dle_f, deq_t, deq_f, beq_t, beq_f, bne_t, bne_f, nlt_t, nlt_f, nle_t, nle_f, neq_t, neq_f, nbeq_t, nbeq_f, nbne_t, nbne_f, it_t, it_f, dit_t, dit_f]; try simp -dsimp [go_sem]))
  have h12 : ∀ o1 o2, Ext w1 ((w1.alloc o1).alloc o2).drew := fun o1 o2 => Ext.dr (((Ext.refl w1).al _).al _)
  have hI : ∃ I : Value → Value → World → Prop, I = fun k l W => ∃ a b : Nat, NumAt W k a ∧ NumAt W l b ∧ Nat.gcd a b = Int.gcd x y ∧ a < MaxI ∧ b < MaxI ∧ Ext w W := ⟨_, rfl⟩
  obtain ⟨I, hI⟩ := hI
  refine Lp2.mk I (fun _ l W => (numV W l).toNat) (by rw [hI]; exact ⟨x.natAbs, y.natAbs, hu.ext (h12 _ _), hv.ext (h12 _ _), rfl, hx, hy, h1.tr (h12 _ _)⟩) ?_
  intro k l W hh
  rw [hI] at hh
  obtain ⟨a, b, ka, lb, hg, ha, hb, hW⟩ := hh
  have hnum := lb.numV
  obtain ⟨a3, n3, c3, rfl⟩ := ka.slice
  obtain ⟨a4, n4, c4, rfl, hn4, _⟩ := lb.zero_iff
  by_cases hb0 : b = 0
  · have hn40 : n4 = 0 := by omega
    ((try simp -dsimp [go_sem, hn40]); repeat (simp -dsimp (disch := omega) only [w64, wu64, dlt_t, dlt_f, dle_t, dle_f, deq_t, deq_f, beq_t, beq_f, bne_t, bne_f, nlt_t, nlt_f, nle_t, nle_f, neq_t, neq_f, nbeq_t, nbeq_f, nbne_t, nbne_f, it_t, it_f, dit_t, dit_f]; try simp -dsimp [go_sem, hn40]))
    refine cl_text (w := w) (z := Int.gcd x y) (m := a) ⟨hW, _, _, _, rfl, ka, ?_, Int.le_refl _⟩ (by omega) ht fun r1 r2 W2 hab k2 => ?_
    · show (a : Int) = _
      rw [← hg, hb0, Nat.gcd_zero_right]
    · ((try simp -dsimp [go_sem]); repeat (simp -dsimp (disch := omega) only [w64, wu64, dlt_t, dlt_f, dle_t, dle_f, deq_t, deq_f, beq_t, beq_f, bne_t, bne_f, nlt_t, nlt_f, nle_t, nle_f, neq_t, neq_f, nbeq_t, nbeq_f, nbne_t, nbne_f, it_t, it_f, dit_t, dit_f]; try simp -dsimp [go_sem]))
      exact Ret.mk ⟨k2, hab.symm⟩
  · have hn40 : 0 < n4 := by omega
    ((try simp -dsimp [go_sem]); repeat (simp -dsimp (disch := omega) only [w64, wu64, dlt_t, dlt_f, dle_t, dle_f, deq_t, deq_f, beq_t, beq_f, bne_t, bne_f, nlt_t, nlt_f, nle_t, nle_f, neq_t, neq_f, nbeq_t, nbeq_f, nbne_t, nbne_f, it_t, it_f, dit_t, dit_f]; try simp -dsimp [go_sem]))
    refine Cl_i n_integer_number_over (c_over_sl ka lb (by omega) (by omega) (by omega)) ?_
    rintro _ W2 ⟨k2, a5, n5, c5, a6, n6, c6, rfl, hq, hm, hn6⟩
    have hcast : (a : Int) % b = ((a % b : Nat) : Int) := by simp
    rw [hcast] at hm
    have hlt : a % b < b := Nat.mod_lt _ (by omega)
    have hnum2 := hm.numV
    ((try simp -dsimp [go_sem]); repeat (simp -dsimp (disch := omega) only [w64, wu64, dlt_t, dlt_f, dle_t, dle_f, deq_t, deq_f, beq_t, beq_f, bne_t, bne_f, nlt_t, nlt_f, nle_t, nle_f, neq_t, neq_f, nbeq_t, nbeq_f, nbne_t, nbne_f, it_t, it_f, dit_t, dit_f]; try simp -dsimp [go_sem]))
    rw [hnum, hnum2]
    refine ⟨?_, by omega⟩
    rw [hI]
    refine ⟨b, a % b, lb.ext k2, hm, ?_, hb, by omega, hW.tr k2⟩
    rw [← hg, Nat.gcd_comm a b, Nat.gcd_rec b a, Nat.gcd_comm]
end Go.Proofs.YtocilcjojdjfdaaGreatDoor
namespace Go.Proofs.YtocilcjojdjfdaaGreatDoor
open Go Go.Eng Go.Proofs Go.Num Go.RowKit
set_option maxRecDepth 100000
set_option linter.unusedVariables false
theorem newton {x r q n : Int} (hr : 1 ≤ r) (hx : 1 ≤ x) (hq : q = x / r) (hn : n = (r + q) / 2) (h : x < (r + 1) * (r + 1)) :
    (r ≤ n → r * r ≤ x) ∧ (n < r → 1 ≤ n ∧ x < (n + 1) * (n + 1)) := by
  have e1 := Int.mul_ediv_add_emod x r
  have e2 := Int.emod_nonneg x (show r ≠ 0 by omega)
  have e3 := Int.emod_lt_of_pos x (show 0 < r by omega)
  rw [← hq] at e1
  have hq0 : 0 ≤ q := by rw [hq]; exact Int.ediv_nonneg (by omega) (by omega)
  constructor
  · intro hle
    have : r ≤ q := by omega
    have h2 : r * r ≤ r * q := Int.mul_le_mul_of_nonneg_left this (by omega)
    omega
  · intro hlt
    refine ⟨?_, ?_⟩
    · by_cases h1 : r = 1
      · subst h1; simp at hq; omega
      · omega
    · have h4 : 4 * (r * (q + 1)) ≤ (r + (q + 1)) * (r + (q + 1)) := by
        have : 0 ≤ (r - (q + 1)) * (r - (q + 1)) := by
          rcases Int.le_total 0 (r - (q + 1)) with h | h
          · exact Int.mul_nonneg h h
          · exact Int.mul_nonneg_of_nonpos_of_nonpos h h
        have e : (r - (q + 1)) * (r - (q + 1)) = (r + (q + 1)) * (r + (q + 1)) - 4 * (r * (q + 1)) := by grind
        omega
      have h5 : (r + (q + 1)) * (r + (q + 1)) ≤ (2 * (n + 1)) * (2 * (n + 1)) := Int.mul_le_mul (by omega) (by omega) (by omega) (by omega)
      have h6 : (2 * (n + 1)) * (2 * (n + 1)) = 4 * ((n + 1) * (n + 1)) := by grind
      have h7 : r * (q + 1) = r * q + r := by grind
      omega
theorem num_zeros (k : Nat) : num (List.replicate k 0) = 0 := by
  induction k with
  | zero => rfl
  | succ k ih => simp [List.replicate_succ, num, ih]
theorem itoa0 : Lib.itoa 0 = [48] := by unfold Lib.itoa; rw [if_neg (by decide)]; exact dec_lt (by decide)
def RootR (w : World) (x : Int) (r : Value) (w' : World) : Prop := Ext w w' ∧ ∃ s : Int, 0 ≤ s ∧ s * s ≤ x ∧ x < (s + 1) * (s + 1) ∧ r = .tuple #[str (Lib.itoa s), .int .i64 0]
theorem c_Root {x : Int} {w : World} (hx : x.natAbs < MaxI) (hx0 : 0 ≤ x) (ht : Tab w) :
    Calls Tryz.prog 21 #[str (Lib.itoa x)] w (Ret (RootR w x)) := by
  apply e_integer_Root
  unfold s_integer_Root
  have hp := MaxI_pos
  have hM := MaxI_Mx
  have hb := c_both_sl (w := w) hx (y := 0) (by simp; omega)
  rw [itoa0] at hb
  refine Cl_i n_integer_both hb ?_
  rintro _ w1 ⟨h1, bx, bY, a1, n1, cap1, a2, n2, cap2, rfl, hbx, hbY, hu, hv, hn1, hn2⟩
  have hbf : bx = false := by rw [hbx]; exact decide_eq_false (by omega)
  have gx := abs_lt hx
  refine Exists.elim (hu.get (by omega)) fun xs hxs => ?_
  have k1 := hxs.1
  have k2 := hxs.2.1
  have k3 := hxs.2.2.1
  have hlen : n1 = xs.length := by
    obtain ⟨a, c, h⟩ := k1.slice
    simp at h; exact h.2.1
  have hgen : ∀ w2, (w1.alloc (Obj.cells #[.bool bx, .slice a1 n1 cap1] 50)).alloc (Obj.cells #[.bool bY, .slice a2 n2 cap2] 50) = w2 → Ext w1 w2 ∧ Blk w2 w1.heap.size 50 [.bool bx, .slice a1 n1 cap1] := by
    intro w2 hw2
    exact ⟨by rw [← hw2]; exact ((Ext.refl w1).al _).al _, by rw [← hw2]; exact (Blk.al w1 [_, _] _).ext ((Ext.refl _).al _)⟩
  have hg := hgen _ rfl
  have hn1000 : n1 ≤ 1000 := by rw [hlen]; exact hxs.2.2.2
  refine Exists.elim (⟨_, rfl⟩ : ∃ kk : Nat, kk = (n1 + 1) / 2) fun kk hkk => ?_
  have htd : ((n1 : Int) + 1).tdiv 2 = (kk : Int) := by rw [Int.tdiv_eq_ediv_of_nonneg (by omega)]; omega
  ((try simp -dsimp [go_sem, hbf, htd]); repeat (simp -dsimp (disch := omega) only [w64, wu64, dlt_t, dlt_f, dle_t, dle_f, deq_t, deq_f, beq_t, beq_f, bne_t, bne_f, nlt_t, nlt_f, nle_t, nle_f, neq_t, neq_f, nbeq_t, nbeq_f, nbne_t, nbne_f, it_t, it_f, dit_t, dit_f]; try simp -dsimp [go_sem, hbf, htd]))
  rw [hbf] at hg
  have hxle : x < 10000 ^ kk * 10000 ^ kk := by
    have e1 := num_lt k2.1
    rw [k3] at e1
    have e2 := pow_mono (a := xs.length) (b := kk + kk) (by omega)
    rw [Int.pow_add] at e2
    omega
  have hkM : (10000 : Int) ^ kk ≤ 10000 * MaxI := by
    by_cases h0 : xs.length = 0
    · rw [show kk = 0 from by omega]; simp; omega
    · have e1 := k2.ge (by intro h; subst h; simp at h0)
      rw [k3] at e1
      have e2 := pow_mono (a := kk) (b := xs.length - 1 + 1) (by omega)
      rw [Int.pow_succ] at e2
      omega
  have hk1 : (1 : Int) ≤ 10000 ^ kk := by
    have : (0 : Int) < 10000 ^ kk := Int.pow_pos (by decide)
    omega
  refine Ms_full sliN (by decide) (n := kk) rfl (by omega) (Nat.le_refl _) ?_
  intro w3 o3 g3
  have x3 := World.grownBy.ext g3
  refine ap_one sliN (by decide) o3 rfl rfl (by simp; omega) x3.size fun v4 w4 o4 b4 g4 => ?_
  have x4 := x3.trans b4
  have hb4 := (hg.2.ext x4)
  have h14 : Ext w1 w4 := hg.1.tr x4
  have nR : NumAt w4 v4 (10000 ^ kk) := by
    have hmap : List.replicate kk (Value.int .i64 0) ++ [Value.int .i64 1] = (List.replicate kk (0 : Int) ++ [1]).map iv := by simp
    rw [hmap] at o4
    refine ⟨List.replicate kk (0 : Int) ++ [1], o4.slAt, ⟨?_, trimL_snoc (by decide) _⟩, ?_⟩
    · intro d hd
      rcases List.mem_append.1 hd with h | h
      · rw [List.mem_replicate] at h; omega
      · simp at h; omega
    · rw [num_append, num_zeros]; simp [num]
  have hI : ∃ I : Value → World → Prop, I = fun r W => ∃ R : Int, NumAt W r R ∧ 1 ≤ R ∧ x < (R + 1) * (R + 1) ∧ R ≤ 10000 * MaxI ∧ Ext w4 W := ⟨_, rfl⟩
  refine Exists.elim hI fun I hI => ?_
  refine Lp1.mk I (fun r W => (numV W r).toNat) (by
    rw [hI]; refine ⟨_, nR, hk1, ?_, hkM, .refl _⟩
    have : (10000 : Int) ^ kk * 10000 ^ kk ≤ (10000 ^ kk + 1) * (10000 ^ kk + 1) := Int.mul_le_mul (by omega) (by omega) (by omega) (by omega)
    omega) ?_
  intro r W hh
  rw [hI] at hh
  obtain ⟨R, nr, hR1, hR2, hR3, hW⟩ := hh
  have hnum := nr.numV
  have hbW := hb4.ext hW
  have huW : NumAt W (.slice a1 n1 cap1) x.natAbs := (hu.ext h14).ext hW
  by_cases hz : x = 0
  · have hn10 : n1 = 0 := hn1.2 hz
    ((try simp -dsimp [go_sem, hbW.cell (i := 1) rfl, hn10]); repeat (simp -dsimp (disch := omega) only [w64, wu64, dlt_t, dlt_f, dle_t, dle_f, deq_t, deq_f, beq_t, beq_f, bne_t, bne_f, nlt_t, nlt_f, nle_t, nle_f, neq_t, neq_f, nbeq_t, nbeq_f, nbne_t, nbne_f, it_t, it_f, dit_t, dit_f]; try simp -dsimp [go_sem, hbW.cell (i := 1) rfl, hn10]))
    exact Ret.mk ⟨(h1.tr h14).tr hW, 0, by decide, by omega, by omega, by rw [itoa0]⟩
  · have hn10 : 0 < n1 := by have := mt hn1.1 hz; omega
    ((try simp -dsimp [go_sem, hbW.cell (i := 1) rfl]); repeat (simp -dsimp (disch := omega) only [w64, wu64, dlt_t, dlt_f, dle_t, dle_f, deq_t, deq_f, beq_t, beq_f, bne_t, bne_f, nlt_t, nlt_f, nle_t, nle_f, neq_t, neq_f, nbeq_t, nbeq_f, nbne_t, nbne_f, it_t, it_f, dit_t, dit_f]; try simp -dsimp [go_sem, hbW.cell (i := 1) rfl]))
    refine Cl_i n_integer_number_over (c_over_sl huW nr (by omega) (by omega) (by omega)) ?_
    rintro _ W2 ⟨y2, a5, n5, c5, a6, n6, c6, rfl, hq, _, _⟩
    ((try simp -dsimp [go_sem]); repeat (simp -dsimp (disch := omega) only [w64, wu64, dlt_t, dlt_f, dle_t, dle_f, deq_t, deq_f, beq_t, beq_f, bne_t, bne_f, nlt_t, nlt_f, nle_t, nle_f, neq_t, neq_f, nbeq_t, nbeq_f, nbne_t, nbne_f, it_t, it_f, dit_t, dit_f]; try simp -dsimp [go_sem]))
    have hxx : (x.natAbs : Int) = x := by omega
    rw [hxx] at hq
    have hq0 : 0 ≤ x / R := Int.ediv_nonneg (by omega) (by omega)
    have hqle : x / R ≤ x := Int.ediv_le_self _ (by omega)
    refine Cl_i n_integer_number_plus (c_plus (nr.ext y2) hq (by omega) (by omega)) ?_
    rintro r3 W3 ⟨n3', y3, _⟩
    refine Bs_own sliN rfl (Nat.le_refl W3.heap.size) ?_
    intro v5 W4 o5 g5 _
    have y4 := World.grownBy.ext g5
    have n2 : NumAt W4 v5 2 := ⟨[2], o5.slAt, ⟨by simp [Dg], rfl⟩, rfl⟩
    refine Cl_i n_integer_number_over (c_over_sl (n3'.ext y4) n2 (by omega) (by decide) (by omega)) ?_
    rintro _ W5 ⟨y5, a7, n7, c7, a8, n8, c8, rfl, hn, _, _⟩
    ((try simp -dsimp [go_sem]); repeat (simp -dsimp (disch := omega) only [w64, wu64, dlt_t, dlt_f, dle_t, dle_f, deq_t, deq_f, beq_t, beq_f, bne_t, bne_f, nlt_t, nlt_f, nle_t, nle_f, neq_t, neq_f, nbeq_t, nbeq_f, nbne_t, nbne_f, it_t, it_f, dit_t, dit_f]; try simp -dsimp [go_sem]))
    have y25 : Ext W W5 := ((y2.tr y3).tr y4).tr y5
    refine Cl_i n_integer_number_compare (c_compare hn (nr.ext y25) (by omega) (by omega)) ?_
    rintro _ W6 ⟨rfl, y6⟩
    have hnw := newton hR1 (by omega) rfl rfl hR2
    have nr6 := (nr.ext y25).ext y6
    obtain ⟨a9, n9, c9, rfl⟩ := nr.slice
    by_cases hge : R ≤ (R + x / R) / 2
    · have hc : 0 ≤ cmpI ((R + x / R) / 2) R := by unfold cmpI; split <;> (try split) <;> omega
      ((try simp -dsimp [go_sem, hc]); repeat (simp -dsimp (disch := omega) only [w64, wu64, dlt_t, dlt_f, dle_t, dle_f, deq_t, deq_f, beq_t, beq_f, bne_t, bne_f, nlt_t, nlt_f, nle_t, nle_f, neq_t, neq_f, nbeq_t, nbeq_f, nbne_t, nbne_f, it_t, it_f, dit_t, dit_f]; try simp -dsimp [go_sem, hc]))
      have hsq := hnw.1 hge
      have hRx : R ≤ x := by
        have : R * 1 ≤ R * R := Int.mul_le_mul_of_nonneg_left hR1 (by omega)
        omega
      refine cl_text_small (w := w) (z := R) (m := R) ⟨((h1.tr h14).tr hW).tr (y25.tr y6), false, _, R, rfl, nr6, rfl, Int.le_refl _⟩ (by omega) (by omega) ht fun W7 k7 _ => ?_
      ((try simp -dsimp [go_sem]); repeat (simp -dsimp (disch := omega) only [w64, wu64, dlt_t, dlt_f, dle_t, dle_f, deq_t, deq_f, beq_t, beq_f, bne_t, bne_f, nlt_t, nlt_f, nle_t, nle_f, neq_t, neq_f, nbeq_t, nbeq_f, nbne_t, nbne_f, it_t, it_f, dit_t, dit_f]; try simp -dsimp [go_sem]))
      exact Ret.mk ⟨k7, R, by omega, hsq, hR2, rfl⟩
    · have hc : cmpI ((R + x / R) / 2) R < 0 := by unfold cmpI; rw [if_pos (by omega)]; decide
      have hn6 := hn.ext y6
      have hnum6 := hn6.numV
      obtain ⟨p1, p2⟩ := hnw.2 (by omega)
      ((try simp -dsimp [go_sem, hc]); repeat (simp -dsimp (disch := omega) only [w64, wu64, dlt_t, dlt_f, dle_t, dle_f, deq_t, deq_f, beq_t, beq_f, bne_t, bne_f, nlt_t, nlt_f, nle_t, nle_f, neq_t, neq_f, nbeq_t, nbeq_f, nbne_t, nbne_f, it_t, it_f, dit_t, dit_f]; try simp -dsimp [go_sem, hc]))
      rw [hI]
      refine ⟨⟨_, hn6, p1, p2, by omega, (hW.tr y25).tr y6⟩, ?_⟩
      rw [hnum6, hnum]; omega
end Go.Proofs.YtocilcjojdjfdaaGreatDoor
namespace Go.Proofs.YtocilcjojdjfdaaGreatDoor
open Go Go.Eng Go.Proofs Go.Num Go.RowKit
set_option maxRecDepth 100000
set_option linter.unusedVariables false
section
variable {s t : List UInt8} {w : World} (hs : s.length ≤ 1000000) (ht : t.length ≤ 1000000) (h : (validB s && validB t) = false)
include hs ht h
theorem c_Add_bad : Calls Tryz.prog 14 #[str s, str t] w (Ret fun r w' => Ext w w' ∧ r = .tuple #[str [], .int .i64 30]) := by
  apply e_integer_Add
  unfold s_integer_Add
  refine Cl_i n_integer_both (c_both_bad hs ht h) ?_
  rintro _ w1 ⟨h1, rfl⟩
  ((try simp -dsimp [go_sem]); repeat (simp -dsimp (disch := omega) only [w64, wu64, dlt_t, dlt_f, dle_t, dle_f, deq_t, deq_f, beq_t, beq_f, bne_t, bne_f, nlt_t, nlt_f, nle_t, nle_f, neq_t, neq_f, nbeq_t, nbeq_f, nbne_t, nbne_f, it_t, it_f, dit_t, dit_f]; try simp -dsimp [go_sem]))
  exact Ret.mk ⟨(h1.al _).al _, rfl⟩
theorem c_Sub_bad : Calls Tryz.prog 16 #[str s, str t] w (Ret fun r w' => Ext w w' ∧ r = .tuple #[str [], .int .i64 30]) := by
  apply e_integer_Sub
  unfold s_integer_Sub
  refine Cl_i n_integer_both (c_both_bad hs ht h) ?_
  rintro _ w1 ⟨h1, rfl⟩
  ((try simp -dsimp [go_sem]); repeat (simp -dsimp (disch := omega) only [w64, wu64, dlt_t, dlt_f, dle_t, dle_f, deq_t, deq_f, beq_t, beq_f, bne_t, bne_f, nlt_t, nlt_f, nle_t, nle_f, neq_t, neq_f, nbeq_t, nbeq_f, nbne_t, nbne_f, it_t, it_f, dit_t, dit_f]; try simp -dsimp [go_sem]))
  exact Ret.mk ⟨(h1.al _).al _, rfl⟩
theorem c_Mul_bad : Calls Tryz.prog 15 #[str s, str t] w (Ret fun r w' => Ext w w' ∧ r = .tuple #[str [], .int .i64 30]) := by
  apply e_integer_Mul
  unfold s_integer_Mul
  refine Cl_i n_integer_both (c_both_bad hs ht h) ?_
  rintro _ w1 ⟨h1, rfl⟩
  ((try simp -dsimp [go_sem]); repeat (simp -dsimp (disch := omega) only [w64, wu64, dlt_t, dlt_f, dle_t, dle_f, deq_t, deq_f, beq_t, beq_f, bne_t, bne_f, nlt_t, nlt_f, nle_t, nle_f, neq_t, neq_f, nbeq_t, nbeq_f, nbne_t, nbne_f, it_t, it_f, dit_t, dit_f]; try simp -dsimp [go_sem]))
  exact Ret.mk ⟨(h1.al _).al _, rfl⟩
theorem c_Gcd_bad : Calls Tryz.prog 20 #[str s, str t] w (Ret fun r w' => Ext w w' ∧ r = .tuple #[str [], .int .i64 30]) := by
  apply e_integer_Gcd
  unfold s_integer_Gcd
  refine Cl_i n_integer_both (c_both_bad hs ht h) ?_
  rintro _ w1 ⟨h1, rfl⟩
  ((try simp -dsimp [go_sem]); repeat (simp -dsimp (disch := omega) only [w64, wu64, dlt_t, dlt_f, dle_t, dle_f, deq_t, deq_f, beq_t, beq_f, bne_t, bne_f, nlt_t, nlt_f, nle_t, nle_f, neq_t, neq_f, nbeq_t, nbeq_f, nbne_t, nbne_f, it_t, it_f, dit_t, dit_f]; try simp -dsimp [go_sem]))
  exact Ret.mk ⟨(h1.al _).al _, rfl⟩
theorem c_Div_bad : Calls Tryz.prog 17 #[str s, str t] w (Ret fun r w' => Ext w w' ∧ r = .tuple #[str [], str [], .int .i64 30]) := by
  apply e_integer_Div
  unfold s_integer_Div
  refine Cl_i n_integer_both (c_both_bad hs ht h) ?_
  rintro _ w1 ⟨h1, rfl⟩
  ((try simp -dsimp [go_sem]); repeat (simp -dsimp (disch := omega) only [w64, wu64, dlt_t, dlt_f, dle_t, dle_f, deq_t, deq_f, beq_t, beq_f, bne_t, bne_f, nlt_t, nlt_f, nle_t, nle_f, neq_t, neq_f, nbeq_t, nbeq_f, nbne_t, nbne_f, it_t, it_f, dit_t, dit_f]; try simp -dsimp [go_sem]))
  exact Ret.mk ⟨(h1.al _).al _, rfl⟩
theorem c_Compare_bad : Calls Tryz.prog 18 #[str s, str t] w (Ret fun r w' => Ext w w' ∧ r = .int .i64 0) := by
  apply e_integer_Compare
  unfold s_integer_Compare
  refine Cl_i n_integer_both (c_both_bad hs ht h) ?_
  rintro _ w1 ⟨h1, rfl⟩
  ((try simp -dsimp [go_sem]); repeat (simp -dsimp (disch := omega) only [w64, wu64, dlt_t, dlt_f, dle_t, dle_f, deq_t, deq_f, beq_t, beq_f, bne_t, bne_f, nlt_t, nlt_f, nle_t, nle_f, neq_t, neq_f, nbeq_t, nbeq_f, nbne_t, nbne_f, it_t, it_f, dit_t, dit_f]; try simp -dsimp [go_sem]))
  exact Ret.mk ⟨(h1.al _).al _, rfl⟩
end
theorem c_Root_bad {s : List UInt8} {w : World} (hs : s.length ≤ 1000000) (h : validB s = false) : Calls Tryz.prog 21 #[str s] w (Ret fun r w' => Ext w w' ∧ r = .tuple #[str [], .int .i64 30]) := by
  apply e_integer_Root
  unfold s_integer_Root
  refine Cl_i n_integer_both (c_both_bad (t := [48]) hs (by decide) (by rw [h]; rfl)) ?_
  rintro _ w1 ⟨h1, rfl⟩
  ((try simp -dsimp [go_sem]); repeat (simp -dsimp (disch := omega) only [w64, wu64, dlt_t, dlt_f, dle_t, dle_f, deq_t, deq_f, beq_t, beq_f, bne_t, bne_f, nlt_t, nlt_f, nle_t, nle_f, neq_t, neq_f, nbeq_t, nbeq_f, nbne_t, nbne_f, it_t, it_f, dit_t, dit_f]; try simp -dsimp [go_sem]))
  exact Ret.mk ⟨(h1.al _).al _, rfl⟩
theorem c_Root_neg {x : Int} {w : World} (hx : x.natAbs < MaxI) (hx0 : x < 0) : Calls Tryz.prog 21 #[str (Lib.itoa x)] w (Ret fun r w' => Ext w w' ∧ r = .tuple #[str [], .int .i64 30]) := by
  apply e_integer_Root
  unfold s_integer_Root
  have hp := MaxI_pos
  have hb := c_both_sl (w := w) hx (y := 0) (by simp; omega)
  rw [itoa0] at hb
  refine Cl_i n_integer_both hb ?_
  rintro _ w1 ⟨h1, bx, bY, a1, n1, cap1, a2, n2, cap2, rfl, hbx, hbY, hu, hv, hn1, hn2⟩
  have hbt : bx = true := by rw [hbx]; exact decide_eq_true hx0
  ((try simp -dsimp [go_sem, hbt]); repeat (simp -dsimp (disch := omega) only [w64, wu64, dlt_t, dlt_f, dle_t, dle_f, deq_t, deq_f, beq_t, beq_f, bne_t, bne_f, nlt_t, nlt_f, nle_t, nle_f, neq_t, neq_f, nbeq_t, nbeq_f, nbne_t, nbne_f, it_t, it_f, dit_t, dit_f]; try simp -dsimp [go_sem, hbt]))
  exact Ret.mk ⟨(h1.al _).al _, rfl⟩
theorem c_Div_zero {x : Int} {w : World} (hx : x.natAbs < MaxI) : Calls Tryz.prog 17 #[str (Lib.itoa x), str (Lib.itoa 0)] w (Ret fun r w' => Ext w w' ∧ r = .tuple #[str [], str [], .int .i64 30]) := by
  apply e_integer_Div
  unfold s_integer_Div
  have hp := MaxI_pos
  refine Cl_i n_integer_both (c_both_sl (w := w) hx (y := 0) (by simp; omega)) ?_
  rintro _ w1 ⟨h1, bx, bY, a1, n1, cap1, a2, n2, cap2, rfl, hbx, hbY, hu, hv, hn1, hn2⟩
  have hn20 : n2 = 0 := hn2.2 rfl
  ((try simp -dsimp [go_sem, hn20]); repeat (simp -dsimp (disch := omega) only [w64, wu64, dlt_t, dlt_f, dle_t, dle_f, deq_t, deq_f, beq_t, beq_f, bne_t, bne_f, nlt_t, nlt_f, nle_t, nle_f, neq_t, neq_f, nbeq_t, nbeq_f, nbne_t, nbne_f, it_t, it_f, dit_t, dit_f]; try simp -dsimp [go_sem, hn20]))
  exact Ret.mk ⟨(h1.al _).al _, rfl⟩
end Go.Proofs.YtocilcjojdjfdaaGreatDoor
