/-
  Contracts and plain lemmas. By an AI agent.
-/
import Derived.Test.YtjgjeccfhmlcnaaGreatDoorStrX
import Derived.Test.YtjgjeccfhmlcnaaGreatDoorPlain
import Derived.Test.YtjgjeccfhmlcnaaGreatDoorEng
import Derived.Test.YtjgjeccfhmlcnaaGreatDoorNum
import Derived.Laws.BytesArg
set_option linter.unusedSimpArgs false
set_option linter.unusedVariables false
set_option linter.unusedSectionVars false
namespace Go.Proofs.YtjgjeccfhmlcnaaGreatDoor
open Go Go.Eng Go.Proofs Go.Num Go.RowKit
set_option maxRecDepth 100000
def sgn (b : Bool) (x : Int) : Int := if b then -x else x
def SgnAt (w : World) (z m : Int) (r : Value) (w' : World) : Prop := Ext w w' ∧ ∃ s t n, r = .agg #[.bool s, t] ∧ NumAt w' t n ∧ sgn s n = z ∧ n ≤ m
theorem c_splus {w : World} {a b : Bool} {u v : Value} {x y : Int} (hu : NumAt w u x) (hv : NumAt w v y) (hx : x < Mx) (hy : y < Mx) :
 Calls Tryz.prog 76 #[.agg #[.bool a, u], .agg #[.bool b, v]] w (Ret (SgnAt w (sgn a x + sgn b y) (x + y))) := by
 have hx0 := hu.nonneg
 have hy0 := hv.nonneg
 obtain ⟨a1, n1, cap1, rfl⟩ := hu.slice
 obtain ⟨a2, n2, cap2, rfl⟩ := hv.slice
 apply e_integer_signed_plus
 unfold s_integer_signed_plus
 obtain ⟨w1, hw1⟩ : ∃ w1, ((w.alloc (Obj.cells #[.bool a, .slice a1 n1 cap1] 119)).alloc (Obj.cells #[.bool b, .slice a2 n2 cap2] 119)).alloc (Obj.cells #[.bool false, .slice none 0 0] 119) = w1 := ⟨_, rfl⟩
 have he : Ext w w1 := by rw [← hw1]; exact (((Ext.refl w).al _).al _).al _
 have hs1 : w1.heap.size = w.heap.size + 3 := by rw [← hw1]; simp
 have b0 : Blk w1 w.heap.size 119 [.bool a, .slice a1 n1 cap1] := by rw [← hw1]; exact ((Blk.al w [_, _] _).ext ((Ext.refl _).al _)).ext ((Ext.refl _).al _)
 have b1 : Blk w1 (w.heap.size + 1) 119 [.bool b, .slice a2 n2 cap2] := by
  rw [← hw1]; have := (Blk.al (w.alloc (Obj.cells #[.bool a, .slice a1 n1 cap1] 119)) [.bool b, .slice a2 n2 cap2] 119).ext ((Ext.refl _).al (Obj.cells #[.bool false, .slice none 0 0] 119)); simpa using this
 have b2 : Blk w1 (w.heap.size + 1 + 1) 119 [.bool false, .slice none 0 0] := by
  rw [← hw1]; have := Blk.al ((w.alloc (Obj.cells #[.bool a, .slice a1 n1 cap1] 119)).alloc (Obj.cells #[.bool b, .slice a2 n2 cap2] 119)) [.bool false, .slice none 0 0] 119; simpa using this
 have d1 : ∀ W, Ext W W.drew := fun W => Ext.dr (.refl W)
 have fin : ∀ W, Ext w1 W → ∀ (s : Bool) a3 n3 c3 n, NumAt W (.slice a3 n3 c3) n → sgn s n = sgn a x + sgn b y → n ≤ x + y →
  Ret (SgnAt w (sgn a x + sgn b y) (x + y)) (.returned (.agg #[.bool s, .slice a3 n3 c3]))
   ((W.setCell ⟨w.heap.size + 1 + 1, 0, none⟩ (.bool s)).setCell ⟨w.heap.size + 1 + 1, 1, none⟩ (.slice a3 n3 c3)) := by
  intro W hW s a3 n3 c3 n hn h1 h2
  have c2 := b2.ext hW
  have l : w.heap.size ≤ w.heap.size + 1 + 1 := by omega
  refine Ret.mk ⟨Ext.stB (Ext.stB (he.trans (hW.mono he.size)) l _) l _, s, _, n, rfl, ?_, h1, h2⟩
  exact (hn.setBlk c2 (by simp) 0 _).setBlk (c2.set 0 _) (by simp) 1 _
 by_cases hab : a = b
 ·subst hab
  ((try simp -dsimp [go_sem]); repeat (simp -dsimp (disch := omega) only [gL, gI]; try simp -dsimp [go_sem]))
  rw [hw1]
  refine Cl_i n_integer_number_plus (c_plus (hu.ext (he.tr (d1 _))) (hv.ext (he.tr (d1 _))) hx hy) ?_
  rintro r W ⟨h1, h2, _⟩
  obtain ⟨a3, n3, c3, rfl⟩ := h1.slice
  have h2' := (d1 w1).tr h2
  have c0 := b0.ext h2'
  have c2 := b2.ext h2'
  ((try simp -dsimp [go_sem, c0.cell (i := 0) rfl, c2.cell (i := 0) rfl, c2.cell (i := 1) rfl, c2.frz 0, c2.frz 1]); repeat (simp -dsimp (disch := omega) only [gL, gI]; try simp -dsimp [go_sem, c0.cell (i := 0) rfl, c2.cell (i := 0) rfl, c2.cell (i := 1) rfl, c2.frz 0, c2.frz 1]))
  exact fin W h2' a _ _ _ _ h1 (by cases a <;> simp [sgn] <;> omega) (Int.le_refl _)
 ·have hab' : (a == b) = false := by simpa using hab
  ((try simp -dsimp [go_sem, hab']); repeat (simp -dsimp (disch := omega) only [gL, gI]; try simp -dsimp [go_sem, hab']))
  rw [hw1]
  refine Cl_i n_integer_number_compare (c_compare (hu.ext he) (hv.ext he) hx hy) ?_
  rintro _ W ⟨rfl, hW⟩
  have c0 := b0.ext hW
  have c1 := b1.ext hW
  have hxW := (hu.ext he).ext (hW.tr (d1 _))
  have hyW := (hv.ext he).ext (hW.tr (d1 _))
  by_cases hle : y ≤ x
  ·have hc : 0 ≤ cmpI x y := by unfold cmpI; split <;> (try split) <;> omega
   ((try simp -dsimp [go_sem, hc, c0.cell (i := 0) rfl, c0.cell (i := 1) rfl, c1.cell (i := 0) rfl, c1.cell (i := 1) rfl]); repeat (simp -dsimp (disch := omega) only [gL, gI]; try simp -dsimp [go_sem, hc, c0.cell (i := 0) rfl, c0.cell (i := 1) rfl, c1.cell (i := 0) rfl, c1.cell (i := 1) rfl]))
   refine Cl_i n_integer_number_minus (c_minus hxW hyW hx hle) ?_
   rintro r W2 ⟨h1, h2, _⟩
   obtain ⟨a3, n3, c3, rfl⟩ := h1.slice
   have h2' := (hW.tr (d1 _)).tr h2
   have c0 := b0.ext h2'
   have c2 := b2.ext h2'
   ((try simp -dsimp [go_sem, c0.cell (i := 0) rfl, c2.cell (i := 0) rfl, c2.cell (i := 1) rfl, c2.frz 0, c2.frz 1]); repeat (simp -dsimp (disch := omega) only [gL, gI]; try simp -dsimp [go_sem, c0.cell (i := 0) rfl, c2.cell (i := 0) rfl, c2.cell (i := 1) rfl, c2.frz 0, c2.frz 1]))
   exact fin W2 h2' a _ _ _ _ h1 (by cases a <;> cases b <;> simp [sgn] at hab ⊢ <;> omega) (by omega)
  ·have hc : cmpI x y < 0 := by unfold cmpI; rw [if_pos (by omega)]; decide
   ((try simp -dsimp [go_sem, hc, c0.cell (i := 0) rfl, c0.cell (i := 1) rfl, c1.cell (i := 0) rfl, c1.cell (i := 1) rfl]); repeat (simp -dsimp (disch := omega) only [gL, gI]; try simp -dsimp [go_sem, hc, c0.cell (i := 0) rfl, c0.cell (i := 1) rfl, c1.cell (i := 0) rfl, c1.cell (i := 1) rfl]))
   refine Cl_i n_integer_number_minus (c_minus hyW hxW hy (by omega)) ?_
   rintro r W2 ⟨h1, h2, _⟩
   obtain ⟨a3, n3, c3, rfl⟩ := h1.slice
   have h2' := (hW.tr (d1 _)).tr h2
   have c1 := b1.ext h2'
   have c2 := b2.ext h2'
   ((try simp -dsimp [go_sem, c1.cell (i := 0) rfl, c2.cell (i := 0) rfl, c2.cell (i := 1) rfl, c2.frz 0, c2.frz 1]); repeat (simp -dsimp (disch := omega) only [gL, gI]; try simp -dsimp [go_sem, c1.cell (i := 0) rfl, c2.cell (i := 0) rfl, c2.cell (i := 1) rfl, c2.frz 0, c2.frz 1]))
   exact fin W2 h2' b _ _ _ _ h1 (by cases a <;> cases b <;> simp [sgn] at hab ⊢ <;> omega) (by omega)
theorem resI_eq (z : Int) (s : Bool) (n : Int) (h : sgn s n = z) : resI (if s then -n else n) = resI z := by rw [← h]; rfl
theorem MaxMx : ((MaxI : Nat) : Int) * MaxI * 100000000 < Mx := by unfold MaxI Mx; decide +kernel
theorem MaxI_pos : 1000000 < (MaxI : Int) := by unfold MaxI; decide +kernel
theorem MaxI_Mx : (MaxI : Int) * 100000000 < Mx := by
 have h1 := MaxMx
 have h2 := MaxI_pos
 have : (MaxI : Int) * 100000000 * 1 ≤ (MaxI : Int) * 100000000 * MaxI := Int.mul_le_mul_of_nonneg_left (by omega) (by omega)
 have h3 : (MaxI : Int) * 100000000 * MaxI = MaxI * MaxI * 100000000 := by grind
 omega
theorem sgn_natAbs (z : Int) : sgn (decide (z < 0)) z.natAbs = z := by unfold sgn; split <;> simp at * <;> omega
theorem resI_tuple (z : Int) : ∃ a b, resI z = .tuple #[a, b] := by unfold resI; split <;> exact ⟨_, _, rfl⟩
theorem abs_lt {z : Int} (h : z.natAbs < MaxI) : (z.natAbs : Int) < MaxI := by omega
theorem cl_text {w w1 : World} {z m : Int} {r : Value} (hr : SgnAt w z m r w1) (hm : m < Mx) (ht : Tab w) {pan : List PanicEntry → World → Prop} {K : Value → World → Prop} (hk : ∀ a b W, resI z = .tuple #[a, b] → Ext w W → K (.tuple #[a, b]) W) : Cl Tryz.prog 77 #[r] w1 pan K := by
 obtain ⟨h1, s, t, n, rfl, hn, hz, hle⟩ := hr
 refine Cl_i n_integer_signed_text (c_text hn (by omega) (ht.ext h1)) ?_
 rintro _ W ⟨h2, rfl⟩
 obtain ⟨a, b, hab⟩ := resI_tuple z
 rw [resI_eq z s n hz, hab]
 exact hk a b W hab (h1.tr h2)
theorem sgn_not (b : Bool) (n : Int) : sgn (!b) n = - sgn b n := by cases b <;> simp [sgn]
theorem c_Sub {x y : Int} {w : World} (hx : x.natAbs < MaxI) (hy : y.natAbs < MaxI) (ht : Tab w) :
 Calls Tryz.prog 96 #[str (Lib.itoa x), str (Lib.itoa y)] w (Ret fun r w' => Ext w w' ∧ r = resI (x - y)) := by
 apply e_integer_Sub
 unfold s_integer_Sub
 refine Cl_i n_integer_both (c_both_ok hx hy) ?_
 rintro _ w1 ⟨h1, u, v, rfl, hu, hv⟩
 obtain ⟨a1, n1, cap1, rfl⟩ := hu.slice
 obtain ⟨a2, n2, cap2, rfl⟩ := hv.slice
 have hM := MaxI_Mx
 have hp := MaxI_pos
 have gx := abs_lt hx
 have gy := abs_lt hy
 obtain ⟨bx, hbx⟩ : ∃ bx, bx = decide (x < 0) := ⟨_, rfl⟩
 obtain ⟨bY, hbY⟩ : ∃ bY, bY = decide (y < 0) := ⟨_, rfl⟩
 rw [← hbx, ← hbY]
 ((try simp -dsimp [go_sem]); repeat (simp -dsimp (disch := omega) only [gL, gI]; try simp -dsimp [go_sem]))
 have ha : ∀ o1 o2, Ext w1 ((w1.alloc o1).alloc o2) := fun o1 o2 => ((Ext.refl w1).al _).al _
 refine Cl_i n_integer_signed_plus (c_splus (hu.ext (ha _ _)) (hv.ext (ha _ _)) (by omega) (by omega)) ?_
 intro r W hr
 rw [hbx, hbY, sgn_not, sgn_natAbs, sgn_natAbs] at hr
 refine cl_text hr (by omega) (ht.ext (h1.tr (ha _ _))) fun a b W2 hab h2 => ?_
 ((try simp -dsimp [go_sem]); repeat (simp -dsimp (disch := omega) only [gL, gI]; try simp -dsimp [go_sem]))
 exact Ret.mk ⟨(h1.tr (ha _ _)).tr h2, hab.symm⟩
theorem c_Valid {s : List UInt8} {w : World} (hl : s.length ≤ 1000000) : Calls Tryz.prog 68 #[str s] w (Ret fun r w' => Ext w w' ∧ r = .bool (validB s)) := by
 apply e_integer_Valid
 unfold s_integer_Valid
 refine Cl_i n_integer_isValid (c_isValid hl) ?_
 intro r w1 h
 exact Ret.mk h
theorem c_FromInt {n : Int} {w : World} (h0 : -9223372036854775808 ≤ n) (h1 : n ≤ 9223372036854775807) (ht : Tab w) : Calls Tryz.prog 45 #[.int .i64 n] w (Ret fun r w' => Ext w w' ∧ r = str (Lib.itoa n)) := by
 apply e_integer_FromInt
 unfold s_integer_FromInt
 refine Cl_i n_strconv_Itoa (c_Itoa h0 h1 ht) ?_
 rintro r w1 ⟨h2, h3⟩
 exact Ret.mk ⟨h3, h2⟩
theorem c_Compare {x y : Int} {w : World} (hx : x.natAbs < MaxI) (hy : y.natAbs < MaxI) :
 Calls Tryz.prog 53 #[str (Lib.itoa x), str (Lib.itoa y)] w (Ret fun r w' => Ext w w' ∧ r = .int .i64 (cmpI x y)) := by
 apply e_integer_Compare
 unfold s_integer_Compare
 refine Cl_i n_integer_both (c_both_ok hx hy) ?_
 rintro _ w1 ⟨h1, u, v, rfl, hu, hv⟩
 obtain ⟨a1, n1, cap1, rfl⟩ := hu.slice
 obtain ⟨a2, n2, cap2, rfl⟩ := hv.slice
 have hM := MaxI_Mx
 have hp := MaxI_pos
 have gx := abs_lt hx
 have gy := abs_lt hy
 have ha : ∀ o1 o2, Ext w1 ((w1.alloc o1).alloc o2) := fun o1 o2 => ((Ext.refl w1).al _).al _
 by_cases hx0 : x < 0
 ·by_cases hy0 : y < 0
  ·((try simp -dsimp [go_sem, hx0, hy0]); repeat (simp -dsimp (disch := omega) only [gL, gI]; try simp -dsimp [go_sem, hx0, hy0]))
   refine Cl_i n_integer_number_compare (c_compare (hv.ext (ha _ _)) (hu.ext (ha _ _)) (by omega) (by omega)) ?_
   rintro _ W ⟨rfl, hW⟩
   refine Ret.mk ⟨(h1.tr (ha _ _)).tr hW, ?_⟩
   congr 1
   unfold cmpI
   repeat' split
   all_goals first | rfl | omega
  ·((try simp -dsimp [go_sem, hx0, hy0]); repeat (simp -dsimp (disch := omega) only [gL, gI]; try simp -dsimp [go_sem, hx0, hy0]))
   refine Ret.mk ⟨h1.tr (ha _ _), ?_⟩
   unfold cmpI; rw [if_pos (by omega)]
 ·by_cases hy0 : y < 0
  ·((try simp -dsimp [go_sem, hx0, hy0]); repeat (simp -dsimp (disch := omega) only [gL, gI]; try simp -dsimp [go_sem, hx0, hy0]))
   refine Ret.mk ⟨h1.tr (ha _ _), ?_⟩
   unfold cmpI; rw [if_neg (by omega), if_pos (by omega)]
  ·((try simp -dsimp [go_sem, hx0, hy0]); repeat (simp -dsimp (disch := omega) only [gL, gI]; try simp -dsimp [go_sem, hx0, hy0]))
   refine Cl_i n_integer_number_compare (c_compare (hu.ext (ha _ _)) (hv.ext (ha _ _)) (by omega) (by omega)) ?_
   rintro _ W ⟨rfl, hW⟩
   refine Ret.mk ⟨(h1.tr (ha _ _)).tr hW, ?_⟩
   rw [show (x.natAbs : Int) = x from by omega, show (y.natAbs : Int) = y from by omega]
theorem div_fin {x y Q R : Int} (hy : y ≠ 0) (h : R + y.natAbs * sgn (decide (x < 0)) Q = x) (h0 : 0 ≤ R) (h1 : R < y.natAbs) : x / y = sgn (!decide (x < 0) == decide (y < 0)) Q ∧ x % y = R := by
 have hb : (0 : Int) < y.natAbs := by omega
 obtain ⟨e1, e2⟩ := (Int.ediv_emod_unique hb).2 ⟨h, h0, h1⟩
 by_cases hy0 : y < 0
 ·have hyn : y = -(y.natAbs : Int) := by omega
  constructor
  ·rw [hyn, Int.ediv_neg, e1, ← hyn]
   by_cases hx : x < 0 <;> simp [sgn, hx, hy0]
  ·rw [hyn, Int.emod_neg, e2]
 ·have hyn : y = (y.natAbs : Int) := by omega
  constructor
  ·rw [hyn, e1, ← hyn]
   by_cases hx : x < 0 <;> simp [sgn, hx, hy0]
  ·rw [hyn, e2]
theorem NumAt.zero_iff {w : World} {v : Value} {x : Int} (h : NumAt w v x) : ∃ a n c, v = .slice a n c ∧ (n = 0 ↔ x = 0) ∧ 0 ≤ x := by
 obtain ⟨xs, h1, h2, rfl⟩ := h
 obtain ⟨a, c, rfl⟩ := h1.slice
 refine ⟨_, _, _, rfl, ?_, num_nonneg h2.1⟩
 constructor
 ·intro h
  rw [List.eq_nil_of_length_eq_zero h]; rfl
 ·intro h
  refine Classical.byContradiction fun hc => ?_
  have := h2.pos (by intro h; subst h; simp at hc)
  omega
theorem c_one {w : World} : Calls Tryz.prog 81 #[] w (Ret fun r w' => NumAt w' r 1 ∧ Ext w w') := by
 apply e_integer_one
 unfold s_integer_one
 refine Bs_own sliN rfl (Nat.le_refl w.heap.size) ?_
 intro v W ho hg _
 exact Ret.mk ⟨⟨[1], ho.slAt, ⟨by simp [Dg], rfl⟩, rfl⟩, World.grownBy.ext hg⟩
theorem resI_small {z : Int} (h : z.natAbs < MaxI) : resI z = .tuple #[str (Lib.itoa z), .int .i64 0] := if_pos h
theorem c_both_sl {x y : Int} {w : World} (hx : x.natAbs < MaxI) (hy : y.natAbs < MaxI) :
 Calls Tryz.prog 75 #[str (Lib.itoa x), str (Lib.itoa y)] w (Ret fun r w' => Ext w w' ∧ ∃ bx bY a1 n1 c1 a2 n2 c2, r = .tuple #[.agg #[.bool bx, .slice a1 n1 c1], .agg #[.bool bY, .slice a2 n2 c2], .bool true] ∧ bx = decide (x < 0) ∧ bY = decide (y < 0) ∧ NumAt w' (.slice a1 n1 c1) x.natAbs ∧ NumAt w' (.slice a2 n2 c2) y.natAbs ∧ (n1 = 0 ↔ x = 0) ∧ (n2 = 0 ↔ y = 0)) := by
 refine (c_both_ok hx hy).mono ?_
 rintro _ w' ⟨_, rfl, h1, u, v, rfl, hu, hv⟩
 obtain ⟨a1, n1, cap1, rfl, hn1, _⟩ := hu.zero_iff
 obtain ⟨a2, n2, cap2, rfl, hn2, _⟩ := hv.zero_iff
 exact Ret.mk ⟨h1, _, _, a1, n1, cap1, a2, n2, cap2, rfl, rfl, rfl, hu, hv, by omega, by omega⟩
theorem c_over_sl {w : World} {u v : Value} {x y : Int} (hu : NumAt w u x) (hv : NumAt w v y) (hx : x < Mx) (hy0 : 0 < y) (hy : y * 10000 < Mx) :
 Calls Tryz.prog 79 #[u, v] w (Ret fun r w' => Ext w w' ∧ ∃ a1 n1 c1 a2 n2 c2, r = .tuple #[.slice a1 n1 c1, .slice a2 n2 c2] ∧ NumAt w' (.slice a1 n1 c1) (x / y) ∧ NumAt w' (.slice a2 n2 c2) (x % y) ∧ (n2 = 0 ↔ x % y = 0)) := by
 refine (c_over hu hv hx hy0 hy).mono ?_
 rintro _ w' ⟨_, rfl, h1, u, v, rfl, hu, hv⟩
 obtain ⟨a1, n1, cap1, rfl⟩ := hu.slice
 obtain ⟨a2, n2, cap2, rfl, hn2, _⟩ := hv.zero_iff
 exact Ret.mk ⟨h1, a1, n1, cap1, a2, n2, cap2, rfl, hu, hv, hn2⟩
theorem cl_text_small {w w1 : World} {z m : Int} {r : Value} (hr : SgnAt w z m r w1) (hm : m < Mx) (hz : z.natAbs < MaxI) (ht : Tab w) {pan : List PanicEntry → World → Prop} {K : Value → World → Prop} (hk : ∀ W, Ext w W → Ext w1 W → K (.tuple #[str (Lib.itoa z), .int .i64 0]) W) : Cl Tryz.prog 77 #[r] w1 pan K := by
 obtain ⟨h1, s, t, n, rfl, hn, hsz, hle⟩ := hr
 refine Cl_i n_integer_signed_text (c_text hn (by omega) (ht.ext h1)) ?_
 rintro _ W ⟨h2, rfl⟩
 rw [resI_eq z s n hsz, resI_small hz]
 exact hk W (h1.tr h2) h2
def DivR (w : World) (x y : Int) (r : Value) (w' : World) : Prop := Ext w w' ∧ r = .tuple #[str (Lib.itoa (x / y)), str (Lib.itoa (x % y)), .int .i64 0]
theorem c_Div {x y : Int} {w : World} (hx : x.natAbs < MaxI) (hy : y.natAbs < MaxI) (hy0 : y ≠ 0) (ht : Tab w) :
 Calls Tryz.prog 52 #[str (Lib.itoa x), str (Lib.itoa y)] w (Ret (DivR w x y)) := by
 apply e_integer_Div
 unfold s_integer_Div
 refine Cl_i n_integer_both (c_both_sl hx hy) ?_
 rintro _ w1 ⟨h1, bx, bY, a1, n1, cap1, a2, n2, cap2, rfl, hbx, hbY, hu, hv, hn1, hn2⟩
 have hM := MaxI_Mx
 have hp := MaxI_pos
 have gx := abs_lt hx
 have gy := abs_lt hy
 have hn2' : n2 ≠ 0 := by omega
 ((try simp -dsimp [go_sem, hn2']); repeat (simp -dsimp (disch := omega) only [gL, gI]; try simp -dsimp [go_sem, hn2']))
 have e1 := sgn_natAbs x
 rw [← hbx] at e1
 have hgen : ∀ w2, (w1.alloc (Obj.cells #[.bool bx, .slice a1 n1 cap1] 119)).alloc (Obj.cells #[.bool bY, .slice a2 n2 cap2] 119) = w2 → Ext w1 w2 ∧ Blk w2 w1.heap.size 119 [.bool bx, .slice a1 n1 cap1] ∧ Blk w2 (w1.heap.size + 1) 119 [.bool bY, .slice a2 n2 cap2] := by
  intro w2 hw2
  refine ⟨by rw [← hw2]; exact ((Ext.refl w1).al _).al _, by rw [← hw2]; exact (Blk.al w1 [_, _] _).ext ((Ext.refl _).al _), ?_⟩
  rw [← hw2]; have := Blk.al (w1.alloc (Obj.cells #[.bool bx, .slice a1 n1 cap1] 119)) [.bool bY, .slice a2 n2 cap2] 119; simpa using this
 have hg := hgen _ rfl
 refine Cl_i n_integer_number_over (c_over_sl (hu.ext hg.1) (hv.ext hg.1) (by omega) (by omega) (by omega)) ?_
 rintro _ w3 ⟨h3, a4, n4, c4, a5, n5, c5, rfl, hq, hm, hn5⟩
 have b1 := hg.2.1.ext h3
 have b2 := hg.2.2.ext h3
 have h13 := hg.1.tr h3
 clear hgen hg h3
 ((try simp -dsimp [go_sem]); repeat (simp -dsimp (disch := omega) only [gL, gI]; try simp -dsimp [go_sem]))
 have hmlt : (x.natAbs : Int) % y.natAbs < y.natAbs := Int.emod_lt_of_pos _ (by omega)
 have hm0 : 0 ≤ (x.natAbs : Int) % y.natAbs := Int.emod_nonneg _ (by omega)
 have hdm := Int.mul_ediv_add_emod (x.natAbs : Int) y.natAbs
 have hq0 : 0 ≤ (x.natAbs : Int) / y.natAbs := Int.ediv_nonneg (by omega) (by omega)
 have hqle : (x.natAbs : Int) / y.natAbs ≤ x.natAbs := Int.ediv_le_self _ (by omega)
 refine Jn2.mk fun K hK => ?_
 have hww : Ext w w3 := h1.tr h13
 have hK2 : ∀ W a6 n6 c6 a7 n7 c7 Q R, Ext w3 W → NumAt W (.slice a6 n6 c6) Q → NumAt W (.slice a7 n7 c7) R → Q ≤ x.natAbs → R < y.natAbs → R + y.natAbs * sgn bx Q = x → K (.slice a6 n6 c6) (.slice a7 n7 c7) W := by
  intro W a6 n6 c6 a7 n7 c7 Q R hW nq nr hQ hR hx'
  refine hK _ _ W ?_
  have h0 := nr.nonneg
  have hQ0 := nq.nonneg
  obtain ⟨f1, f2⟩ := div_fin hy0 (by rw [← hbx]; exact hx') h0 hR
  rw [← hbx, ← hbY] at f1
  have hz1 : (x / y).natAbs < MaxI := by
   rw [f1]; unfold sgn; split <;> omega
  have hz2 : (x % y).natAbs < MaxI := by rw [f2]; omega
  have c1 := b1.ext hW
  have c2 := b2.ext hW
  ((try simp -dsimp [go_sem, c1.cell (i := 0) rfl, c2.cell (i := 0) rfl]); repeat (simp -dsimp (disch := omega) only [gL, gI]; try simp -dsimp [go_sem, c1.cell (i := 0) rfl, c2.cell (i := 0) rfl]))
  refine cl_text_small (w := w) (z := x / y) (m := x.natAbs) ⟨hww.tr hW, _, _, _, rfl, nq, f1.symm, hQ⟩ (by omega) hz1 ht fun W2 k2 k2' => ?_
  ((try simp -dsimp [go_sem]); repeat (simp -dsimp (disch := omega) only [gL, gI]; try simp -dsimp [go_sem]))
  refine cl_text_small (w := w) (z := x % y) (m := y.natAbs) ⟨k2, _, _, _, rfl, nr.ext k2', (show sgn false R = x % y from f2.symm), by omega⟩ (by omega) hz2 ht fun W3 k3 _ => ?_
  ((try simp -dsimp [go_sem]); repeat (simp -dsimp (disch := omega) only [gL, gI]; try simp -dsimp [go_sem]))
  exact Ret.mk ⟨k3, rfl⟩
 by_cases hneg : x < 0
 ·have hbt : bx = true := by rw [hbx]; exact decide_eq_true hneg
  by_cases hr0 : (x.natAbs : Int) % y.natAbs = 0
  ·have hn50 : n5 = 0 := hn5.2 hr0
   ((try simp -dsimp [go_sem, b1.cell (i := 0) rfl, hbt, hn50]); repeat (simp -dsimp (disch := omega) only [gL, gI]; try simp -dsimp [go_sem, b1.cell (i := 0) rfl, hbt, hn50]))
   rw [← hn50]
   exact hK2 w3 _ _ _ _ _ _ _ _ (.refl _) hq hm hqle hmlt (by rw [hbt]; simp only [sgn, if_true]; rw [Int.mul_neg]; omega)
  ·have hn50 : n5 ≠ 0 := fun h => hr0 (hn5.1 h)
   have hn51 : 0 < n5 := by omega
   have hd : Ext w3 w3.drew := Ext.dr (.refl _)
   ((try simp -dsimp [go_sem, b1.cell (i := 0) rfl, hbt, hn51, b2.cell (i := 1) rfl]); repeat (simp -dsimp (disch := omega) only [gL, gI]; try simp -dsimp [go_sem, b1.cell (i := 0) rfl, hbt, hn51, b2.cell (i := 1) rfl]))
   refine Cl_i n_integer_one c_one ?_
   rintro r1 W1 ⟨g1, g2⟩
   have x1 := hd.tr g2
   ((try simp -dsimp [go_sem, (b2.ext x1).cell (i := 1) rfl]); repeat (simp -dsimp (disch := omega) only [gL, gI]; try simp -dsimp [go_sem, (b2.ext x1).cell (i := 1) rfl]))
   refine Cl_i n_integer_number_plus (c_plus (hq.ext x1) g1 (by omega) (by omega)) ?_
   rintro r2 W2 ⟨g3, g4, _⟩
   have x2 := x1.tr g4
   ((try simp -dsimp [go_sem, (b2.ext x2).cell (i := 1) rfl]); repeat (simp -dsimp (disch := omega) only [gL, gI]; try simp -dsimp [go_sem, (b2.ext x2).cell (i := 1) rfl]))
   have hv3 : NumAt w3 (.slice a2 n2 cap2) y.natAbs := hv.ext h13
   refine Cl_i n_integer_number_minus (c_minus (hv3.ext x2) (hm.ext x2) (by omega) (by omega)) ?_
   rintro r3 W3 ⟨g5, g6, _⟩
   have g3' := g3.ext g6
   obtain ⟨a6, n6, c6, hr2⟩ := g3'.slice
   obtain ⟨a7, n7, c7, hr3⟩ := g5.slice
   rw [hr2] at g3' ⊢
   rw [hr3] at g5 ⊢
   refine hK2 W3 _ _ _ _ _ _ _ _ (x2.tr g6) g3' g5 ?_ (by omega) ?_
   ·have hy2 : 2 ≤ (y.natAbs : Int) := by
     refine Classical.byContradiction fun hc => ?_
     have : (y.natAbs : Int) = 1 := by omega
     rw [this] at hr0; simp at hr0
    have : 2 * ((x.natAbs : Int) / y.natAbs) ≤ y.natAbs * (x.natAbs / y.natAbs) := Int.mul_le_mul_of_nonneg_right hy2 hq0
    omega
   ·rw [hbt]; simp only [sgn, if_true]; rw [Int.mul_neg, Int.mul_add]; omega
 ·have hbt : bx = false := by rw [hbx]; exact decide_eq_false hneg
  ((try simp -dsimp [go_sem, b1.cell (i := 0) rfl, hbt]); repeat (simp -dsimp (disch := omega) only [gL, gI]; try simp -dsimp [go_sem, b1.cell (i := 0) rfl, hbt]))
  exact hK2 w3 _ _ _ _ _ _ _ _ (.refl _) hq hm hqle hmlt (by rw [hbt]; simp only [sgn]; rw [if_neg (by decide)]; omega)
theorem itoa0 : Lib.itoa 0 = [48] := by unfold Lib.itoa; rw [if_neg (by decide)]; exact dec_lt (by decide)
theorem SlAt.unique {w : World} {v : Value} {xs ys : List Value} (h : SlAt w v xs) (k : SlAt w v ys) : xs = ys := by
 rcases h with ⟨rfl, rfl⟩ | ⟨b, o, cap, rfl, h2, h3⟩
 ·rcases k with ⟨_, rfl⟩ | ⟨b, o, cap, h1, _⟩
  ·rfl
  ·simp at h1
 ·rcases k with ⟨h1, _⟩ | ⟨b', o', cap', h1, k2, k3⟩
  ·simp at h1
  ·simp only [Value.slice.injEq, Option.some.injEq, Addr.mk.injEq, and_true] at h1
   obtain ⟨⟨rfl, rfl⟩, hl, _⟩ := h1
   apply List.ext_getElem?
   intro i
   by_cases hi : i < xs.length
   ·have a1 := h3 i _ (List.getElem?_eq_getElem hi)
    have a2 := k3 i _ (List.getElem?_eq_getElem (by omega : i < ys.length))
    rw [a1] at a2
    rw [List.getElem?_eq_getElem hi, List.getElem?_eq_getElem (by omega : i < ys.length)]
    exact a2
   ·rw [List.getElem?_eq_none (by omega), List.getElem?_eq_none (by omega)]
theorem NumAt.unique {w : World} {v : Value} {x y : Int} (h : NumAt w v x) (k : NumAt w v y) : x = y := by
 obtain ⟨xs, h1, _, rfl⟩ := h
 obtain ⟨ys, k1, _, rfl⟩ := k
 have := SlAt.unique h1 k1
 have : xs = ys := by
  have hi : Function.Injective iv := fun a b h => by simpa using h
  exact (List.map_inj_right (fun a b h => hi h)).1 this
 rw [this]
open Classical in
noncomputable def numV (w : World) (v : Value) : Int := if h : ∃ x, NumAt w v x then Classical.choose h else 0
theorem NumAt.numV {w : World} {v : Value} {x : Int} (h : NumAt w v x) : numV w v = x := by
 have hx : ∃ x, NumAt w v x := ⟨x, h⟩
 unfold Go.Proofs.YtjgjeccfhmlcnaaGreatDoor.numV
 rw [dif_pos hx]
 exact (Classical.choose_spec hx).unique h
theorem c_Gcd {x y : Int} {w : World} (hx : x.natAbs < MaxI) (hy : y.natAbs < MaxI) (ht : Tab w) :
 Calls Tryz.prog 78 #[str (Lib.itoa x), str (Lib.itoa y)] w (Ret fun r w' => Ext w w' ∧ r = resI (Int.gcd x y)) := by
 apply e_integer_Gcd
 unfold s_integer_Gcd
 refine Cl_i n_integer_both (c_both_sl hx hy) ?_
 rintro _ w1 ⟨h1, bx, bY, a1, n1, cap1, a2, n2, cap2, rfl, hbx, hbY, hu, hv, hn1, hn2⟩
 have hM := MaxI_Mx
 have hp := MaxI_pos
 have gx := abs_lt hx
 have gy := abs_lt hy
 ((try simp -dsimp [go_sem]); repeat (simp -dsimp (disch := omega) only [gL, gI]; try simp -dsimp [go_sem]))
 have h12 : ∀ o1 o2, Ext w1 ((w1.alloc o1).alloc o2).drew := fun o1 o2 => Ext.dr (((Ext.refl w1).al _).al _)
 have hI : ∃ I : Value → Value → World → Prop, I = fun k l W => ∃ a b : Nat, NumAt W k a ∧ NumAt W l b ∧ Nat.gcd a b = Int.gcd x y ∧ a < MaxI ∧ b < MaxI ∧ Ext w W := ⟨_, rfl⟩
 obtain ⟨I, hI⟩ := hI
 refine Lp2.mk I (fun _ l W => (numV W l).toNat) (by rw [hI]; exact ⟨x.natAbs, y.natAbs, hu.ext (h12 _ _), hv.ext (h12 _ _), rfl, hx, hy, h1.tr (h12 _ _)⟩) ?_
 intro k l W hh
 rw [hI] at hh
 obtain ⟨a, b, ka, lb, hg, ha, hb, hW⟩ := hh
 have hnum := lb.numV
 obtain ⟨a3, n3, c3, rfl⟩ := ka.slice
 obtain ⟨a4, n4, c4, rfl, hn4, _⟩ := lb.zero_iff
 by_cases hb0 : b = 0
 ·have hn40 : n4 = 0 := by omega
  ((try simp -dsimp [go_sem, hn40]); repeat (simp -dsimp (disch := omega) only [gL, gI]; try simp -dsimp [go_sem, hn40]))
  refine cl_text (w := w) (z := Int.gcd x y) (m := a) ⟨hW, _, _, _, rfl, ka, ?_, Int.le_refl _⟩ (by omega) ht fun r1 r2 W2 hab k2 => ?_
  ·show (a : Int) = _
   rw [← hg, hb0, Nat.gcd_zero_right]
  ·((try simp -dsimp [go_sem]); repeat (simp -dsimp (disch := omega) only [gL, gI]; try simp -dsimp [go_sem]))
   exact Ret.mk ⟨k2, hab.symm⟩
 ·have hn40 : 0 < n4 := by omega
  ((try simp -dsimp [go_sem]); repeat (simp -dsimp (disch := omega) only [gL, gI]; try simp -dsimp [go_sem]))
  refine Cl_i n_integer_number_over (c_over_sl ka lb (by omega) (by omega) (by omega)) ?_
  rintro _ W2 ⟨k2, a5, n5, c5, a6, n6, c6, rfl, hq, hm, hn6⟩
  have hcast : (a : Int) % b = ((a % b : Nat) : Int) := by simp
  rw [hcast] at hm
  have hlt : a % b < b := Nat.mod_lt _ (by omega)
  have hnum2 := hm.numV
  ((try simp -dsimp [go_sem]); repeat (simp -dsimp (disch := omega) only [gL, gI]; try simp -dsimp [go_sem]))
  rw [hnum, hnum2]
  refine ⟨?_, by omega⟩
  rw [hI]
  refine ⟨b, a % b, lb.ext k2, hm, ?_, hb, by omega, hW.tr k2⟩
  rw [← hg, Nat.gcd_comm a b, Nat.gcd_rec b a, Nat.gcd_comm]
section
variable {s t : List UInt8} {w : World} (hs : s.length ≤ 1000000) (ht : t.length ≤ 1000000) (h : (validB s && validB t) = false)
include hs ht h
theorem c_Div_bad : Calls Tryz.prog 52 #[str s, str t] w (Ret fun r w' => Ext w w' ∧ r = .tuple #[str [], str [], .int .i64 30]) := by
 apply e_integer_Div
 unfold s_integer_Div
 refine Cl_i n_integer_both (c_both_bad hs ht h) ?_
 rintro _ w1 ⟨h1, rfl⟩
 ((try simp -dsimp [go_sem]); repeat (simp -dsimp (disch := omega) only [gL, gI]; try simp -dsimp [go_sem]))
 exact Ret.mk ⟨(h1.al _).al _, rfl⟩
end
theorem c_Div_zero {x : Int} {w : World} (hx : x.natAbs < MaxI) : Calls Tryz.prog 52 #[str (Lib.itoa x), str (Lib.itoa 0)] w (Ret fun r w' => Ext w w' ∧ r = .tuple #[str [], str [], .int .i64 30]) := by
 apply e_integer_Div
 unfold s_integer_Div
 have hp := MaxI_pos
 refine Cl_i n_integer_both (c_both_sl (w := w) hx (y := 0) (by simp; omega)) ?_
 rintro _ w1 ⟨h1, bx, bY, a1, n1, cap1, a2, n2, cap2, rfl, hbx, hbY, hu, hv, hn1, hn2⟩
 have hn20 : n2 = 0 := hn2.2 rfl
 ((try simp -dsimp [go_sem, hn20]); repeat (simp -dsimp (disch := omega) only [gL, gI]; try simp -dsimp [go_sem, hn20]))
 exact Ret.mk ⟨(h1.al _).al _, rfl⟩
def canon (l : List UInt8) : Bool := !l.isEmpty && l.all (fun b => decide (isD b)) && (l.length == 1 || l.head? != some 48)
theorem lit_dec {l : List UInt8} (h : canon l = true) : Lib.decDigits (dv l) = l := by
 unfold canon at h
 simp only [Bool.and_eq_true, Bool.or_eq_true, List.all_eq_true, decide_eq_true_eq, beq_iff_eq, bne_iff_ne, Bool.not_eq_true', List.isEmpty_eq_false_iff] at h
 exact dec_dv h.1.2 h.1.1 h.2
theorem lit_pos {l : List UInt8} (z : Int) (h : canon l = true) (hz : z = (dv l : Int)) : Lib.itoa z = l := by
 subst hz
 unfold Lib.itoa
 rw [if_neg (by omega), Int.toNat_natCast, lit_dec h]
theorem small_MaxI {z : Int} (h : z.natAbs < 1000000) : z.natAbs < MaxI := by have := MaxI_pos; omega
theorem l1 : Lib.itoa 1 = [49] := lit_pos _ (by decide) (by decide)
theorem l2 : Lib.itoa 2 = [50] := lit_pos _ (by decide) (by decide)
theorem l4 : Lib.itoa 4 = [52] := lit_pos _ (by decide) (by decide)
theorem l12 : Lib.itoa 12 = [49, 50] := lit_pos _ (by decide) (by decide)
theorem Ret.lit {w : World} {f : FuncId} {args : Array Value} {u v : Value} (h : Calls Tryz.prog f args w (Ret fun r w' => Ext w w' ∧ r = u)) (e : u = v) : Calls Tryz.prog f args w (Ret fun r w' => Ext w w' ∧ r = v) := e ▸ h
theorem sanV {l : List UInt8} {b : Bool} {w : World} (hl : l.length ≤ 1000000) (h : validB l = b) : Calls Tryz.prog 68 #[str l] w (Ret fun r w' => Ext w w' ∧ r = .bool b) := by
 have := c_Valid (w := w) hl
 rw [h] at this
 exact this
def Sz (k : Nat) (z : Int) : Prop := z.natAbs < 10 ^ k
theorem Sz.mono {j k : Nat} {z : Int} (h : Sz j z) (hk : j ≤ k) : Sz k z := Nat.lt_of_lt_of_le h (Nat.pow_le_pow_right (by decide) hk)
theorem Sz.add {k : Nat} {x y : Int} (hx : Sz k x) (hy : Sz k y) : Sz (k + 1) (x + y) := by
 unfold Sz at *
 rw [Nat.pow_succ]; omega
theorem Sz.neg {k : Nat} {x : Int} (hx : Sz k x) : Sz k (-x) := by unfold Sz at *; omega
theorem Sz.sub {k : Nat} {x y : Int} (hx : Sz k x) (hy : Sz k y) : Sz (k + 1) (x - y) := by
 unfold Sz at *
 rw [Nat.pow_succ]; omega
theorem Sz.mul {j k : Nat} {x y : Int} (hx : Sz j x) (hy : Sz k y) : Sz (j + k) (x * y) := by
 unfold Sz at *
 rw [Int.natAbs_mul, Nat.pow_add]
 exact Nat.mul_lt_mul'' hx hy
theorem Sz.max {k : Nat} {z : Int} (h : Sz k z) (hk : k ≤ 200) : z.natAbs < MaxI := by
 have := h.mono hk
 unfold MaxI; exact this
theorem Sz.of {k : Nat} {z : Int} (h : z.natAbs < MaxI) : Sz 200 z := by unfold MaxI at h; exact h
theorem Sz.zero (k : Nat) : Sz k 0 := Nat.pow_pos (by decide)
theorem Sz.one {k : Nat} (hk : 1 ≤ k) : Sz k 1 := Sz.mono (j := 1) (by unfold Sz; decide) hk
theorem resT {z : Int} (h : z.natAbs < MaxI) : resI z = .tuple #[str (Lib.itoa z), .int .i64 0] := resI_small h
section
variable {x y s : Int} {w : World} (hx : x.natAbs < MaxI) (hy : y.natAbs < MaxI) (hs : s.natAbs < MaxI) (ht : Tab w)
include hx hy hs ht
theorem k_Sub (e : x - y = s) : Calls Tryz.prog 96 #[str (Lib.itoa x), str (Lib.itoa y)] w (Ret fun r w' => Ext w w' ∧ r = .tuple #[str (Lib.itoa s), .int .i64 0]) :=
 Ret.lit (c_Sub hx hy ht) (by rw [e, resT hs])
theorem k_Gcd (e : (Int.gcd x y : Int) = s) : Calls Tryz.prog 78 #[str (Lib.itoa x), str (Lib.itoa y)] w (Ret fun r w' => Ext w w' ∧ r = .tuple #[str (Lib.itoa s), .int .i64 0]) :=
 Ret.lit (c_Gcd hx hy ht) (by rw [e, resT hs])
end
theorem k_Div {x y q r : Int} {w : World} (hx : x.natAbs < MaxI) (hy : y.natAbs < MaxI) (hy0 : y ≠ 0) (ht : Tab w) (e1 : x / y = q) (e2 : x % y = r) :
 Calls Tryz.prog 52 #[str (Lib.itoa x), str (Lib.itoa y)] w (Ret fun v w' => Ext w w' ∧ v = .tuple #[str (Lib.itoa q), str (Lib.itoa r), .int .i64 0]) := by
 refine (c_Div hx hy hy0 ht).mono ?_
 rintro _ w' ⟨v, rfl, h1, h2⟩
 exact Ret.mk ⟨h1, by rw [h2, e1, e2]⟩
theorem k_Compare {x y c : Int} {w : World} (hx : x.natAbs < MaxI) (hy : y.natAbs < MaxI) (e : cmpI x y = c) :
 Calls Tryz.prog 53 #[str (Lib.itoa x), str (Lib.itoa y)] w (Ret fun r w' => Ext w w' ∧ r = .int .i64 c) :=
 Ret.lit (c_Compare hx hy) (by rw [e])
theorem cmpI_lt {x y : Int} (h : x < y) : cmpI x y = -1 := by unfold cmpI; rw [if_pos h]
theorem cmpI_gt {x y : Int} (h : y < x) : cmpI x y = 1 := by unfold cmpI; rw [if_neg (by omega), if_pos (by omega)]
theorem cmpI_eq {x y : Int} (h : x = y) : cmpI x y = 0 := by unfold cmpI; rw [if_neg (by omega), if_neg (by omega)]
theorem cmpI_ge {x y : Int} (h : y ≤ x) : 0 ≤ cmpI x y := by
 rcases Int.lt_or_eq_of_le h with h | h
 ·rw [cmpI_gt h]; decide
 ·rw [cmpI_eq h.symm]; decide
theorem not0 {y : Int} (h : y ≠ 0) : (Lib.itoa y == [48]) = false := by
 rw [beq_eq_false_iff_ne, ← itoa0]
 exact fun hc => h (itoa_inj hc)
theorem itoa_ok {z : Int} (h : z.natAbs < MaxI) : (Lib.itoa z).length ≤ 1000000 := by have := itoa_length h; omega
theorem valid_ok {z : Int} (h : z.natAbs < MaxI) : validB (Lib.itoa z) = true := by rw [valid_itoa]; exact decide_eq_true h
theorem m0 : (0 : Int).natAbs < MaxI := small_MaxI (by decide)
theorem m1 : (1 : Int).natAbs < MaxI := small_MaxI (by decide)
theorem wu8 {x : Int} (h1 : 0 ≤ x) (h2 : x < 256) : IntKind.u8.wrap x = x := by rw [IntKind.wrap_u8]; omega
def Dg10 (xs : List Int) : Prop := ∀ d ∈ xs, 0 ≤ d ∧ d < 10
def Nrm10 (xs : List Int) : Prop := Dg10 xs ∧ trimL xs = xs
def num10 : List Int → Int
 | [] => 0
 | d :: ds => d + 10 * num10 ds
theorem Dg10.cons {d : Int} {xs : List Int} (h : Dg10 (d :: xs)) : Dg10 xs := fun e he => h e (List.mem_cons_of_mem _ he)
theorem Nrm10.trimL {xs : List Int} (h : Dg10 xs) : Nrm10 (trimL xs) := ⟨fun d hd => h d (trimL_mem hd), trimL_trimL xs⟩
theorem num10_nonneg {xs : List Int} (h : Dg10 xs) : 0 ≤ num10 xs := by
 induction xs with
 | nil => exact Int.le_refl _
 | cons d xs ih =>
  have := ih h.cons
  have := h d (List.mem_cons_self ..)
  simp only [num10]; omega
theorem num10_lt {xs : List Int} (h : Dg10 xs) : num10 xs < 10 ^ xs.length := by
 induction xs with
 | nil => decide
 | cons d xs ih =>
  have := ih h.cons
  have := h d (List.mem_cons_self ..)
  simp only [num10, List.length_cons]
  rw [Int.pow_succ]; omega
def sg (b : Bool) (x : Int) : Int := if b then -x else x
end Go.Proofs.YtjgjeccfhmlcnaaGreatDoor
