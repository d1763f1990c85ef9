/-
  Contracts and plain lemmas. By an AI agent.
-/
import Derived.Test.YtjgjeccfhmlcnaaGreatDoorRefU
import Derived.Test.YtjgjeccfhmlcnaaGreatDoorRefW
import Derived.Test.YtjgjeccfhmlcnaaGreatDoorStrY
import Derived.Test.YtjgjeccfhmlcnaaGreatDoorPlain
import Derived.Test.YtjgjeccfhmlcnaaGreatDoorEng
set_option linter.unusedSimpArgs false
set_option linter.unusedVariables false
set_option linter.unusedSectionVars false
namespace Go.Proofs.YtjgjeccfhmlcnaaGreatDoor
open Go Go.Eng Go.Proofs Go.Num Go.RowKit
set_option maxRecDepth 100000
noncomputable def zOf (s : List UInt8) : Int := if h : validB s = true then Classical.choose (valid_ex h) else 0
theorem zOf_spec {s : List UInt8} (h : validB s = true) : (zOf s).natAbs < MaxI ∧ s = Lib.itoa (zOf s) := by
 unfold zOf
 rw [dif_pos h]
 exact Classical.choose_spec (valid_ex h)
section
variable {p q : List UInt8} {w : World} (hp : p.length ≤ 1000000) (hq : q.length ≤ 1000000)
include hp hq
noncomputable def divOk (p q : List UInt8) : Bool := validB p && validB q && decide (zOf q ≠ 0)
noncomputable def divA (p q : List UInt8) : List UInt8 := if divOk p q then Lib.itoa (zOf p / zOf q) else []
noncomputable def divB (p q : List UInt8) : List UInt8 := if divOk p q then Lib.itoa (zOf p % zOf q) else []
noncomputable def divE (p q : List UInt8) : Int := if divOk p q then 0 else 30
omit hp hq in
theorem div_bad {p q : List UInt8} (h : divOk p q = false) : (.tuple #[str [], str [], .int .i64 30] : Value) = .tuple #[str (divA p q), str (divB p q), .int .i64 (divE p q)] := by
 unfold divA divB divE; rw [h]; rfl
omit hp hq in
theorem div_ok {p q : List UInt8} (h : divOk p q = true) : (.tuple #[str (Lib.itoa (zOf p / zOf q)), str (Lib.itoa (zOf p % zOf q)), .int .i64 0] : Value) = .tuple #[str (divA p q), str (divB p q), .int .i64 (divE p q)] := by
 unfold divA divB divE; rw [h]; rfl
theorem g_Div (ht : Tab w) : Calls Tryz.prog 52 #[str p, str q] w (Ret fun r w' => Ext w w' ∧ r = .tuple #[str (divA p q), str (divB p q), .int .i64 (divE p q)]) := by
 cases h : (validB p && validB q) with
 | false => exact Ret.lit (c_Div_bad hp hq h) (div_bad (by unfold divOk; rw [h]; rfl))
 | true =>
  have h' := h
  simp only [Bool.and_eq_true] at h
  obtain ⟨x0, x1⟩ := zOf_spec h.1
  obtain ⟨y0, y1⟩ := zOf_spec h.2
  by_cases hz : zOf q = 0
  ·have := c_Div_zero (x := zOf p) (w := w) x0
   rw [← x1, ← hz, ← y1] at this
   exact Ret.lit this (div_bad (by unfold divOk; rw [h', hz]; rfl))
  ·have hok : divOk p q = true := by unfold divOk; rw [h']; simpa using hz
   have := k_Div (x := zOf p) (y := zOf q) (w := w) x0 y0 hz ht rfl rfl
   rw [← x1, ← y1] at this
   exact Ret.lit this (div_ok hok)
end
theorem zOf_itoa {z : Int} (h : z.natAbs < MaxI) : zOf (Lib.itoa z) = z := by
 have := (zOf_spec (s := Lib.itoa z) (valid_ok h)).2
 exact (itoa_inj this).symm
theorem divOk_ok {x y : Int} (hx : x.natAbs < MaxI) (hy : y.natAbs < MaxI) (h : y ≠ 0) : divOk (Lib.itoa x) (Lib.itoa y) = true := by
 unfold divOk; rw [valid_ok hx, valid_ok hy, zOf_itoa hy]; simpa using h
theorem divA_ok {x y : Int} (hx : x.natAbs < MaxI) (hy : y.natAbs < MaxI) (h : y ≠ 0) : divA (Lib.itoa x) (Lib.itoa y) = Lib.itoa (x / y) := by
 unfold divA; rw [divOk_ok hx hy h, zOf_itoa hx, zOf_itoa hy]; rfl
theorem divE_ok {x y : Int} (hx : x.natAbs < MaxI) (hy : y.natAbs < MaxI) (h : y ≠ 0) : divE (Lib.itoa x) (Lib.itoa y) = 0 := by
 unfold divE; rw [divOk_ok hx hy h]; rfl
abbrev R3 := List UInt8 × List UInt8 × Int
abbrev fv (t : R3) : Value := .agg #[str t.1, str t.2.1]
abbrev rv (t : R3) : Value := .tuple #[fv t, .int .i64 t.2.2]
abbrev fz (p q : Int) : Value := .agg #[str (Lib.itoa p), str (Lib.itoa q)]
def rQ (x : Rat) : R3 := (Lib.itoa x.num, Lib.itoa (x.den : Int), 0)
def rBad : R3 := ([], [], 40)
def rLo (n d : Int) : R3 := (Lib.itoa (loN n d), Lib.itoa (loD n d), 0)
theorem rLo_q {n d : Int} (h : d ≠ 0) : rLo n d = rQ ((n : Rat) / d) := by
 obtain ⟨h1, h2⟩ := lo_rat (n := n) h
 unfold rLo rQ; rw [h1, h2]
def makeQ (n d : Int) : R3 := if d = 0 then rBad else rQ ((n : Rat) / d)
def okR (n d : List UInt8) : Prop := ∃ x : Rat, n = Lib.itoa x.num ∧ d = Lib.itoa (x.den : Int) ∧ RB x
theorem okR_q {x : Rat} : okR (Lib.itoa x.num) (Lib.itoa (x.den : Int)) ↔ RB x := by
 constructor
 ·rintro ⟨y, h1, h2, h⟩
  have e1 := itoa_inj h1
  have e2 := itoa_inj h2
  rw [rat_ext e1 (by omega)]; exact h
 ·exact fun h => ⟨x, rfl, rfl, h⟩
def SR (a b : Nat) (x : Rat) : Prop := Sz a x.num ∧ Sz b (x.den : Int)
theorem SR.mono {a b c d : Nat} {x : Rat} (h : SR a b x) (h1 : a ≤ c) (h2 : b ≤ d) : SR c d x := ⟨h.1.mono h1, h.2.mono h2⟩
theorem SR.of {n d : Int} {a b : Nat} (hn : Sz a n) (hd : Sz b d) (h0 : d ≠ 0) : SR a b ((n : Rat) / d) :=
 ⟨Nat.lt_of_le_of_lt (num_le h0) hn, Nat.lt_of_le_of_lt (den_le h0) hd⟩
theorem SR.rb {a b : Nat} {x : Rat} (h : SR a b x) (ha : a ≤ 200) (hb : b ≤ 200) : RB x := ⟨h.1.max ha, h.2.max hb⟩
theorem SR.int {z : Int} {a : Nat} (h : Sz a z) : SR a 1 (z : Rat) := ⟨h, by rw [den_int]; unfold Sz; decide⟩
section
variable {a b c d k : Nat} {x y : Rat} (hx : SR a b x) (hy : SR c d y) (h1 : a + d ≤ k) (h2 : c + b ≤ k)
include hx hy h1 h2
theorem SR.add : SR (k + 1) (b + d) (x + y) := by
 rw [← q_add x y]
 exact .of (((hx.1.mul hy.2).mono h1).add ((hy.1.mul hx.2).mono h2)) (hx.2.mul hy.2) (dd_ne x y)
theorem SR.sub : SR (k + 1) (b + d) (x - y) := by
 rw [← q_sub x y]
 exact .of (((hx.1.mul hy.2).mono h1).sub ((hy.1.mul hx.2).mono h2)) (hx.2.mul hy.2) (dd_ne x y)
end
section
variable {a b c d : Nat} {x y : Rat} (hx : SR a b x) (hy : SR c d y)
include hx hy
theorem SR.mul : SR (a + c) (b + d) (x * y) := by
 rw [← q_mul x y]
 exact .of (hx.1.mul hy.1) (hx.2.mul hy.2) (dd_ne x y)
end
abbrev pt (g : Nat) : Value := .pointer (some ⟨g, 0, none⟩)
abbrev tR : TypeId := 50
abbrev tS : TypeId := 9
section
variable {w w0 : World} {K : Value → World → Prop} {KW : World → Prop} {g : Nat} {a b : List UInt8}
theorem alR (hk : ∀ g w1, Ext w w1 → w.heap.size ≤ g → g < w1.heap.size → Blk w1 g tR [str [], str []] → K (pt g) w1) : Al Tryz.prog tR w K := by
 ((try simp -dsimp [go_sem]); repeat (simp -dsimp (disch := omega) only [gL, gI]; try simp -dsimp [go_sem]))
 exact hk _ _ ((Ext.refl w).al _) (Nat.le_refl _) (by simp) (Blk.al w [str [], str []] _)
theorem bdR (hk : K (.agg #[str a, str b]) w) : Bd Tryz.prog tR [(0, str a), (1, str b)] w K := by
 ((try simp -dsimp [go_sem]); repeat (simp -dsimp (disch := omega) only [gL, gI]; try simp -dsimp [go_sem]))
 exact hk
theorem bdR0 (hk : K (.agg #[str [], str []]) w) : Bd Tryz.prog tR [] w K := by
 ((try simp -dsimp [go_sem]); repeat (simp -dsimp (disch := omega) only [gL, gI]; try simp -dsimp [go_sem]))
 exact hk
theorem ldR (h : Blk w g tR [str a, str b]) (hk : K (.agg #[str a, str b]) w) : Ld Tryz.prog tR (pt g) w K := by
 ((try simp -dsimp [go_sem, h.cell (i := 0) rfl, h.cell (i := 1) rfl]); repeat (simp -dsimp (disch := omega) only [gL, gI]; try simp -dsimp [go_sem, h.cell (i := 0) rfl, h.cell (i := 1) rfl]))
 exact hk
theorem ld1 (h : Blk w g tR [str a, str b]) (hk : K (str b) w) : Ld Tryz.prog tS (.pointer (some ⟨g, 1, none⟩)) w K := by
 ((try simp -dsimp [go_sem, h.cell (i := 1) rfl]); repeat (simp -dsimp (disch := omega) only [gL, gI]; try simp -dsimp [go_sem, h.cell (i := 1) rfl]))
 exact hk
end
theorem gcd_max {p q : Int} (hp : p.natAbs < MaxI) (hq : q.natAbs < MaxI) : ((Int.gcd p q : Nat) : Int).natAbs < MaxI := by
 by_cases h : q = 0
 ·subst h
  have : Int.gcd p 0 = p.natAbs := Int.gcd_zero
  rw [this]; simpa using hp
 ·have h1 := Int.gcd_dvd_right p q
  have h2 := Nat.le_of_dvd (by omega) (Int.natAbs_dvd_natAbs.2 h1)
  omega
section
variable {n d : List UInt8} {w : World} (hn : n.length ≤ 1000000) (hd : d.length ≤ 1000000)
theorem k_Cmp0 {q c : Int} (hq : q.natAbs < MaxI) (e : cmpI q 0 = c) : Calls Tryz.prog 53 #[str (Lib.itoa q), str [48]] w (Ret fun r w' => Ext w w' ∧ r = .int .i64 c) := by
 have := k_Compare (w := w) hq m0 e
 rwa [itoa0] at this
theorem k_GcdR {p q : Int} (hp : p.natAbs < MaxI) (hq : q.natAbs < MaxI) (ht : Tab w) : Calls Tryz.prog 78 #[str (Lib.itoa p), str (Lib.itoa q)] w (Ret fun r w' => Ext w w' ∧ r = .tuple #[str (Lib.itoa (Int.gcd p q : Int)), .int .i64 0]) :=
 k_Gcd hp hq (gcd_max hp hq) ht rfl
include hn hd
end
structure Own (g : Nat) (w w' : World) : Prop where
 below : Below g w w'
 other : ∀ k, k ≠ g → k < w.heap.size → w'.heap[k]? = w.heap[k]?
theorem Own.refl (g : Nat) (w : World) : Own g w w := ⟨.refl _ _, fun _ _ _ => rfl⟩
theorem Own.trans {g : Nat} {a b c : World} (h : Own g a b) (k : Own g b c) : Own g a c :=
 ⟨h.below.trans k.below, fun i hi hs => (k.other i hi (Nat.lt_of_lt_of_le hs h.below.size)).trans (h.other i hi hs)⟩
theorem Own.ofExt {g : Nat} {w w' : World} (h : Ext w w') (hg : g ≤ w.heap.size) : Own g w w' := ⟨h.mono hg, fun k _ hk => h.block k hk⟩
theorem Own.set (g i : Nat) (w : World) (u : Value) : Own g w (w.setCell ⟨g, i, none⟩ u) :=
 ⟨Below.setCell (.refl _ _) (Nat.le_refl g) u, fun k hk _ => heap_setCell_other w ⟨g, i, none⟩ k u (fun e => hk e)⟩
theorem blkOwn {g b : Nat} {W W' : World} {ty : TypeId} {cs : List Value} (h : Blk W b ty cs) (hb : b ≠ g) (o : Own g W W') : Blk W' b ty cs := (o.other b hb h.lt).trans h
theorem Own.ext {g : Nat} {w0 w w' : World} (h : Ext w0 w) (hg : w0.heap.size ≤ g) (o : Own g w w') : Ext w0 w' := Below.trans h (o.below.mono hg)
theorem Tab.own {g : Nat} {w w' : World} (h : Ext w w') (ht : Tab w) : Tab w' := ht.ext h
abbrev tW : TypeId := 113
def doA (b : Bool) (A : List UInt8) : List UInt8 := if b then [] else A
def doB (b : Bool) (e : Int) : Bool := b || (e != 0)
section
variable {w w0 : World} {K : Value → World → Prop} {KW : World → Prop} {g : Nat} {b b' : Bool}
theorem bxW (hk : ∀ g w1, Ext w w1 → w.heap.size ≤ g → g < w1.heap.size → Blk w1 g tW [.bool b] → K (pt g) w1) : Bx Tryz.prog tW (.agg #[.bool b]) w K := by
 ((try simp -dsimp [go_sem]); repeat (simp -dsimp (disch := omega) only [gL, gI]; try simp -dsimp [go_sem]))
 exact hk _ _ ((Ext.refl w).al _) (Nat.le_refl _) (by simp) (Blk.al w [.bool b] _)
theorem bdW (hk : K (.agg #[.bool b]) w) : Bd Tryz.prog tW [(0, .bool b)] w K := by
 ((try simp -dsimp [go_sem]); repeat (simp -dsimp (disch := omega) only [gL, gI]; try simp -dsimp [go_sem]))
 exact hk
theorem ncP (hk : K (pt g) w) : Nc (pt g) w K := by
 ((try simp -dsimp [go_sem]); repeat (simp -dsimp (disch := omega) only [gL, gI]; try simp -dsimp [go_sem]))
 exact hk
theorem flW (h : Blk w g tW [.bool b]) (hk : K (.bool b) w) : Fa Tryz.prog tW (pt g) 0 w fun t w => Ld Tryz.prog 4 t w K := by
 ((try simp -dsimp [go_sem, h.cell (i := 0) rfl]); repeat (simp -dsimp (disch := omega) only [gL, gI]; try simp -dsimp [go_sem, h.cell (i := 0) rfl]))
 exact hk
theorem fsW (h : Blk w g tW [.bool b]) (hk : ∀ w', Own g w w' → Blk w' g tW [.bool b'] → KW w') : Fa Tryz.prog tW (pt g) 0 w fun t w => Sto Tryz.prog 4 t (.bool b') w KW := by
 ((try simp -dsimp [go_sem, h.cell (i := 0) rfl, h.frz 0]); repeat (simp -dsimp (disch := omega) only [gL, gI]; try simp -dsimp [go_sem, h.cell (i := 0) rfl, h.frz 0]))
 exact hk _ (.set g 0 w _) (h.set1 _)
end
def DoP (g : Nat) (w : World) (v : Value) (b : Bool) (r : Value) (w' : World) : Prop := r = v ∧ Own g w w' ∧ Blk w' g tW [.bool b]
section
variable {w : World} {g : Nat} {b : Bool} (h : Blk w g tW [.bool b])
include h
theorem c_do {f : FuncId} {s t A : List UInt8} {e : Int} (hn : Enters Tryz.prog f) (hc : Calls Tryz.prog f #[str s, str t] w (Ret fun r w' => Ext w w' ∧ r = .tuple #[str A, .int .i64 e])) :
 Calls Tryz.prog 73 #[pt g, .func (.func f) #[] #[], str s, str t] w (Ret (DoP g w (str (doA b A)) (doB b e))) := by
 cases b with
 | true =>
  apply e_rational_work_do
  unfold s_rational_work_do
  refine ncP ?_
  refine flW h ?_
  (refine If_T ?_)
  exact Ret.mk ⟨rfl, .refl _ _, h⟩
 | false =>
  apply e_rational_work_do
  unfold s_rational_work_do
  refine ncP ?_
  refine flW h ?_
  (refine If_F ?_)
  refine Cw_i hn (S := fun r w' => Ext w w' ∧ r = .tuple #[str A, .int .i64 e]) hc ?_
  rintro _ w1 ⟨x1, rfl⟩
  refine Ex2 ?_
  have h1 := h.ext x1
  have fin : ∀ b' : Bool, b' = (e != 0) → Nc (pt g) w1 (fun t25 w => Fa Tryz.prog 113 t25 0 w fun t26 w => Sto Tryz.prog 4 t26 (.bool b') w fun w => (Ret (DoP g w1 (str A) (e != 0))) (.returned (str A)) w) := by
   intro b' hb
   refine ncP ?_
   refine fsW h1 fun w2 o2 h2 => ?_
   subst hb
   exact Ret.mk ⟨rfl, o2, h2⟩
  have o1 : Own g w w1 := .ofExt x1 (Nat.le_of_lt h.lt)
  have imp : ∀ r w', DoP g w1 (str A) (e != 0) r w' → DoP g w (str (doA false A)) (doB false e) r w' := fun r w' ⟨h1, h2, h3⟩ => ⟨h1, o1.trans h2, h3⟩
  by_cases he : e = 0
  ·refine Bn_neF (by omega) (ncP ?_)
   refine fsW h1 fun w2 o2 h2 => ?_
   exact Ret.mk (imp _ _ ⟨rfl, o2, by rw [he]; exact h2⟩)
  ·refine Bn_neT (by omega) (ncP ?_)
   refine fsW h1 fun w2 o2 h2 => ?_
   have hb : (e != 0) = true := by simpa using he
   exact Ret.mk (imp _ _ ⟨rfl, o2, by rw [hb]; exact h2⟩)
variable {s t : List UInt8} (hs : s.length ≤ 1000000) (ht : t.length ≤ 1000000) (hT : Tab w)
include hs ht hT
omit h in
theorem c_quot1 : Calls Tryz.prog 127 #[str s, str t] w (Ret fun r w' => Ext w w' ∧ r = .tuple #[str (divA s t), .int .i64 (divE s t)]) := by
 apply e_rational_work_quotient_1
 unfold s_rational_work_quotient_1
 refine Cl3 n_integer_Div (g_Div hs ht hT) fun w1 x1 => ?_
 exact Ret.mk ⟨x1, rfl⟩
theorem c_wquot : Calls Tryz.prog 97 #[pt g, str s, str t] w (Ret (DoP g w (str (doA b (divA s t))) (doB b (divE s t)))) := by
 apply e_rational_work_quotient
 unfold s_rational_work_quotient
 refine Cl_i n_rational_work_do (c_do h n_rational_work_quotient_1 (c_quot1 hs ht hT)) fun v w1 hv => ?_
 exact Ret.mk hv
end
theorem stoR {w : World} {KW : World → Prop} {g : Nat} {a b a' b' : List UInt8} (h : Blk w g tR [str a', str b']) (hk : ∀ w', Own g w w' → Blk w' g tR [str a, str b] → KW w') : Sto Tryz.prog tR (pt g) (.agg #[str a, str b]) w KW := by
 have h1 := h.set 0 (str a)
 have h2 := h1.set 1 (str b)
 ((try simp -dsimp [go_sem, h.cell (i := 0) rfl, h.cell (i := 1) rfl, h.frz 0, h.frz 1]); repeat (simp -dsimp (disch := omega) only [gL, gI]; try simp -dsimp [go_sem, h.cell (i := 0) rfl, h.cell (i := 1) rfl, h.frz 0, h.frz 1]))
 exact hk _ ((Own.set g 0 w _).trans (Own.set g 1 _ _)) h2
theorem stoRc {w : World} {g : Nat} {a b a' b' : List UInt8} {R : Value → World → Prop} (h : Blk w g tR [str a', str b']) (hk : ∀ w', Own g w w' → R (.agg #[str a, str b]) w') :
 Sto Tryz.prog tR (pt g) (.agg #[str a, str b]) w fun w => Rc Tryz.prog tR (pt g) w fun r0 => R r0 w := by
 refine stoR h fun w' o h' => ?_
 have := hk w' o
 ((try simp -dsimp [go_sem, h'.cell (i := 0) rfl, h'.cell (i := 1) rfl]); repeat (simp -dsimp (disch := omega) only [gL, gI]; try simp -dsimp [go_sem, h'.cell (i := 0) rfl, h'.cell (i := 1) rfl]))
 exact this
def RedP (g : Nat) (w : World) (t : R3) (r : Value) (w' : World) : Prop := Own g w w' ∧ r = rv t
theorem c_reduced_bad {w : World} {g : Nat} {n d : List UInt8} (h : Blk w g tW [.bool true]) : Calls Tryz.prog 69 #[pt g, str n, str d] w (Ret (RedP g w rBad)) := by
 apply e_rational_work_reduced
 unfold s_rational_work_reduced
 refine alR fun g6 w1 x1 hg6 _ b6 => ?_
 have o1 : Own g w w1 := .ofExt x1 (Nat.le_of_lt h.lt)
 refine ncP ?_
 refine flW (h.ext x1) ?_
 (refine Gd_TF ?_; refine Gd_TF ?_; refine Pick_T ?_; refine If_T ?_)
 refine bdR0 ?_
 refine stoRc b6 fun w2 o2 => ?_
 have x2 : Ext w w2 := o2.ext x1 hg6
 exact Ret.mk ⟨.ofExt x2 (Nat.le_of_lt h.lt), rfl⟩
theorem c_reduced_zero {w : World} {g : Nat} {n : List UInt8} (h : Blk w g tW [.bool false]) : Calls Tryz.prog 69 #[pt g, str n, str [48]] w (Ret (RedP g w rBad)) := by
 apply e_rational_work_reduced
 unfold s_rational_work_reduced
 refine alR fun g6 w1 x1 hg6 _ b6 => ?_
 refine ncP ?_
 refine flW (h.ext x1) ?_
 (refine Gd_F ?_; refine Gd_F ?_; refine Bn_eqST ?_; refine Pick_F ?_; refine If_T ?_)
 refine bdR0 ?_
 refine stoRc b6 fun w2 o2 => ?_
 have x2 : Ext w w2 := o2.ext x1 hg6
 exact Ret.mk ⟨.ofExt x2 (Nat.le_of_lt h.lt), rfl⟩
theorem c_do' {w : World} {g : Nat} {f : FuncId} {s t A : List UInt8} (h : Blk w g tW [.bool false]) (hn : Enters Tryz.prog f) (hc : Calls Tryz.prog f #[str s, str t] w (Ret fun r w' => Ext w w' ∧ r = .tuple #[str A, .int .i64 0])) :
 Calls Tryz.prog 73 #[pt g, .func (.func f) #[] #[], str s, str t] w (Ret (DoP g w (str A) false)) := c_do h hn hc
theorem c_wquot' {w : World} {g : Nat} {x y : Int} (h : Blk w g tW [.bool false]) (hx : x.natAbs < MaxI) (hy : y.natAbs < MaxI) (hy0 : y ≠ 0) (hT : Tab w) :
 Calls Tryz.prog 97 #[pt g, str (Lib.itoa x), str (Lib.itoa y)] w (Ret (DoP g w (str (Lib.itoa (x / y))) false)) := by
 have := c_wquot h (itoa_ok hx) (itoa_ok hy) hT
 rw [divA_ok hx hy hy0, divE_ok hx hy hy0] at this
 exact this
theorem k_Sub0 {x : Int} {w : World} (hx : x.natAbs < MaxI) (ht : Tab w) : Calls Tryz.prog 96 #[str [48], str (Lib.itoa x)] w (Ret fun r w' => Ext w w' ∧ r = .tuple #[str (Lib.itoa (-x)), .int .i64 0]) := by
 have := k_Sub (w := w) (x := 0) (y := x) (s := -x) m0 hx (by omega) ht (by omega)
 rwa [itoa0] at this
theorem c_reduced {w : World} {g : Nat} {x y : Int} (h : Blk w g tW [.bool false]) (hx : x.natAbs < MaxI) (hy : y.natAbs < MaxI) (hgT : ∀ W, Own g w W → Tab W) : Calls Tryz.prog 69 #[pt g, str (Lib.itoa x), str (Lib.itoa y)] w (Ret (RedP g w (makeQ x y))) := by
 by_cases hy0 : y = 0
 ·subst hy0
  have := c_reduced_zero (n := Lib.itoa x) h
  rw [← itoa0] at this
  exact this
 have hz := not0 hy0
 have hG : (Int.gcd (sgnTo y x) (sgnTo y y) : Int) = (Int.gcd x y : Int) := by rw [sgnTo_gcd]
 have hg0 := gcd_pos' (n := x) hy0
 have hgm := gcd_max hx hy
 have hsx : (sgnTo y x).natAbs < MaxI := by rw [sgnTo_abs]; exact hx
 have hsy : (sgnTo y y).natAbs < MaxI := by rw [sgnTo_abs]; exact hy
 have e : makeQ x y = rLo x y := by unfold makeQ; rw [if_neg hy0, rLo_q hy0]
 rw [e]
 apply e_rational_work_reduced
 unfold s_rational_work_reduced
 refine alR fun g6 w1 x1 hg6 _ b6 => ?_
 have h1 := h.ext x1
 have o1 : Own g w w1 := .ofExt x1 (Nat.le_of_lt h.lt)
 have hne : g6 ≠ g := by have := h.lt; omega
 refine ncP ?_
 refine flW h1 ?_
 (refine Gd_F ?_; refine Gd_F ?_; (refine Bn_eqSF ?_ ?_; focus assumption); refine Pick_F ?_; refine If_F ?_)
 refine Jn2.mk ?_
 intro K hK
 have back : ∀ W, Own g w1 W → Blk W g tW [.bool false] → K (str (Lib.itoa (sgnTo y x))) (str (Lib.itoa (sgnTo y y))) W := by
  intro W o hW
  refine hK _ _ W ?_
  have c := k_GcdR (w := W) hsx hsy (hgT W (o1.trans o))
  rw [hG] at c
  refine Cl_i n_rational_work_do (c_do' hW n_integer_Gcd c) ?_
  rintro _ W1 ⟨rfl, o2, hW1⟩
  refine Cl_i n_rational_work_quotient (c_wquot' hW1 hsx hgm (by omega) (hgT W1 (o1.trans (o.trans o2)))) ?_
  rintro _ W2 ⟨rfl, o3, hW2⟩
  refine Cl_i n_rational_work_quotient (c_wquot' hW2 hsy hgm (by omega) (hgT W2 (o1.trans ((o.trans o2).trans o3)))) ?_
  rintro _ W4 ⟨rfl, o4', hW4⟩
  refine bdR ?_
  have o4 : Own g w1 W4 := ((o.trans o2).trans o3).trans o4'
  have b64 := blkOwn b6 hne o4
  refine alR fun g9 W5 x5 hg9 _ b9 => ?_
  refine stoR b9 fun W6 o6 b9' => ?_
  have x6 : Ext W4 W6 := o6.ext x5 hg9
  have hW6 := hW4.ext x6
  refine ncP ?_
  refine flW hW6 ?_
  (refine If_F ?_)
  refine ldR b9' ?_
  refine stoRc (b64.ext x6) fun W7 o7 => ?_
  have x7 : ∀ k, k ≠ g → k < w.heap.size → W7.heap[k]? = w.heap[k]? := by
   intro k hk hks
   have s1 := x1.size
   have s4 := o4.below.size
   have s6 := x6.size
   rw [o7.other k (by omega) (by omega), x6.block k (by omega), o4.other k hk (by omega), x1.block k hks]
  refine Ret.mk ⟨⟨?_, x7⟩, rfl⟩
  have hgl := h.lt
  have s1 := x1.size
  have s4 := o4.below.size
  exact (((o1.below).trans (o4.below)).trans (x6.mono (by omega))).trans (o7.below.mono (by omega))
 by_cases hneg : y < 0
 ·have e1 : sgnTo y x = -x := by unfold sgnTo; rw [if_pos hneg]
  have e2 : sgnTo y y = -y := by unfold sgnTo; rw [if_pos hneg]
  rw [e1, e2] at back
  refine Cl1 n_integer_Compare (k_Cmp0 hy (cmpI_lt hneg)) fun w2 x2 => ?_
  have h2 := h1.ext x2
  have o2 : Own g w1 w2 := .ofExt x2 (Nat.le_of_lt h1.lt)
  ((refine Bn_ltT ?_ ?_; focus omega); refine If_T ?_)
  refine Cl_i n_rational_work_do (c_do' h2 n_integer_Sub (k_Sub0 hx (hgT w2 (o1.trans o2)))) ?_
  rintro _ w3 ⟨rfl, o3, h3⟩
  refine Cl_i n_rational_work_do (c_do' h3 n_integer_Sub (k_Sub0 hy (hgT w3 (o1.trans (o2.trans o3))))) ?_
  rintro _ w4 ⟨rfl, o4, h4⟩
  exact back w4 ((o2.trans o3).trans o4) h4
 ·have e1 : sgnTo y x = x := by unfold sgnTo; rw [if_neg hneg]
  have e2 : sgnTo y y = y := by unfold sgnTo; rw [if_neg hneg]
  rw [e1, e2] at back
  refine Cl1 n_integer_Compare (k_Cmp0 hy rfl) fun w2 x2 => ?_
  have h2 := h1.ext x2
  have o2 : Own g w1 w2 := .ofExt x2 (Nat.le_of_lt h1.lt)
  have := cmpI_ge (x := y) (y := 0) (by omega)
  ((refine Bn_ltF ?_ ?_; focus omega); refine If_F ?_)
  exact back w2 o2 h2
noncomputable def makeS (n d : List UInt8) : R3 := if validB n && validB d then makeQ (zOf n) (zOf d) else rBad
theorem makeS_ok {x y : Int} (hx : x.natAbs < MaxI) (hy : y.natAbs < MaxI) : makeS (Lib.itoa x) (Lib.itoa y) = makeQ x y := by
 unfold makeS; rw [valid_ok hx, valid_ok hy, zOf_itoa hx, zOf_itoa hy]; rfl
theorem makeS_bad {n d : List UInt8} (h : (validB n && validB d) = false) : makeS n d = rBad := by unfold makeS; rw [h]; rfl
section
variable {n d m c : List UInt8} {w : World} (hn : n.length ≤ 1000000) (hd : d.length ≤ 1000000) (hm : m.length ≤ 1000000) (hc : c.length ≤ 1000000) (hT : Tab w)
include hn hd hT
theorem c_Make : Calls Tryz.prog 44 #[str n, str d] w (Ret fun r w' => Ext w w' ∧ r = rv (makeS n d)) := by
 by_cases hv : validB n = true
 ·by_cases hv' : validB d = true
  ·obtain ⟨p, hp, rfl⟩ := valid_ex hv
   obtain ⟨q, hq, rfl⟩ := valid_ex hv'
   rw [makeS_ok hp hq]
   apply e_rational_Make
   unfold s_rational_Make
   refine alR fun g4 w1 x1 hg4 hg4' b4 => ?_
   refine Cl1 n_integer_Valid (sanV hn hv) fun w2 x2 => ?_
   (refine Un_T ?_; refine Gd_F ?_; refine Gd_F ?_)
   refine Cl1 n_integer_Valid (sanV hd hv') fun w3 x3 => ?_
   (refine Gd_F ?_; refine Un_T ?_; refine Pick_F ?_)
   refine bdW ?_
   refine bxW fun g w4 x4 hg _ h4 => ?_
   have xx := ((x1.tr x2).tr x3).tr x4
   have b44 := ((b4.ext x2).ext x3).ext x4
   have hw0 : w.heap.size ≤ g := by have := x1.size; have := x2.size; have := x3.size; omega
   have hne : g4 ≠ g := by have := ((b4.ext x2).ext x3).lt; omega
   refine Cl_i n_rational_work_reduced (c_reduced h4 hp hq (fun W o => hT.ext (o.ext xx hw0))) ?_
   rintro _ W ⟨o, rfl⟩
   refine Ex2 (stoRc (blkOwn b44 hne o) fun W2 o2 => ?_)
   exact Ret.mk ⟨o2.ext (o.ext xx hw0) hg4, rfl⟩
  ·have hv2 : validB d = false := by simpa using hv'
   rw [makeS_bad (by rw [hv, hv2]; rfl)]
   apply e_rational_Make
   unfold s_rational_Make
   refine alR fun g4 w1 x1 hg4 hg4' b4 => ?_
   refine Cl1 n_integer_Valid (sanV hn hv) fun w2 x2 => ?_
   (refine Un_T ?_; refine Gd_F ?_; refine Gd_F ?_)
   refine Cl1 n_integer_Valid (sanV hd hv2) fun w3 x3 => ?_
   (refine Gd_F ?_; refine Un_F ?_; refine Pick_F ?_)
   refine bdW ?_
   refine bxW fun g w4 x4 hg _ h4 => ?_
   have xx := ((x1.tr x2).tr x3).tr x4
   have b44 := ((b4.ext x2).ext x3).ext x4
   have hw0 : w.heap.size ≤ g := by have := x1.size; have := x2.size; have := x3.size; omega
   have hne : g4 ≠ g := by have := ((b4.ext x2).ext x3).lt; omega
   refine Cl_i n_rational_work_reduced (c_reduced_bad h4) ?_
   rintro _ W ⟨o, rfl⟩
   refine Ex2 (stoRc (blkOwn b44 hne o) fun W2 o2 => ?_)
   exact Ret.mk ⟨o2.ext (o.ext xx hw0) hg4, rfl⟩
 ·have hv2 : validB n = false := by simpa using hv
  rw [makeS_bad (by rw [hv2]; rfl)]
  apply e_rational_Make
  unfold s_rational_Make
  refine alR fun g4 w1 x1 hg4 hg4' b4 => ?_
  refine Cl1 n_integer_Valid (sanV hn hv2) fun w2 x2 => ?_
  (refine Un_F ?_; refine Gd_TF ?_; refine Gd_TF ?_; refine Gd_TF ?_; refine Pick_T ?_)
  refine bdW ?_
  refine bxW fun g w4 x4 hg _ h4 => ?_
  have xx := (x1.tr x2).tr x4
  have b44 := (b4.ext x2).ext x4
  have hw0 : w.heap.size ≤ g := by have := x1.size; have := x2.size; omega
  have hne : g4 ≠ g := by have := (b4.ext x2).lt; omega
  refine Cl_i n_rational_work_reduced (c_reduced_bad h4) ?_
  rintro _ W ⟨o, rfl⟩
  refine Ex2 (stoRc (blkOwn b44 hne o) fun W2 o2 => ?_)
  exact Ret.mk ⟨o2.ext (o.ext xx hw0) hg4, rfl⟩
omit hn hd in
theorem c_Of {x y : Int} (hx0 : -9223372036854775808 ≤ x) (hx1 : x ≤ 9223372036854775807) (hy0 : -9223372036854775808 ≤ y) (hy1 : y ≤ 9223372036854775807) :
 Calls Tryz.prog 21 #[.int .i64 x, .int .i64 y] w (Ret fun r w' => Ext w w' ∧ r = rv (makeQ x y)) := by
 have mx := i64M hx0 hx1
 have my := i64M hy0 hy1
 apply e_rational_Of
 unfold s_rational_Of
 refine alR fun g4 w1 x1 hg4 hg4' b4 => ?_
 refine Cl1 n_integer_FromInt (c_FromInt hx0 hx1 (hT.ext x1)) fun w2 x2 => ?_
 refine Cl1 n_integer_FromInt (c_FromInt hy0 hy1 ((hT.ext x1).ext x2)) fun w3 x3 => ?_
 have cm := c_Make (itoa_ok mx) (itoa_ok my) (((hT.ext x1).ext x2).ext x3)
 rw [makeS_ok mx my] at cm
 refine Cl2 n_rational_Make cm fun w4 x4 => ?_
 have xx := ((x1.tr x2).tr x3).tr x4
 refine stoRc (((b4.ext x2).ext x3).ext x4) fun W2 o2 => ?_
 exact Ret.mk ⟨o2.ext xx hg4, rfl⟩
end
end Go.Proofs.YtjgjeccfhmlcnaaGreatDoor
