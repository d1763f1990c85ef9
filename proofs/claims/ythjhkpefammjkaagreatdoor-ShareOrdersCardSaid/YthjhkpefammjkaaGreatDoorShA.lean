/-
  Contracts and plain lemmas. By an AI agent.
-/
import Derived.Test.YthjhkpefammjkaaGreatDoorEsA
import Derived.Test.YthjhkpefammjkaaGreatDoorTyp
import Derived.Test.YthjhkpefammjkaaGreatDoorPlain
set_option linter.unusedSimpArgs false
set_option linter.unusedVariables false
set_option linter.unusedSectionVars false
namespace Go.Proofs.YthjhkpefammjkaaGreatDoor
open Go Go.Eng Go.Proofs Go.Num Go.RowKit Go.Shr
set_option maxRecDepth 100000
theorem take_snoc {α : Type} {l : List α} {j : Nat} {a : α} (h : l[j]? = some a) : l.take (j + 1) = l.take j ++ [a] := by
 rw [List.take_add_one, h]; rfl
abbrev fI (x : Int) : List Value := [.int .i64 x]
abbrev wOk (x : Int) : Prop := -1125899906842624 ≤ x ∧ x ≤ 1125899906842624
theorem c_worth1 {w : World} {x : Int} : Calls Tryz.prog 83 #[.int .i64 x] w (Ret fun r w' => Ext w w' ∧ r = .bool (!decide (wOk x))) := by
 by_cases a : x < -1125899906842624
 ·rw [show decide (wOk x) = false from decide_eq_false fun h => by have := h.1; omega]
  apply e_share_worth_1
  unfold s_share_worth_1
  have h := Hp.init [] w
  refine Bn_ltT (by omega) (Gd_TF (Gd_TF (Pick_T ?_)))
  exact Ret.mk ⟨h.ext, rfl⟩
 by_cases b : x ≤ 1125899906842624
 ·rw [show decide (wOk x) = true from decide_eq_true ⟨by omega, b⟩]
  apply e_share_worth_1
  unfold s_share_worth_1
  have h := Hp.init [] w
  refine Bn_ltF (by omega) (Gd_F (Gd_F (Bn_gtF (by omega) (Pick_F ?_))))
  exact Ret.mk ⟨h.ext, rfl⟩
 ·rw [show decide (wOk x) = false from decide_eq_false fun h => b h.2]
  apply e_share_worth_1
  unfold s_share_worth_1
  have h := Hp.init [] w
  refine Bn_ltF (by omega) (Gd_F (Gd_F (Bn_gtT (by omega) (Pick_F ?_))))
  exact Ret.mk ⟨h.ext, rfl⟩
abbrev szOk (x : Int) : Prop := 1 ≤ x ∧ x ≤ 10
theorem c_Merged1 {w : World} {x : Int} : Calls Tryz.prog 56 #[.int .i64 x] w (Ret fun r w' => Ext w w' ∧ r = .bool (!decide (szOk x))) := by
 by_cases a : x < 1
 ·rw [show decide (szOk x) = false from decide_eq_false fun h => by have := h.1; omega]
  apply e_share_Merged_1
  unfold s_share_Merged_1
  have h := Hp.init [] w
  refine Bn_ltT (by omega) (Gd_TF (Gd_TF (Pick_T ?_)))
  exact Ret.mk ⟨h.ext, rfl⟩
 by_cases b : x ≤ 10
 ·rw [show decide (szOk x) = true from decide_eq_true ⟨by omega, b⟩]
  apply e_share_Merged_1
  unfold s_share_Merged_1
  have h := Hp.init [] w
  refine Bn_ltF (by omega) (Gd_F (Gd_F (Bn_gtF (by omega) (Pick_F ?_))))
  exact Ret.mk ⟨h.ext, rfl⟩
 ·rw [show decide (szOk x) = false from decide_eq_false fun h => b h.2]
  apply e_share_Merged_1
  unfold s_share_Merged_1
  have h := Hp.init [] w
  refine Bn_ltF (by omega) (Gd_F (Gd_F (Bn_gtT (by omega) (Pick_F ?_))))
  exact Ret.mk ⟨h.ext, rfl⟩
section
variable {w0 : World} {v : Value} {l : List Int} (hv : SlC w0 1 v l.length (l.flatMap fI)) (hl : l.length ≤ 9223372036854775807)
include hv hl
theorem c_IndexFw : Calls Tryz.prog 82 #[v, .func (.func 83) #[] #[]] w0 (Ret fun r w' => Ext w0 w' ∧ ∃ z : Int, r = .int .i64 z ∧ (z < 0 ↔ ∀ x ∈ l, wOk x) ∧ -1 ≤ z ∧ z ≤ 9223372036854775807) := by
 apply e_slices_IndexFunc_int_int
 unfold s_slices_IndexFunc_int_int
 have h := Hp.init [] w0
 refine leS (hv.hp h) ?_
 refine Lp1.mk (fun i W => ∃ j : Nat, j ≤ l.length ∧ i = .int .i64 j ∧ (∀ x ∈ l.take j, wOk x) ∧ Hp [] w0 W [])
  (fun i _ => match i with | .int _ i' => l.length - i'.toNat | _ => 0) ⟨0, by omega, rfl, by simp, h⟩ ?_
 clear h
 rintro _ W ⟨j, hj, rfl, hall, h⟩
 by_cases hjl : j < l.length
 ·refine Exists.elim (p := fun x => l[j]? = some x) ⟨_, List.getElem?_eq_getElem hjl⟩ fun x hx => ?_
  have sx : Seg (l.flatMap fI) (j * 1) (fI x) := flat_seg (f := fI) (fun _ => rfl) hx
  by_cases a : wOk x
  ·have cc1 : ∀ {W : World}, Ext w0 W → Calls Tryz.prog 83 #[.int .i64 x] W (Ret fun r w' => Ext W w' ∧ r = .bool false) := fun {W} _ => by
    have := c_worth1 (w := W) (x := x)
    rw [decide_eq_true a] at this; exact this
   refine Bn_ltT (by omega) (If_T (iaH h ‹_› (by omega) fun zb zo zk zv zc => ?_))
   refine lh0 h ‹_› ‹_› (by rfl) ?_
   refine cw1 h n_share_worth_1 (cc1 h.ext) fun w h => ?_
   refine If_F (Bn_ad (by omega) (by omega) ?_)
   refine ⟨⟨j + 1, by omega, rfl, fun y hy => ?_, h⟩, by show l.length - ((j : Int) + 1).toNat < l.length - (j : Int).toNat; omega⟩
   rw [take_snoc hx] at hy
   rcases List.mem_append.1 hy with hy | hy
   ·exact hall y hy
   ·simp at hy; subst hy; exact a
  ·have cc1 : ∀ {W : World}, Ext w0 W → Calls Tryz.prog 83 #[.int .i64 x] W (Ret fun r w' => Ext W w' ∧ r = .bool true) := fun {W} _ => by
    have := c_worth1 (w := W) (x := x)
    rw [decide_eq_false a] at this; exact this
   refine Bn_ltT (by omega) (If_T (iaH h ‹_› (by omega) fun zb zo zk zv zc => ?_))
   refine lh0 h ‹_› ‹_› (by rfl) ?_
   refine cw1 h n_share_worth_1 (cc1 h.ext) fun w h => ?_
   refine If_T ?_
   exact Ret.mk ⟨h.ext, j, rfl, ⟨fun h => by omega, fun h => absurd (h x (List.mem_of_getElem? hx)) a⟩, by omega, by omega⟩
 rw [List.take_of_length_le (by omega)] at hall
 refine Bn_ltF (by omega) (If_F ?_)
 exact Ret.mk ⟨h.ext, -1, rfl, ⟨fun _ => hall, fun _ => by decide⟩, by decide, by decide⟩
theorem c_ContFw {b : Bool} (hb : b = true ↔ ¬ ∀ x ∈ l, wOk x) : Calls Tryz.prog 57 #[v, .func (.func 83) #[] #[]] w0 (Ret fun r w' => Ext w0 w' ∧ r = .bool b) := by
 apply e_slices_ContainsFunc_int_int
 unfold s_slices_ContainsFunc_int_int
 have h := Hp.init [] w0
 refine Cl_i n_slices_IndexFunc_int_int (c_IndexFw hv hl) ?_
 rintro _ w' ⟨x, z, rfl, hz, z1, z2⟩
 have h := h.x x
 by_cases h0 : z < 0
 ·have e : b = false := by
   cases b
   ·rfl
   ·exact absurd (hz.1 h0) (hb.1 rfl)
  subst e
  refine Bn_geF (by omega) ?_
  exact Ret.mk ⟨h.ext, rfl⟩
 ·have e : b = true := hb.2 fun x => h0 (hz.2 x)
  subst e
  refine Bn_geT (by omega) ?_
  exact Ret.mk ⟨h.ext, rfl⟩
end
section
variable {w0 : World} {v : Value} {l : List Int} (hv : SlC w0 1 v l.length (l.flatMap fI)) (hl : l.length ≤ 9223372036854775807)
include hv hl
theorem c_IndexFm : Calls Tryz.prog 82 #[v, .func (.func 56) #[] #[]] w0 (Ret fun r w' => Ext w0 w' ∧ ∃ z : Int, r = .int .i64 z ∧ (z < 0 ↔ ∀ x ∈ l, szOk x) ∧ -1 ≤ z ∧ z ≤ 9223372036854775807) := by
 apply e_slices_IndexFunc_int_int
 unfold s_slices_IndexFunc_int_int
 have h := Hp.init [] w0
 refine leS (hv.hp h) ?_
 refine Lp1.mk (fun i W => ∃ j : Nat, j ≤ l.length ∧ i = .int .i64 j ∧ (∀ x ∈ l.take j, szOk x) ∧ Hp [] w0 W [])
  (fun i _ => match i with | .int _ i' => l.length - i'.toNat | _ => 0) ⟨0, by omega, rfl, by simp, h⟩ ?_
 clear h
 rintro _ W ⟨j, hj, rfl, hall, h⟩
 by_cases hjl : j < l.length
 ·refine Exists.elim (p := fun x => l[j]? = some x) ⟨_, List.getElem?_eq_getElem hjl⟩ fun x hx => ?_
  have sx : Seg (l.flatMap fI) (j * 1) (fI x) := flat_seg (f := fI) (fun _ => rfl) hx
  by_cases a : szOk x
  ·have cc1 : ∀ {W : World}, Ext w0 W → Calls Tryz.prog 56 #[.int .i64 x] W (Ret fun r w' => Ext W w' ∧ r = .bool false) := fun {W} _ => by
    have := c_Merged1 (w := W) (x := x)
    rw [decide_eq_true a] at this; exact this
   refine Bn_ltT (by omega) (If_T (iaH h ‹_› (by omega) fun zb zo zk zv zc => ?_))
   refine lh0 h ‹_› ‹_› (by rfl) ?_
   refine cw1 h n_share_Merged_1 (cc1 h.ext) fun w h => ?_
   refine If_F (Bn_ad (by omega) (by omega) ?_)
   refine ⟨⟨j + 1, by omega, rfl, fun y hy => ?_, h⟩, by show l.length - ((j : Int) + 1).toNat < l.length - (j : Int).toNat; omega⟩
   rw [take_snoc hx] at hy
   rcases List.mem_append.1 hy with hy | hy
   ·exact hall y hy
   ·simp at hy; subst hy; exact a
  ·have cc1 : ∀ {W : World}, Ext w0 W → Calls Tryz.prog 56 #[.int .i64 x] W (Ret fun r w' => Ext W w' ∧ r = .bool true) := fun {W} _ => by
    have := c_Merged1 (w := W) (x := x)
    rw [decide_eq_false a] at this; exact this
   refine Bn_ltT (by omega) (If_T (iaH h ‹_› (by omega) fun zb zo zk zv zc => ?_))
   refine lh0 h ‹_› ‹_› (by rfl) ?_
   refine cw1 h n_share_Merged_1 (cc1 h.ext) fun w h => ?_
   refine If_T ?_
   exact Ret.mk ⟨h.ext, j, rfl, ⟨fun h => by omega, fun h => absurd (h x (List.mem_of_getElem? hx)) a⟩, by omega, by omega⟩
 rw [List.take_of_length_le (by omega)] at hall
 refine Bn_ltF (by omega) (If_F ?_)
 exact Ret.mk ⟨h.ext, -1, rfl, ⟨fun _ => hall, fun _ => by decide⟩, by decide, by decide⟩
theorem c_ContFm {b : Bool} (hb : b = true ↔ ¬ ∀ x ∈ l, szOk x) : Calls Tryz.prog 57 #[v, .func (.func 56) #[] #[]] w0 (Ret fun r w' => Ext w0 w' ∧ r = .bool b) := by
 apply e_slices_ContainsFunc_int_int
 unfold s_slices_ContainsFunc_int_int
 have h := Hp.init [] w0
 refine Cl_i n_slices_IndexFunc_int_int (c_IndexFm hv hl) ?_
 rintro _ w' ⟨x, z, rfl, hz, z1, z2⟩
 have h := h.x x
 by_cases h0 : z < 0
 ·have e : b = false := by
   cases b
   ·rfl
   ·exact absurd (hz.1 h0) (hb.1 rfl)
  subst e
  refine Bn_geF (by omega) ?_
  exact Ret.mk ⟨h.ext, rfl⟩
 ·have e : b = true := hb.2 fun x => h0 (hz.2 x)
  subst e
  refine Bn_geT (by omega) ?_
  exact Ret.mk ⟨h.ext, rfl⟩
end
section
variable {w0 : World} {v : Value} {l : List Int} (hv : SlC w0 1 v l.length (l.flatMap fI)) (hl : l.length ≤ 9223372036854775807)
include hv hl
theorem c_worth {b : Bool} (hb : b = true ↔ ∀ x ∈ l, wOk x) : Calls Tryz.prog 58 #[v] w0 (Ret fun r w' => Ext w0 w' ∧ r = .bool b) := by
 cases b
 ·have cc1 := fun {W : World} (e : Ext w0 W) => c_ContFw (w0 := W) (hv.ext e) hl (b := true) (by simp_all)
  apply e_share_worth
  unfold s_share_worth
  have h := Hp.init [] w0
  refine cl1 h n_slices_ContainsFunc_int_int (cc1 h.ext) fun w h => ?_
  refine Un_T ?_
  exact Ret.mk ⟨h.ext, rfl⟩
 ·have cc1 := fun {W : World} (e : Ext w0 W) => c_ContFw (w0 := W) (hv.ext e) hl (b := false) (by simp_all)
  apply e_share_worth
  unfold s_share_worth
  have h := Hp.init [] w0
  refine cl1 h n_slices_ContainsFunc_int_int (cc1 h.ext) fun w h => ?_
  refine Un_F ?_
  exact Ret.mk ⟨h.ext, rfl⟩
end
section
variable {x y : Int} {w : World} {K : Value → World → Prop}
theorem Cv_a (h0 : 0 ≤ x) (h1 : x ≤ 9223372036854775807) (hk : K (.int .u64 x) w) : Cv Tryz.prog 3 98 (.int .i64 x) w K :=
 Cv_i (by rw [Tryz.underlying3]; rfl) Tryz.underlying98 (wu64 (by omega) (by omega)) hk
theorem Cv_b (h0 : 0 ≤ x) (h1 : x ≤ 9223372036854775807) (hk : K (.int .i64 x) w) : Cv Tryz.prog 126 3 (.int .u64 x) w K :=
 Cv_i (by rw [Tryz.underlying126]; rfl) Tryz.underlying3 (w64 (by omega) (by omega)) hk
end
theorem c_Len {w : World} {m : Nat} (hm : m ≤ 9223372036854775807) : Calls Tryz.prog 68 #[.int .u64 (m : Int)] w (Ret fun r w' => Ext w w' ∧ r = .int .i64 (Lib.bitLen m)) := by
 refine (Tryz.bits_Len (m : Int) w (by omega) (by omega)).mono ?_
 rintro _ w' ⟨rfl, rfl⟩
 exact Ret.mk ⟨.refl _, rfl⟩
section
variable {P : Program} {t : TypeId} {c : Bool} {K : Value → World → Prop} {w : World}
theorem Bn_shc {x : Int} {j s : Nat} (hx : x = (j : Int)) (hj : j < 62) (hs : 2 ^ j = s) (hk : K (.int .i64 (s : Int)) w) : Bn P .shl t c (.int .i64 1) (.int .i64 x) w K := by
 subst hx; exact Bn_slA hj hs hk
end
theorem bitLen_pow : ∀ {n : Nat}, n ≤ 6 → Lib.bitLen (2 ^ n) = n + 1 := by
 intro n hn
 rcases (show n = 0 ∨ n = 1 ∨ n = 2 ∨ n = 3 ∨ n = 4 ∨ n = 5 ∨ n = 6 by omega) with rfl | rfl | rfl | rfl | rfl | rfl | rfl <;> decide +kernel
theorem bitLenAux_le : ∀ (f x : Nat), Lib.bitLenAux f x ≤ f
 | 0, _ => Nat.le_refl _
 | f + 1, x => by
  unfold Lib.bitLenAux
  split
  ·omega
  ·have := bitLenAux_le f (x / 2); omega
theorem bitLen_le (x : Nat) : Lib.bitLen x ≤ 64 := bitLenAux_le 64 x
section
variable {w0 : World} {v : Value} {l : List Int} (hv : SlC w0 1 v l.length (l.flatMap fI)) (hl : l.length ≤ 9223372036854775807)
include hv hl
theorem c_causesT {n : Nat} (hn : n ≤ 6) (hln : l.length = 2 ^ n) (hw : ∀ x ∈ l, wOk x) : Calls Tryz.prog 38 #[v] w0 (Ret fun r w' => Ext w0 w' ∧ r = .tuple #[.int .i64 n, .bool true]) := by
 have cc2 := fun {W : World} (e : Ext w0 W) => c_worth (w0 := W) (hv.ext e) hl (b := true) (by simpa using hw)
 have hk : Lib.bitLen l.length = n + 1 := by rw [hln]; exact bitLen_pow hn
 have cc1 : ∀ {W : World}, Ext w0 W → Calls Tryz.prog 68 #[.int .u64 (l.length : Int)] W (Ret fun r w' => Ext W w' ∧ r = .int .i64 ((n + 1 : Nat) : Int)) := fun {W} _ => by
  have := c_Len (w := W) hl
  rw [hk] at this; exact this
 have e : ((n + 1 : Nat) : Int) - 1 = n := by omega
 apply e_share_causes
 unfold s_share_causes
 have h := Hp.init [] w0
 refine leS (hv.hp h) ?_
 refine Cv_a (by omega) (by omega) ?_
 refine cl1 h n_math_bits_Len (cc1 h.ext) fun w h => ?_
 refine Bn_su (by omega) (by omega) (Bn_geT (by omega) (Gd_T (Gd_T (Bn_leT (by omega) (Pick_T (Gd_T (Gd_T (leS (hv.hp h) ?_))))))))
 refine Gd_T (Gd_T (Bn_shc (j := n) (s := l.length) (by omega) (by omega) hln.symm ?_))
 refine Gd_T (Bn_eqT (by omega) (Pick_T (Gd_T (Gd_T (cl1 h n_share_worth (cc2 h.ext) fun w h => ?_)))))
 refine Pick_T ?_
 exact Ret.mk ⟨h.ext, by rw [e]⟩
theorem c_causesF (hno : ¬ ∃ n, n ≤ 6 ∧ l.length = 2 ^ n ∧ ∀ x ∈ l, wOk x) : Calls Tryz.prog 38 #[v] w0 (Ret fun r w' => Ext w0 w' ∧ ∃ z : Int, r = .tuple #[.int .i64 z, .bool false]) := by
 refine Exists.elim (p := fun k => k = Lib.bitLen l.length) ⟨_, rfl⟩ fun k hk => ?_
 have cc1 : ∀ {W : World}, Ext w0 W → Calls Tryz.prog 68 #[.int .u64 (l.length : Int)] W (Ret fun r w' => Ext W w' ∧ r = .int .i64 (k : Int)) := fun {W} _ => by
  have := c_Len (w := W) hl
  rw [← hk] at this; exact this
 have hk64 : k ≤ 64 := by rw [hk]; exact bitLen_le l.length
 clear hk
 by_cases h0 : k = 0
 ·apply e_share_causes
  unfold s_share_causes
  have h := Hp.init [] w0
  refine leS (hv.hp h) ?_
  refine Cv_a (by omega) (by omega) ?_
  refine cl1 h n_math_bits_Len (cc1 h.ext) fun w h => ?_
  refine Bn_su (by omega) (by omega) (Bn_geF (by omega) (Gd_FT (Gd_FT (Pick_F (Gd_FT (Gd_FT (Gd_FT (Gd_FT (Gd_FT (Pick_F (Gd_FT (Gd_FT (Pick_F ?_)))))))))))))
  exact Ret.mk ⟨h.ext, _, rfl⟩
 by_cases h7 : 7 < k
 ·apply e_share_causes
  unfold s_share_causes
  have h := Hp.init [] w0
  refine leS (hv.hp h) ?_
  refine Cv_a (by omega) (by omega) ?_
  refine cl1 h n_math_bits_Len (cc1 h.ext) fun w h => ?_
  refine Bn_su (by omega) (by omega) (Bn_geT (by omega) (Gd_T (Gd_T (Bn_leF (by omega) (Pick_T (Gd_FT (Gd_FT (Gd_FT (Gd_FT (Gd_FT (Pick_F (Gd_FT (Gd_FT (Pick_F ?_))))))))))))))
  exact Ret.mk ⟨h.ext, _, rfl⟩
 refine Exists.elim (p := fun m => k = m + 1) ⟨k - 1, by omega⟩ fun m hm => ?_
 refine Exists.elim (p := fun s => 2 ^ m = s) ⟨_, rfl⟩ fun s hs => ?_
 by_cases hx : l.length = s
 ·have cc2 := fun {W : World} (e : Ext w0 W) => c_worth (w0 := W) (hv.ext e) hl (b := false) ⟨fun h => (by cases h), fun h => absurd ⟨m, by omega, hx.trans hs.symm, h⟩ hno⟩
  apply e_share_causes
  unfold s_share_causes
  have h := Hp.init [] w0
  refine leS (hv.hp h) ?_
  refine Cv_a (by omega) (by omega) ?_
  refine cl1 h n_math_bits_Len (cc1 h.ext) fun w h => ?_
  refine Bn_su (by omega) (by omega) (Bn_geT (by omega) (Gd_T (Gd_T (Bn_leT (by omega) (Pick_T (Gd_T (Gd_T (leS (hv.hp h) ?_))))))))
  refine Gd_T (Gd_T (Bn_shc (j := m) (s := s) (by omega) (by omega) hs ?_))
  refine Gd_T (Bn_eqT (by omega) (Pick_T (Gd_T (Gd_T (cl1 h n_share_worth (cc2 h.ext) fun w h => ?_)))))
  refine Pick_T ?_
  exact Ret.mk ⟨h.ext, _, rfl⟩
 ·apply e_share_causes
  unfold s_share_causes
  have h := Hp.init [] w0
  refine leS (hv.hp h) ?_
  refine Cv_a (by omega) (by omega) ?_
  refine cl1 h n_math_bits_Len (cc1 h.ext) fun w h => ?_
  refine Bn_su (by omega) (by omega) (Bn_geT (by omega) (Gd_T (Gd_T (Bn_leT (by omega) (Pick_T (Gd_T (Gd_T (leS (hv.hp h) ?_))))))))
  refine Gd_T (Gd_T (Bn_shc (j := m) (s := s) (by omega) (by omega) hs ?_))
  refine Gd_T (Bn_eqF (by omega) (Pick_T (Gd_FT (Gd_FT (Pick_F ?_)))))
  exact Ret.mk ⟨h.ext, _, rfl⟩
end
abbrev I64 (x : Int) : Prop := -9223372036854775808 ≤ x ∧ x ≤ 9223372036854775807
def facL : List Int := [1, 1, 2, 6, 24, 120, 720, 5040, 40320, 362880, 3628800]
theorem facL_get {k : Nat} (h : k ≤ 10) : facL[k]? = some (fac k : Int) := by
 rcases (show k = 0 ∨ k = 1 ∨ k = 2 ∨ k = 3 ∨ k = 4 ∨ k = 5 ∨ k = 6 ∨ k = 7 ∨ k = 8 ∨ k = 9 ∨ k = 10 by omega) with rfl | rfl | rfl | rfl | rfl | rfl | rfl | rfl | rfl | rfl | rfl <;> decide +kernel
def FacV (w : World) : Prop := Blk w 0 99 (facL.flatMap fI)
theorem FacV.ext {w w' : World} (h : FacV w) (x : Ext w w') : FacV w' := Blk.ext h x
theorem FacV.cells {w : World} (h : FacV w) : CellsAt w 0 0 (facL.flatMap fI) := fun i x hx => by rw [Nat.zero_add]; exact Blk.cell h hx
theorem fac_seg {k : Nat} (h : k ≤ 10) : Seg (facL.flatMap fI) (k * 1) (fI (fac k : Int)) := flat_seg (f := fI) (fun _ => rfl) (facL_get h)
section
variable {w0 w : World} {L : List Et} {K : Value → World → Prop} {KP : Value → Prop} {rest : Prop}
theorem fL (hF : FacV w0) (h : Hp [] w0 w L) {k : Nat} (hk : k ≤ 10) (hK : K (.int .i64 (fac k : Int)) w) : Ld Tryz.prog 3 (pr 0 (0 + k * 1)) w K :=
 lh0 h hF.cells (fac_seg hk) rfl hK
theorem fLd (hF : FacV w0) (h : Hp [] w0 w L) {k : Nat} (hk : k ≤ 10) (hK : KP (.int .i64 (fac k : Int))) : Dv Tryz.prog false (Instr.loadAt 3 (pr 0 (0 + k * 1))) w KP :=
 dh0 h hF.cells (fac_seg hk) rfl hK
end
abbrev fO (o : Option Rat) : List Value := [str (eN o), str (eD o)]
theorem itoa1 : Lib.itoa ((1 : Nat) : Int) = [49] := by
 unfold Lib.itoa; rw [if_neg (by decide)]; exact dec_lt (u := 1) (by decide)
theorem f01 : fO (some 0) = [str [48], str [49]] := by
 show [str (Lib.itoa (0 : Rat).num), str (Lib.itoa (((0 : Rat).den : Nat) : Int))] = _
 rw [show (0 : Rat).num = 0 from rfl, show (0 : Rat).den = 1 from rfl, itoa0, itoa1]
theorem mul_some {a b c d : Nat} {x y : Rat} (hx : SR a b x) (hy : SR c d y) (ha : a + c ≤ 200) (hb : b + d ≤ 200) : oMul (some x) (some y) = some (x * y) := by
 show (if (mulQ x y).2.2 = 0 then some (x * y) else none) = _
 rw [qmul_ok hx hy ha hb]; rfl
theorem add_some {a b c d k : Nat} {x y : Rat} (hx : SR a b x) (hy : SR c d y) (h1 : a + d ≤ k) (h2 : c + b ≤ k) (hk : k ≤ 199) (hb : b + d ≤ 200) : oAdd (some x) (some y) = some (x + y) := by
 show (if (addQ x y).2.2 = 0 then some (x + y) else none) = _
 rw [qadd_ok hx hy h1 h2 hk hb]; rfl
theorem ofQ {n d : Int} (hd : d ≠ 0) : rv (makeQ n d) = .tuple #[ov (some ((n : Rat) / d)), .int .i64 0] := by
 unfold makeQ; rw [if_neg hd]; rfl
theorem c_OfN {w : World} {n d : Int} (hT : Tab w) (hn : I64 n) (hd : I64 d) (h0 : d ≠ 0) : Calls Tryz.prog 54 #[.int .i64 n, .int .i64 d] w (Ret fun r w' => Ext w w' ∧ r = .tuple #[ov (some ((n : Rat) / d)), .int .i64 0]) := by
 have := c_Of (w := w) (x := n) (y := d) hT hn.1 hn.2 hd.1 hd.2
 rw [ofQ h0] at this
 exact this
theorem fac_le {n : Nat} (h : n ≤ 10) : 1 ≤ fac n ∧ fac n ≤ 3628800 := by
 rcases (show n = 0 ∨ n = 1 ∨ n = 2 ∨ n = 3 ∨ n = 4 ∨ n = 5 ∨ n = 6 ∨ n = 7 ∨ n = 8 ∨ n = 9 ∨ n = 10 by omega) with rfl | rfl | rfl | rfl | rfl | rfl | rfl | rfl | rfl | rfl | rfl <;> decide +kernel
def TmOk (ps : List (Int × Int)) : Prop := ps.length ≤ 400 ∧ ∀ p ∈ ps, (-2251799813685248 ≤ p.1 ∧ p.1 ≤ 2251799813685248) ∧ 0 ≤ p.2 ∧ p.2 ≤ 1000000000000
theorem natAbs_mul_le {a b : Int} {A B : Nat} (ha : a.natAbs ≤ A) (hb : b.natAbs ≤ B) : (a * b).natAbs ≤ A * B := by
 rw [Int.natAbs_mul]; exact Nat.mul_le_mul ha hb
theorem dotT_le {ps : List (Int × Int)} (h : ∀ p ∈ ps, (-2251799813685248 ≤ p.1 ∧ p.1 ≤ 2251799813685248) ∧ 0 ≤ p.2 ∧ p.2 ≤ 1000000000000) : (dotT ps).natAbs ≤ ps.length * (2251799813685248 * 1000000000000) := by
 induction ps with
 | nil => simp [dotT]
 | cons p ps ih =>
  have h1 := h p List.mem_cons_self
  have h2 := ih fun q hq => h q (List.mem_cons_of_mem _ hq)
  have h3 : (p.1 * p.2).natAbs ≤ 2251799813685248 * 1000000000000 := natAbs_mul_le (by omega) (by omega)
  rw [dotT_cons, List.length_cons, Nat.add_mul]
  omega
theorem dot_step (s a b d : Int) (hd : d ≠ 0) : (s : Rat) / d + (a : Rat) / ((1 : Int) : Rat) * ((b : Rat) / d) = ((s + a * b : Int) : Rat) / d := by
 have := int_ne hd
 grind
theorem dot_snoc {ps : List (Int × Int)} {i : Nat} {a b : Int} (h : ps[i]? = some (a, b)) : dotT (ps.take (i + 1)) = dotT (ps.take i) + a * b := by
 rw [take_snoc h, dotT_append]
 have : dotT [(a, b)] = a * b := by simp [dotT]
 rw [this]
def mnQ (n : Nat) (ps : List (Int × Int)) : Rat := (dotT ps : Rat) / (fac n : Int)
theorem mn_SR {n : Nat} (hn : n ≤ 10) {ps : List (Int × Int)} (h : TmOk ps) : SR 31 7 (mnQ n ps) := by
 have hf := fac_le hn
 refine SR.of ?_ ?_ (by omega)
 ·have h1 := dotT_le h.2
  have h2 : ps.length * (2251799813685248 * 1000000000000) ≤ 400 * (2251799813685248 * 1000000000000) := Nat.mul_le_mul_right _ h.1
  show (dotT ps).natAbs < 10 ^ 31
  have h3 : 400 * (2251799813685248 * 1000000000000) < 10 ^ 31 := by decide
  omega
 ·show ((fac n : Int)).natAbs < 10 ^ 7
  have : (3628800 : Nat) < 10 ^ 7 := by decide
  omega
theorem TmOk.take {ps : List (Int × Int)} (h : TmOk ps) (i : Nat) : TmOk (ps.take i) := ⟨by have := h.1; rw [List.length_take]; omega, fun p hp => h.2 p (List.mem_of_mem_take hp)⟩
section
variable {w0 : World} {n : Nat} (hn : n ≤ 10) {gf : FuncId} (hg : Enters Tryz.prog gf) {lb : Array Value} {ps : List (Int × Int)} (hps : TmOk ps)
 (hit : ∀ {w : World} {J : Nat → World → Prop}, (∀ i W, J i W → Ext w0 W) → Iter Tryz.prog gf lb ((ps.map fun p => (Value.int .i64 p.1, Value.int .i64 p.2)).map fun p => [p.1, p.2]) w J)
 (hT : Tab w0) (hF : FacV w0)
include hn hg hps hit hT hF
set_option maxHeartbeats 4000000 in
theorem c_mean : Calls Tryz.prog 39 #[.int .i64 n, .func (.func gf) #[] lb] w0 (Ret fun r w' => Ext w0 w' ∧ r = ov (some (mnQ n ps))) := by
 have hf := fac_le hn
 apply e_share_mean
 unfold s_share_mean
 have h := Hp.init [] w0
 refine bxA h fun g1 w h => ?_
 refine alS h fun g2 w h => ?_
 refine bdS (PC.cons (by rfl) (PC.cons (by rfl) PC.nil)) (by rfl) ?_
 refine alS h fun g3 w h => ?_
 refine stA h 0 rfl rfl rfl rfl fun w h => ?_
 dsimp only [List.set] at h
 have hw1 := h.size
 have z0 : fO (some (mnQ n (ps.take 0))) = [str [48], str [49]] := by
  have : mnQ n (ps.take 0) = 0 := by
   have h0 : dotT (ps.take 0) = 0 := rfl
   unfold mnQ; rw [h0]; grind
  rw [this]; exact f01
 replace h : Hp [] w0 w [bx g3 tR (fO (some (mnQ n (ps.take 0)))), bx g2 tR [str [], str []], bx g1 3 [.int .i64 n]] := by rw [z0]; exact h
 have kg := h.lt 0 rfl
 have kg1 := h.lt 1 rfl
 have kg2 := h.lt 2 rfl
 refine Rf2.mk gf lb (ps.map fun p => (Value.int .i64 p.1, Value.int .i64 p.2)) (fun i W => Hp [] w0 W [bx g3 tR (fO (some (mnQ n (ps.take i)))), bx g2 tR [str [], str []], bx g1 3 [.int .i64 n]]) (fun _ _ => False) rfl hg
  (hit ?_) ?_ ?_ h ?_ ?_ ?_ (by simp)
 ·exact fun i W h => h.ext
 ·exact fun i W W' h b => h.bk (by simp; omega) hw1 b
 ·exact fun _ _ _ h _ => h
 ·rintro a0 a1 i W hi h hs
  rw [List.getElem?_map, Option.map_eq_some_iff] at hi
  obtain ⟨⟨a, b⟩, hi, e⟩ := hi
  obtain ⟨rfl, rfl⟩ := Prod.mk.inj e
  have hab := hps.2 _ (List.mem_of_getElem? hi)
  have cc1 := fun {W : World} (e : Ext w0 W) => c_OfN (w := W) (n := a) (d := 1) (hT.ext e) (by have := hab.1; omega) (by omega) (by decide)
  have cc2 := fun {W : World} (e : Ext w0 W) => c_OfN (w := W) (n := b) (d := (fac n : Int)) (hT.ext e) (by have := hab.2; omega) (by omega) (by omega)
  have s1 : SR 16 1 ((a : Rat) / ((1 : Int) : Rat)) := by
   refine SR.of ?_ ?_ (by decide)
   ·show a.natAbs < 10 ^ 16
    have := hab.1; omega
   ·show (1 : Nat) < 10 ^ 1
    decide
  have s2 : SR 13 7 ((b : Rat) / ((fac n : Int) : Rat)) := by
   refine SR.of ?_ ?_ (by omega)
   ·show b.natAbs < 10 ^ 13
    have := hab.2; omega
   ·show ((fac n : Int)).natAbs < 10 ^ 7
    omega
  have s3 := SR.mul s1 s2
  have s4 := mn_SR hn (hps.take i)
  have cc3 : ∀ {W : World}, Ext w0 W → Calls Tryz.prog 69 #[ov (some ((a : Rat) / ((1 : Int) : Rat))), ov (some ((b : Rat) / ((fac n : Int) : Rat)))] W (Ret fun r w' => Ext W w' ∧ r = .tuple #[ov (some ((a : Rat) / ((1 : Int) : Rat) * ((b : Rat) / ((fac n : Int) : Rat)))), .int .i64 0]) := fun {W} e => by
   have := o_mul (w := W) (.some (s1.rb (by decide) (by decide))) (.some (s2.rb (by decide) (by decide))) (hT.ext e)
   rw [mul_some s1 s2 (by decide) (by decide)] at this
   exact this
  have cc4 : ∀ {W : World}, Ext w0 W → Calls Tryz.prog 31 #[ov (some (mnQ n (ps.take i))), ov (some ((a : Rat) / ((1 : Int) : Rat) * ((b : Rat) / ((fac n : Int) : Rat))))] W (Ret fun r w' => Ext W w' ∧ r = .tuple #[ov (some (mnQ n (ps.take (i + 1)))), .int .i64 0]) := fun {W} e => by
   have := o_add (w := W) (.some (s4.rb (by decide) (by decide))) (.some (s3.rb (by decide) (by decide))) (hT.ext e)
   have ha : oAdd (some (mnQ n (ps.take i))) (some ((a : Rat) / ((1 : Int) : Rat) * ((b : Rat) / ((fac n : Int) : Rat)))) = some (mnQ n (ps.take (i + 1))) := by
    rw [add_some (k := 39) s4 s3 (by decide) (by decide) (by decide) (by decide)]
    unfold mnQ
    rw [dot_snoc hi, dot_step _ _ _ _ (by omega)]
   rw [ha] at this
   exact this
  replace h := h.fr w.heap.size (by omega) (by simp; omega)
  refine cl1 h n_rational_Of (cc1 h.ext) fun w h => ?_
  refine Ex2 (alS h fun g4 w h => ?_)
  refine stA h 0 rfl rfl rfl rfl fun w h => ?_
  refine Eng.ld1 h 4 rfl rfl (iaA (by omega) ?_)
  dsimp only [List.set] at h
  refine fL hF h hn ?_
  refine cl1 h n_rational_Of (cc2 h.ext) fun w h => ?_
  refine Ex2 (alS h fun g5 w h => ?_)
  refine stA h 0 rfl rfl rfl rfl fun w h => ?_
  refine ldA h 1 rfl rfl ?_
  refine ldA h 0 rfl rfl ?_
  refine cl1 h n_rational_Mul (cc3 h.ext) fun w h => ?_
  refine Ex2 (alS h fun g6 w h => ?_)
  refine stA h 0 rfl rfl rfl rfl fun w h => ?_
  refine ldA h 4 rfl rfl ?_
  refine ldA h 0 rfl rfl ?_
  refine cl1 h n_rational_Add (cc4 h.ext) fun w h => ?_
  refine Ex2 (stA h 4 rfl rfl rfl rfl fun w h => ?_)
  refine ⟨?_, ?_⟩
  dsimp only [List.set] at h
  ·exact h.pick [4, 5, 6] (by decide) rfl
  ·exact h.get (i := 3) rfl
 ·rintro D W hD hd h
  replace h := h.df hd (by omega) (by simp; omega)
  rw [List.length_map, List.take_of_length_le (Nat.le_refl _)] at h
  refine ldA h 1 rfl rfl ?_
  refine stA h 2 rfl rfl rfl rfl fun w h => ?_
  refine tkE h 0 rfl fun w h => ?_
  refine rcA h 2 rfl rfl ?_
  dsimp only [List.set] at h
  exact Ret.mk ⟨h.ext, rfl⟩
 ·exact fun _ _ _ _ h => h.elim
end
section
variable {P : Program} {t : TypeId} {c : Bool} {K : Value → World → Prop} {w : World}
theorem Ub_an {a m : Nat} {y : Int} (hy : y = (m : Int)) (ha : a < 18446744073709551616) (hm : m < 18446744073709551616) (hk : K (.int .u64 ((a &&& m : Nat) : Int)) w) : Bn P .and t c (.int .u64 (a : Int)) (.int .u64 y) w K := by
 subst hy
 have e := (bits_nat .u64 64 (by decide) (fun n h0 h1 => wu64 h0 (by simpa using h1)) a m (by omega) (by omega)).1
 ((try simp -dsimp [go_sem, e]); repeat (simp -dsimp (disch := omega) only [gL, gI]; try simp -dsimp [go_sem, e])); exact hk
theorem Ub_sr {a k : Nat} {y : Int} (hy : y = (k : Int)) (hk64 : k ≤ 64) (hk : K (.int .u64 ((a / 2 ^ k : Nat) : Int)) w) : Bn P .shr t c (.int .u64 (a : Int)) (.int .u64 y) w K := by
 subst hy
 have hm : min ((k : Int).toNat) IntKind.u64.bits = k := by
  show min ((k : Int).toNat) 64 = k
  omega
 have e : (a : Int).fdiv (2 ^ k) = ((a / 2 ^ k : Nat) : Int) := by
  have hp : (2 : Int) ^ k = ((2 ^ k : Nat) : Int) := by norm_cast
  rw [Int.fdiv_eq_ediv_of_nonneg _ (by rw [hp]; exact Int.natCast_nonneg _), hp]; rfl
 ((try simp -dsimp [go_sem, hm, e]); repeat (simp -dsimp (disch := omega) only [gL, gI]; try simp -dsimp [go_sem, hm, e])); exact hk
theorem Ub_ad {a b : Nat} (h : a + b < 18446744073709551616) (hk : K (.int .u64 ((a + b : Nat) : Int)) w) : Bn P .add t c (.int .u64 (a : Int)) (.int .u64 (b : Int)) w K :=
 Bu_adE (r := ((a + b : Nat) : Int)) (by omega) (by omega) (by omega) hk
theorem Ui_an {a m : Nat} {y : Int} (hy : y = (m : Int)) (ha : a < 9223372036854775808) (hm : m < 9223372036854775808) (hk : K (.int .i64 ((a &&& m : Nat) : Int)) w) : Bn P .and t c (.int .i64 (a : Int)) (.int .i64 y) w K := by
 subst hy
 have hp : (2 : Int) ^ 63 = 9223372036854775808 := by decide
 have e := (bits_nat .i64 63 (by decide) (fun n h0 h1 => w64 (by omega) (by rw [hp] at h1; omega)) a m ha hm).1
 ((try simp -dsimp [go_sem, e]); repeat (simp -dsimp (disch := omega) only [gL, gI]; try simp -dsimp [go_sem, e])); exact hk
end
def onesX (s : Nat) : Nat :=
 let a4 := (s / 2 ^ 1 &&& 6148914691236517205) + (s &&& 6148914691236517205)
 let a8 := (a4 / 2 ^ 2 &&& 3689348814741910323) + (a4 &&& 3689348814741910323)
 let a11 := (a8 / 2 ^ 4 + a8) &&& 1085102592571150095
 let a13 := a11 + a11 / 2 ^ 8
 let a15 := a13 + a13 / 2 ^ 16
 let a17 := a15 + a15 / 2 ^ 32
 a17 &&& 127
theorem onesX_eq : ∀ s, s < 64 → onesX s = ones 6 s := by decide +kernel
theorem c_Ones64 {w : World} {s : Nat} (hs : s < 64) : Calls Tryz.prog 102 #[.int .u64 (s : Int)] w (Ret fun r w' => Ext w w' ∧ r = .int .i64 (ones 6 s : Nat)) := by
 rw [← onesX_eq s hs]
 apply e_math_bits_OnesCount64
 unfold s_math_bits_OnesCount64
 refine Ub_sr (k := 1) rfl (by decide) ?_
 refine Ub_an (m := 6148914691236517205) rfl (by omega) (by decide) ?_
 refine Ub_an (m := 6148914691236517205) rfl (by omega) (by decide) ?_
 have b1 : (s / 2 ^ 1 &&& 6148914691236517205) ≤ s / 2 ^ 1 := Nat.and_le_left
 have b2 : (s &&& 6148914691236517205) ≤ s := Nat.and_le_left
 refine Ub_ad (by omega) ?_
 refine Exists.elim (p := fun a4 => a4 = (s / 2 ^ 1 &&& 6148914691236517205) + (s &&& 6148914691236517205)) ⟨_, rfl⟩ fun a4 e4 => ?_
 have c4 : a4 < 100 := by omega
 unfold onesX
 rw [← e4]
 clear b1 b2 e4
 refine Ub_sr (k := 2) rfl (by decide) ?_
 refine Ub_an (m := 3689348814741910323) rfl (by omega) (by decide) ?_
 refine Ub_an (m := 3689348814741910323) rfl (by omega) (by decide) ?_
 have b1 : (a4 / 2 ^ 2 &&& 3689348814741910323) ≤ a4 / 2 ^ 2 := Nat.and_le_left
 have b2 : (a4 &&& 3689348814741910323) ≤ a4 := Nat.and_le_left
 refine Ub_ad (by omega) ?_
 refine Exists.elim (p := fun a8 => a8 = (a4 / 2 ^ 2 &&& 3689348814741910323) + (a4 &&& 3689348814741910323)) ⟨_, rfl⟩ fun a8 e8 => ?_
 have c8 : a8 < 200 := by omega
 rw [← e8]
 clear b1 b2
 refine Ub_sr (k := 4) rfl (by decide) ?_
 refine Ub_ad (by omega) ?_
 refine Ub_an (m := 1085102592571150095) rfl (by omega) (by decide) ?_
 have b1 : (a8 / 2 ^ 4 + a8 &&& 1085102592571150095) ≤ a8 / 2 ^ 4 + a8 := Nat.and_le_left
 refine Exists.elim (p := fun x => x = (a8 / 2 ^ 4 + a8 &&& 1085102592571150095)) ⟨_, rfl⟩ fun x ex => ?_
 rw [← ex] at b1 ⊢
 refine Ub_sr (k := 8) rfl (by decide) ?_
 refine Ub_ad (by omega) ?_
 refine Ub_sr (k := 16) rfl (by decide) ?_
 refine Ub_ad (by omega) ?_
 refine Ub_sr (k := 32) rfl (by decide) ?_
 refine Ub_ad (by omega) ?_
 refine Cv_b (by omega) (by omega) ?_
 refine Ui_an (m := 127) rfl (by omega) (by decide) ?_
 exact Ret.mk ⟨.refl _, by subst ex; subst e8; rfl⟩
theorem c_Ones {w : World} {s : Nat} (hs : s < 64) : Calls Tryz.prog 71 #[.int .u64 (s : Int)] w (Ret fun r w' => Ext w w' ∧ r = .int .i64 (ones 6 s : Nat)) := by
 have cc1 := fun {W : World} (_ : Ext w W) => c_Ones64 (w := W) hs
 apply e_math_bits_OnesCount
 unfold s_math_bits_OnesCount
 have h := Hp.init [] w
 refine If_F (cl1 h n_math_bits_OnesCount64 (cc1 h.ext) fun w h => ?_)
 exact Ret.mk ⟨h.ext, rfl⟩
section
variable {P : Program} {t : TypeId} {c wi : Bool} {K : Value → World → Prop} {KP : Value → Prop} {w : World} {op : BinOp} {x y v : Value} {g : Nat}
theorem ldBx [One P t] (h : w.cell? ⟨g, 0, none⟩ = some v) (hk : K v w) : Ld P t (pr g 0) w K := V_of (run_ld1c h) hk
theorem dlBx [One P t] (h : w.cell? ⟨g, 0, none⟩ = some v) (hk : KP v) : Dv P false (Instr.loadAt t (pr g 0)) w KP := ⟨_, run_ld1c h, hk⟩
theorem dvBx (hb : ∀ (w : World) (K : Value → World → Prop), K v w → Bn P op t c x y w K) (hk : KP v) : Dv P wi (bn op t c x y) w KP := by
 have e : ∀ w', (bn op t c x y).run P w' = .ok v w' := fun w' => by
  obtain ⟨u, w2, e, rfl, rfl⟩ := hb w' (fun u w2 => u = v ∧ w2 = w') ⟨rfl, rfl⟩
  exact e
 cases wi
 ·exact ⟨v, e _, hk⟩
 ·exact ⟨v, e, hk⟩
end
def cM (i s : Nat) : Nat := ((List.range s).filter fun s => s / 2 ^ i % 2 == 0).length
theorem cM_1 {i s : Nat} (h : s / 2 ^ i % 2 = 1) : cM i (s + 1) = cM i s := by
 unfold cM; rw [List.range_succ, List.filter_append]; simp [h]
theorem cM_0 {i s : Nat} (h : s / 2 ^ i % 2 = 0) : cM i (s + 1) = cM i s + 1 := by
 unfold cM; rw [List.range_succ, List.filter_append]; simp [h]
theorem fm_len (n : Nat) (l : List Int) (i s : Nat) : ((List.range s).filterMap fun s => if s / 2 ^ i % 2 = 1 then none else some (g l (s + 2 ^ i) - g l s, ((fac (ones n s) * fac (n - ones n s - 1) : Nat) : Int))).length = cM i s := by
 induction s with
 | zero => rfl
 | succ s ih =>
  rw [List.range_succ, List.filterMap_append, List.length_append, ih]
  rcases Nat.mod_two_eq_zero_or_one (s / 2 ^ i) with h | h
  ·rw [cM_0 h]; simp [h]
  ·rw [cM_1 h]; simp [h]
theorem tms_len (n : Nat) (l : List Int) (i : Nat) : (tms n l i).length = cM i (2 ^ n) := fm_len n l i _
theorem tms_get {n i s : Nat} {l : List Int} (hs : s < 2 ^ n) (h : s / 2 ^ i % 2 = 0) : (tms n l i)[cM i s]? = some (g l (s + 2 ^ i) - g l s, ((fac (ones n s) * fac (n - ones n s - 1) : Nat) : Int)) := by
 obtain ⟨d, hd⟩ : ∃ d, 2 ^ n = (s + 1) + d := ⟨2 ^ n - s - 1, by omega⟩
 have hr : List.range (2 ^ n) = List.range s ++ ([s] ++ (List.range d).map fun x => s + 1 + x) := by
  rw [hd, List.range_add, List.range_succ, List.append_assoc]
 rw [tms, hr, List.filterMap_append, List.getElem?_append_right (by rw [fm_len]; exact Nat.le_refl _), fm_len, Nat.sub_self, List.filterMap_append]
 simp [h]
theorem ones_lt {n s : Nat} (hn : n ≤ 6) (hs : s < 2 ^ n) : ones n s = ones 6 s := by
 have : ((List.range 7).all fun n => (List.range (2 ^ n)).all fun s => ones n s == ones 6 s) = true := by decide +kernel
 exact beq_iff_eq.1 (List.all_eq_true.1 (List.all_eq_true.1 this n (List.mem_range.2 (by omega))) s (List.mem_range.2 hs))
theorem ones_free {n i s : Nat} (hn : n ≤ 6) (hi : i < n) (hs : s < 2 ^ n) (h : s / 2 ^ i % 2 = 0) : ones n s + 1 ≤ n ∧ s ||| 2 ^ i = s + 2 ^ i ∧ s + 2 ^ i < 2 ^ n := by
 have := List.all_eq_true.1 (List.all_eq_true.1 (List.all_eq_true.1 (show ((List.range 7).all fun n => (List.range n).all fun i => (List.range (2 ^ n)).all fun s => !(s / 2 ^ i % 2 == 0) || (decide (ones n s + 1 ≤ n) && (s ||| 2 ^ i) == s + 2 ^ i && decide (s + 2 ^ i < 2 ^ n))) = true by decide +kernel) n (List.mem_range.2 (by omega))) i (List.mem_range.2 hi)) s (List.mem_range.2 hs)
 simp [h] at this
 exact ⟨this.1.1, this.1.2, this.2⟩
theorem g_get {l : List Int} {s : Nat} (h : s < l.length) : l[s]? = some (g l s) := by
 unfold g; rw [List.getD_eq_getElem?_getD, List.getElem?_eq_getElem h]; rfl
theorem g_ok {l : List Int} {s : Nat} (hw : ∀ x ∈ l, wOk x) (h : s < l.length) : wOk (g l s) := hw _ (List.mem_of_getElem? (g_get h))
set_option maxHeartbeats 4000000 in
theorem it_marg {w : World} {gv gi gn : Nat} {v : Value} {l : List Int} {n i : Nat} {J : Nat → World → Prop} (hn : n ≤ 6) (hi : i < n) (hln : l.length = 2 ^ n) (hw : ∀ x ∈ l, wOk x)
 (hJ : ∀ k W, J k W → W.cell? ⟨gv, 0, none⟩ = some v ∧ SlC W 1 v l.length (l.flatMap fI) ∧ W.cell? ⟨gi, 0, none⟩ = some (.int .i64 i) ∧ W.cell? ⟨gn, 0, none⟩ = some (.int .i64 n) ∧ FacV W) :
 Iter Tryz.prog 70 #[pr gv 0, pr gi 0, pr gn 0] (((tms n l i).map fun p => (Value.int .i64 p.1, Value.int .i64 p.2)).map fun p => [p.1, p.2]) w J := by
 intro lx JJ XX W1 hW1 hJJ hst hXst hround h0
 have f0 := hJ 0 W1 (hJJ _ _ h0)
 have hv := f0.2.1
 have hl64 : l.length ≤ 64 := by
  rw [hln]; exact Nat.pow_le_pow_right (n := 2) (by decide) hn
 apply e_share_marginal_1
 unfold s_share_marginal_1
 have h := Hp.init [] W1
 refine ldBx f0.1 ?_
 refine leS (hv.hp h) ?_
 refine Lp1.mk (fun a W => ∃ s : Nat, s ≤ l.length ∧ a = .int .i64 s ∧ JJ (cM i s) W) (fun a _ => match a with | .int _ x => l.length - x.toNat | _ => 0) ⟨0, by omega, rfl, h0⟩ ?_
 clear h hv f0
 rintro _ W ⟨s, hs, rfl, hj⟩
 have f := hJ _ W (hJJ _ _ hj)
 have hv := f.2.1
 have hF := f.2.2.2.2
 have h := Hp.init [] W
 by_cases hsl : s < l.length
 ·refine Bn_ltT (by omega) (If_T (ldBx f.2.2.1 ?_))
  refine Bn_sr (by omega) ?_
  have hb : s / 2 ^ i ≤ s := Nat.div_le_self _ _
  refine Bn_an1 (Nat.lt_of_le_of_lt (show s / 2 ^ i ≤ 64 by omega) (by decide)) ?_
  by_cases h1 : s / 2 ^ i % 2 = 1
  ·refine Bn_eqT (by omega) (If_T (Bn_ad (by omega) (by omega) ?_))
   refine ⟨⟨s + 1, by omega, rfl, by rw [cM_1 h1]; exact hj⟩, by show l.length - ((s : Int) + 1).toNat < l.length - (s : Int).toNat; omega⟩
  ·have h2 : s / 2 ^ i % 2 = 0 := by omega
   obtain ⟨k1, k2, k3⟩ := ones_free hn hi (by omega) h2
   have e6 := ones_lt hn (show s < 2 ^ n by omega)
   have hk6 : ones 6 s + 1 ≤ n := by rw [← e6]; exact k1
   have b1 := g_ok hw (show s < l.length from hsl)
   have b2 := g_ok hw (show s + 2 ^ i < l.length by omega)
   have p1 := fac_le (show ones 6 s ≤ 10 by omega)
   have p2 := fac_le (show n - ones 6 s - 1 ≤ 10 by omega)
   have pm : fac (ones 6 s) * fac (n - ones 6 s - 1) ≤ 3628800 * 3628800 := Nat.mul_le_mul p1.2 p2.2
   have pe : (fac (ones 6 s) : Int) * (fac (n - ones 6 s - 1) : Int) = ((fac (ones 6 s) * fac (n - ones 6 s - 1) : Nat) : Int) := (Int.natCast_mul _ _).symm
   have s1 : Seg (l.flatMap fI) (s * 1) (fI (g l s)) := flat_seg (f := fI) (fun _ => rfl) (g_get hsl)
   have s2 : Seg (l.flatMap fI) ((s + 2 ^ i) * 1) (fI (g l (s + 2 ^ i))) := flat_seg (f := fI) (fun _ => rfl) (g_get (by omega))
   have hty := tms_get (l := l) (i := i) (show s < 2 ^ n by omega) h2
   rw [e6] at hty
   refine Bn_eqF (by omega) (If_F (Cv_a (by omega) (by omega) ?_))
   refine Cl_i n_math_bits_OnesCount (c_Ones (s := s) (by omega)) ?_
   rintro _ w ⟨x, rfl⟩
   have h := (h.x x).dr
   have x := h.ext
   have hr := hround (cM i s) [.int .i64 (g l (s + 2 ^ i) - g l s), .int .i64 ((fac (ones 6 s) * fac (n - ones 6 s - 1) : Nat) : Int)] w.drew (by rw [List.getElem?_map, List.getElem?_map, hty]; rfl) (hst _ _ _ hj x)
   refine dlBx (g := gv) (x.cell' f.1) ?_
   refine dlBx (g := gi) (x.cell' f.2.2.1) ?_
   refine dvBx (fun w K hk => Bn_sl1 (j := i) (by omega) hk) ?_
   refine dvBx (v := .int .i64 ((s + 2 ^ i : Nat) : Int)) (fun w K hk => Bn_or (a := s) (b := 2 ^ i) (Nat.lt_of_le_of_lt (show s ≤ 64 by omega) (by decide)) (Nat.lt_of_le_of_lt (show 2 ^ i ≤ 64 by omega) (by decide)) (by rw [k2]; exact hk)) ?_
   refine diH h hv (j := s + 2 ^ i) (by omega) fun zb zo zk zv zc => ?_
   refine dh0 h zc s2 rfl ?_
   refine dlBx (g := gv) (x.cell' f.1) ?_
   refine diH h hv (j := s) (by omega) fun zb zo zk zv zc => ?_
   refine dh0 h zc s1 rfl ?_
   refine dvBx (fun w K hk => Bn_su (by have := b1.1; have := b1.2; have := b2.1; have := b2.2; omega) (by have := b1.1; have := b1.2; have := b2.1; have := b2.2; omega) hk) ?_
   refine diA (j := ones 6 s) (by omega) ?_
   refine fLd hF h (by omega) ?_
   refine dlBx (g := gn) (x.cell' f.2.2.2.1) ?_
   refine dvBx (v := .int .i64 ((n - ones 6 s : Nat) : Int)) (fun w K hk => Bn_su (by omega) (by omega) (by rw [show (n : Int) - (ones 6 s : Nat) = ((n - ones 6 s : Nat) : Int) by omega]; exact hk)) ?_
   refine dvBx (v := .int .i64 ((n - ones 6 s - 1 : Nat) : Int)) (fun w K hk => Bn_su (by omega) (by omega) (by rw [show ((n - ones 6 s : Nat) : Int) - 1 = ((n - ones 6 s - 1 : Nat) : Int) by omega]; exact hk)) ?_
   refine diA (j := n - ones 6 s - 1) (by omega) ?_
   refine fLd hF h (by omega) ?_
   refine dvBx (v := .int .i64 ((fac (ones 6 s) * fac (n - ones 6 s - 1) : Nat) : Int)) (fun w K hk => Bn_mu (by rw [pe]; omega) (by rw [pe]; omega) (by rw [pe]; exact hk)) ?_
   refine Cw_y hr ?_
   rintro bb W' (⟨rfl, hj'⟩ | ⟨rfl, hx⟩)
   ·have h := Hp.init [] W'
    refine Dv_nT (If_F (Bn_ad (by omega) (by omega) ?_))
    refine ⟨⟨s + 1, by omega, rfl, by rw [cM_0 h2]; exact hj'⟩, by show l.length - ((s : Int) + 1).toNat < l.length - (s : Int).toNat; omega⟩
   ·have h := Hp.init [] W'
    refine Dv_nF (If_T ?_)
    exact ⟨⟨_, rfl⟩, .inr hx⟩
 ·refine Bn_ltF (by omega) (If_F ?_)
  refine ⟨⟨_, rfl⟩, .inl ?_⟩
  rw [List.length_map, List.length_map, tms_len, ← hln, show l.length = s by omega]
  exact hj
abbrev tIs : TypeId := 22
abbrev tI : TypeId := 3
theorem sl_ex {w : World} {c n : Nat} {v : Value} {xs : List Value} (h : SlC w c v n xs) : ∃ a m k, v = .slice a m k := by
 obtain ⟨_, ⟨h1, _⟩ | ⟨b, o, cap, h1, _⟩⟩ := h
 ·exact ⟨_, _, _, h1⟩
 ·exact ⟨_, _, _, h1⟩
theorem c_marginal {w0 : World} {v : Value} {n i : Nat} (hs : ∃ a m c, v = .slice a m c) : Calls Tryz.prog 40 #[v, .int .i64 n, .int .i64 i] w0 (Ret fun r w' => Ext w0 w' ∧ ∃ gv gn gi : Nat, r = .func (.func 70) #[] #[pr gv 0, pr gi 0, pr gn 0] ∧
 Blk w' gv tIs [v] ∧ Blk w' gn tI [.int .i64 n] ∧ Blk w' gi tI [.int .i64 i]) := by
 obtain ⟨a, m, c, rfl⟩ := hs
 apply e_share_marginal
 unfold s_share_marginal
 have h := Hp.init [] w0
 refine bxA h fun g1 w h => ?_
 refine bxA h fun g2 w h => ?_
 refine bxA h fun g3 w h => ?_
 exact Ret.mk ⟨h.ext, g1, g2, g3, rfl, h.get (i := 2) rfl, h.get (i := 1) rfl, h.get (i := 0) rfl⟩
theorem w_all : ((List.range 7).all fun n => (List.range (2 ^ n)).all fun s => decide (fac (ones n s) * fac (n - ones n s - 1) ≤ 720)) = true := by decide +kernel
theorem tms_ok {n i : Nat} {l : List Int} (hn : n ≤ 6) (hi : i < n) (hln : l.length = 2 ^ n) (hw : ∀ x ∈ l, wOk x) : TmOk (tms n l i) := by
 constructor
 ·have h1 := List.length_filterMap_le (fun s => if s / 2 ^ i % 2 = 1 then none else some (g l (s + 2 ^ i) - g l s, ((fac (ones n s) * fac (n - ones n s - 1) : Nat) : Int))) (List.range (2 ^ n))
  rw [List.length_range] at h1
  have h2 : 2 ^ n ≤ 2 ^ 6 := Nat.pow_le_pow_right (by decide) hn
  exact Nat.le_trans h1 (by omega)
 ·intro p hp
  rw [tms, List.mem_filterMap] at hp
  obtain ⟨s, hs, hp⟩ := hp
  have hs := List.mem_range.1 hs
  split at hp
  ·cases hp
  ·next h =>
   rw [← Option.some.inj hp]
   have h0 : s / 2 ^ i % 2 = 0 := by omega
   obtain ⟨_, _, k3⟩ := ones_free hn hi hs h0
   have b1 := g_ok hw (show s < l.length by omega)
   have b2 := g_ok hw (show s + 2 ^ i < l.length by omega)
   have b3 := of_decide_eq_true (List.all_eq_true.1 (List.all_eq_true.1 w_all n (List.mem_range.2 (by omega))) s (List.mem_range.2 hs))
   obtain ⟨b11, b12⟩ := b1
   obtain ⟨b21, b22⟩ := b2
   refine ⟨⟨?_, ?_⟩, ?_, ?_⟩
   ·show -2251799813685248 ≤ g l (s + 2 ^ i) - g l s
    omega
   ·show g l (s + 2 ^ i) - g l s ≤ 2251799813685248
    omega
   ·exact Int.natCast_nonneg _
   ·show ((fac (ones n s) * fac (n - ones n s - 1) : Nat) : Int) ≤ 1000000000000
    omega
abbrev qC (xs : List Rat) : List Value := xs.flatMap fun x => fO (some x)
theorem shrs_snoc (n : Nat) (l : List Int) (i : Nat) : qC ((List.range (i + 1)).map (shr n l)) = qC ((List.range i).map (shr n l)) ++ fO (some (shr n l i)) := by
 rw [List.range_succ, List.map_append]; simp [qC]
section
variable {w0 : World} {v : Value} {l : List Int} (hv : SlC w0 1 v l.length (l.flatMap fI))
include hv
theorem c_Shapley {n : Nat} (hn : n ≤ 6) (hln : l.length = 2 ^ n) (hw : ∀ x ∈ l, wOk x) (hT : Tab w0) (hF : FacV w0) :
 Calls Tryz.prog 13 #[v] w0 (Ret fun r w' => ∃ u, r = .tuple #[u, .int .i64 0] ∧ Hp [] w0 w' [ro tR 2 u n (qC (shrs n l))]) := by
 have hl64 : l.length ≤ 64 := by
  rw [hln]; exact Nat.pow_le_pow_right (n := 2) (by decide) hn
 have cc1 := fun {W : World} (e : Ext w0 W) => c_causesT (w0 := W) (hv.ext e) (by omega) hn hln hw
 apply e_share_Shapley
 unfold s_share_Shapley
 have h := Hp.init [] w0
 refine cl1 h n_share_causes (cc1 h.ext) fun w h => ?_
 refine Ex2 (Un_T (If_F ?_))
 replace h := h.nil tR 2
 refine Lp2.mk (fun u a W => ∃ i : Nat, i ≤ n ∧ a = .int .i64 i ∧ Hp [] w0 W [ro tR 2 u i (qC ((List.range i).map (shr n l)))]) (fun _ a _ => match a with | .int _ x => n - x.toNat | _ => 0) ⟨0, by omega, rfl, h⟩ ?_
 clear h
 rintro u _ W ⟨i, hi, rfl, h⟩
 by_cases hin : i < n
 ·refine Bn_ltT (by omega) (If_T (Cl_i n_share_marginal (c_marginal (sl_ex hv)) ?_))
  rintro _ w1 ⟨x, gv, gn, gi, rfl, b1, b2, b3⟩
  replace h := h.x x
  refine Cl_i n_share_mean (c_mean (w0 := w1) (n := n) (ps := tms n l i) (by omega) n_share_marginal_1 (tms_ok hn hin hln hw) (fun hJ => it_marg hn hin hln hw fun k W hk => ⟨((b1.ext (hJ k W hk)).cell rfl), hv.ext (h.ext.tr (hJ k W hk)), ((b3.ext (hJ k W hk)).cell rfl), ((b2.ext (hJ k W hk)).cell rfl), hF.ext (h.ext.tr (hJ k W hk))⟩) (hT.ext h.ext) (hF.ext h.ext)) ?_
  rintro _ w2 ⟨x2, rfl⟩
  replace h := h.x x2
  refine bs1A h (by rfl) (by decide) (by rfl) (by decide) fun v1 w h => ?_
  refine apR (by rfl) (by decide) h 1 rfl (qZ 0 h rfl) (by first | rfl | assumption) (by omega) fun v2 w h => ?_
  refine Bn_ad (by omega) (by omega) ?_
  dsimp only [List.set] at h
  refine ⟨⟨i + 1, by omega, rfl, ?_⟩, by show n - ((i : Int) + 1).toNat < n - (i : Int).toNat; omega⟩
  rw [shrs_snoc]
  exact h.pick [1] (by decide) rfl
 ·have e : i = n := by omega
  subst e
  refine Bn_ltF (by omega) (If_F ?_)
  exact Ret.mk ⟨_, rfl, h⟩
end
def pk (c n : Int) : Int := (if c < 0 then -(c + 1) else c) % n
theorem pk_bd {c n : Int} (hn : 0 < n) : 0 ≤ pk c n ∧ pk c n < n := ⟨Int.emod_nonneg _ (by omega), Int.emod_lt_of_pos _ hn⟩
theorem c_fpick {w : World} {c n : Int} (hc : I64 c) (hn : 0 < n) (hn2 : n ≤ 9223372036854775807) : Calls Tryz.prog 36 #[.int .i64 c, .int .i64 n] w (Ret fun r w' => Ext w w' ∧ r = .int .i64 (pk c n)) := by
 obtain ⟨hc1, hc2⟩ := hc
 unfold pk
 by_cases h0 : c < 0
 ·rw [if_pos h0]
  apply e_ref25_pick
  unfold s_ref25_pick
  have h := Hp.init [] w
  refine Bn_ltT (by omega) (If_T (Bn_ad (by omega) (by omega) (Eng.Un_ng (by omega) (by omega) (Bn_rm (by omega) (by omega) ?_))))
  exact Ret.mk ⟨h.ext, rfl⟩
 ·rw [if_neg h0]
  apply e_ref25_pick
  unfold s_ref25_pick
  have h := Hp.init [] w
  refine Bn_ltF (by omega) (If_F (Bn_rm (by omega) (by omega) ?_))
  exact Ret.mk ⟨h.ext, rfl⟩
theorem ones_step : ∀ a, a < 64 → ones 6 a = a % 2 + ones 6 (a / 2) := by decide +kernel
theorem c_members {w0 : World} {s : Nat} (hs : s < 64) : Calls Tryz.prog 37 #[.int .i64 s] w0 (Ret fun r w' => Ext w0 w' ∧ r = .int .i64 (ones 6 s : Nat)) := by
 apply e_ref25_members
 unfold s_ref25_members
 have h := Hp.init [] w0
 refine Lp2.mk (fun x y W => ∃ a b : Nat, x = .int .i64 a ∧ y = .int .i64 b ∧ a < 64 ∧ b ≤ 64 ∧ b + ones 6 a = ones 6 s ∧ Hp [] w0 W []) (fun x _ _ => match x with | .int _ x => x.toNat | _ => 0) ⟨s, 0, rfl, rfl, hs, by omega, by omega, h⟩ ?_
 clear h
 rintro _ _ W ⟨a, b, rfl, rfl, ha, hb, e, h⟩
 have hle : ones 6 s ≤ 6 := by
  have : ∀ s, s < 64 → ones 6 s ≤ 6 := by decide +kernel
  exact this s hs
 by_cases h0 : 0 < a
 ·have e2 := ones_step a ha
  refine Bn_gtT (by omega) (If_T (Bn_rm (by omega) (by omega) (Bn_ad (by omega) (by omega) (Bn_qu (by omega) (by omega) (by omega) ?_))))
  refine ⟨⟨a / 2, b + a % 2, by congr 1, by congr 1, by omega, by omega, by omega, h⟩, ?_⟩
  show ((a : Int) / 2).toNat < (a : Int).toNat
  omega
 ·have e0 : a = 0 := by omega
  subst e0
  have z : ones 6 0 = 0 := by decide
  refine Bn_gtF (by omega) (If_F ?_)
  exact Ret.mk ⟨h.ext, by rw [← e, z]; rfl⟩
theorem c_of {w : World} {n d : Int} (hT : Tab w) (hn : I64 n) (hd : I64 d) (h0 : d ≠ 0) : Calls Tryz.prog 22 #[.int .i64 n, .int .i64 d] w (Ret fun r w' => Ext w w' ∧ r = ov (some ((n : Rat) / d))) := by
 have cc1 := fun {W : World} (e : Ext w W) => c_OfN (w := W) (n := n) (d := d) (hT.ext e) hn hd h0
 apply e_law25_of
 unfold s_law25_of
 have h := Hp.init [] w
 refine alS h fun g1 w h => ?_
 refine cl1 h n_rational_Of (cc1 h.ext) fun w h => ?_
 refine Ex2 (alS h fun g2 w h => ?_)
 refine stA h 0 rfl rfl rfl rfl fun w h => ?_
 refine Bn_neF (by omega) (If_F (ldA h 0 rfl rfl ?_))
 refine stA h 1 rfl rfl rfl rfl fun w h => ?_
 refine rcA h 1 rfl rfl ?_
 dsimp only [List.set] at h
 exact Ret.mk ⟨h.ext, rfl⟩
end Go.Proofs.YthjhkpefammjkaaGreatDoor
