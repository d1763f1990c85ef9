/-
  Contracts and plain lemmas. By an AI agent.
-/
import Derived.Test.YtjmdnjnjepinoaaGreatDoorCoA
set_option linter.unusedSimpArgs false
set_option linter.unusedVariables false
set_option linter.unusedSectionVars false
namespace Go.Proofs.YtjmdnjnjepinoaaGreatDoor
open Go Go.Eng Go.Proofs Go.Num Go.RowKit
set_option maxRecDepth 100000
structure CT where
 tm : Int
 gr : Int
 p : RS
 cap : Int
abbrev tC : TypeId := 25
abbrev tI : TypeId := 3
abbrev fC (c : CT) : List Value := [.int .i64 c.tm, .int .i64 c.gr, str c.p.1, str c.p.2, .int .i64 c.cap]
abbrev vC (c : CT) : Value := .agg (fC c).toArray
structure CTk (c : CT) : Prop where
 tm : I64 c.tm
 gr : I64 c.gr
 cap : I64 c.cap
 p1 : c.p.1.length ≤ 1000000
 p2 : c.p.2.length ≤ 1000000
noncomputable def valC (c : CT) : Option Rat := if (0 ≤ c.tm ∧ c.tm ≤ 3) ∧ (0 ≤ c.gr ∧ c.gr ≤ 100) ∧ (0 ≤ c.cap ∧ c.cap ≤ 1000000000) then shR 9 c.p else none
section
variable {w : World} {c : CT} (hc : CTk c)
include hc
theorem c_ValidC (hT : Tab w) : Calls Tryz.prog 15 #[vC c] w (Ret fun r w' => Ext w w' ∧ r = .bool (valC c).isSome) := by
 have k1 := hc.p1
 have k2 := hc.p2
 by_cases a : 0 ≤ c.tm ∧ c.tm ≤ 3
 rotate_left
 ·have e : (valC c).isSome = false := by unfold valC; rw [if_neg (fun h => a h.1)]; rfl
  have cc1 := fun {W : World} (_ : Ext w W) => c_inF (w := W) a
  rw [e]
  apply e_contract_Valid
  unfold s_contract_Valid
  have h := Hp.init [] w
  refine bxA h fun g1 w h => ?_
  refine faS (Eng.ld1 h 0 rfl rfl (cl1 h n_contract_in (cc1 h.ext) fun w h => ?_))
  refine Gd_FT (Gd_FT (Gd_FT (Pick_F (Gd_FT (Gd_FT (Gd_FT (Pick_F (Gd_FT (Gd_FT (Gd_FT (Pick_F ?_)))))))))))
  exact Ret.mk ⟨h.ext, rfl⟩
 have cc1 := fun {W : World} (_ : Ext w W) => c_inT (w := W) a
 by_cases b : 0 ≤ c.gr ∧ c.gr ≤ 100
 rotate_left
 ·have e : (valC c).isSome = false := by unfold valC; rw [if_neg (fun h => b h.2.1)]; rfl
  have cc2 := fun {W : World} (_ : Ext w W) => c_inF (w := W) b
  rw [e]
  apply e_contract_Valid
  unfold s_contract_Valid
  have h := Hp.init [] w
  refine bxA h fun g1 w h => ?_
  refine faS (Eng.ld1 h 0 rfl rfl (cl1 h n_contract_in (cc1 h.ext) fun w h => ?_))
  refine Gd_T (faS (Gd_T (Eng.ld1 h 0 rfl rfl (Gd_T (cl1 h n_contract_in (cc2 h.ext) fun w h => ?_)))))
  refine Pick_T (Gd_FT (Gd_FT (Gd_FT (Pick_F (Gd_FT (Gd_FT (Gd_FT (Pick_F ?_))))))))
  exact Ret.mk ⟨h.ext, rfl⟩
 have cc2 := fun {W : World} (_ : Ext w W) => c_inT (w := W) b
 have hs := fun {W : World} (x : Ext w W) => c_short (w := W) (D := 9) hc.p1 hc.p2 (by decide) (hT.ext x)
 rcases hq : shR 9 c.p with _ | x
 ·have e : (valC c).isSome = false := by
   unfold valC
   split
   ·rw [hq]; rfl
   ·rfl
  have cc3 : ∀ {W : World}, Ext w W → Calls Tryz.prog 45 #[.agg #[str c.p.1, str c.p.2], .int .i64 9] W (Ret fun r w' => Ext W w' ∧ r = .bool false) := fun x => by
   have := hs x
   rw [hq] at this; exact this
  rw [e]
  apply e_contract_Valid
  unfold s_contract_Valid
  have h := Hp.init [] w
  refine bxA h fun g1 w h => ?_
  refine faS (Eng.ld1 h 0 rfl rfl (cl1 h n_contract_in (cc1 h.ext) fun w h => ?_))
  refine Gd_T (faS (Gd_T (Eng.ld1 h 0 rfl rfl (Gd_T (cl1 h n_contract_in (cc2 h.ext) fun w h => ?_)))))
  refine Pick_T (Gd_T (faS (Gd_T (ldA h 0 rfl rfl ?_))))
  refine Gd_T (cl1 h n_contract_short (cc3 h.ext) fun w h => ?_)
  refine Pick_T (Gd_FT (Gd_FT (Gd_FT (Pick_F ?_))))
  exact Ret.mk ⟨h.ext, rfl⟩
 have cc3 : ∀ {W : World}, Ext w W → Calls Tryz.prog 45 #[.agg #[str c.p.1, str c.p.2], .int .i64 9] W (Ret fun r w' => Ext W w' ∧ r = .bool true) := fun x => by
  have := hs x
  rw [hq] at this; exact this
 by_cases d : 0 ≤ c.cap ∧ c.cap ≤ 1000000000
 ·have e : (valC c).isSome = true := by unfold valC; rw [if_pos ⟨a, b, d⟩, hq]; rfl
  have cc4 := fun {W : World} (_ : Ext w W) => c_inT (w := W) d
  rw [e]
  apply e_contract_Valid
  unfold s_contract_Valid
  have h := Hp.init [] w
  refine bxA h fun g1 w h => ?_
  refine faS (Eng.ld1 h 0 rfl rfl (cl1 h n_contract_in (cc1 h.ext) fun w h => ?_))
  refine Gd_T (faS (Gd_T (Eng.ld1 h 0 rfl rfl (Gd_T (cl1 h n_contract_in (cc2 h.ext) fun w h => ?_)))))
  refine Pick_T (Gd_T (faS (Gd_T (ldA h 0 rfl rfl ?_))))
  refine Gd_T (cl1 h n_contract_short (cc3 h.ext) fun w h => ?_)
  refine Pick_T (Gd_T (faS (Gd_T (Eng.ld1 h 0 rfl rfl (Gd_T (cl1 h n_contract_in (cc4 h.ext) fun w h => ?_))))))
  refine Pick_T ?_
  exact Ret.mk ⟨h.ext, rfl⟩
 ·have e : (valC c).isSome = false := by unfold valC; rw [if_neg (fun h => d h.2.2)]; rfl
  have cc4 := fun {W : World} (_ : Ext w W) => c_inF (w := W) d
  rw [e]
  apply e_contract_Valid
  unfold s_contract_Valid
  have h := Hp.init [] w
  refine bxA h fun g1 w h => ?_
  refine faS (Eng.ld1 h 0 rfl rfl (cl1 h n_contract_in (cc1 h.ext) fun w h => ?_))
  refine Gd_T (faS (Gd_T (Eng.ld1 h 0 rfl rfl (Gd_T (cl1 h n_contract_in (cc2 h.ext) fun w h => ?_)))))
  refine Pick_T (Gd_T (faS (Gd_T (ldA h 0 rfl rfl ?_))))
  refine Gd_T (cl1 h n_contract_short (cc3 h.ext) fun w h => ?_)
  refine Pick_T (Gd_T (faS (Gd_T (Eng.ld1 h 0 rfl rfl (Gd_T (cl1 h n_contract_in (cc4 h.ext) fun w h => ?_))))))
  refine Pick_T ?_
  exact Ret.mk ⟨h.ext, rfl⟩
theorem c_fValidC : Calls Tryz.prog 16 #[vC c] w (Ret fun r w' => Ext w w' ∧ r = .bool (valC c).isSome) := by
 have k1 := hc.p1
 have k2 := hc.p2
 by_cases a : 0 ≤ c.tm ∧ c.tm ≤ 3
 rotate_left
 ·have e : (valC c).isSome = false := by unfold valC; rw [if_neg (fun h => a h.1)]; rfl
  have cc1 := fun {W : World} (_ : Ext w W) => c_finF (w := W) a
  rw [e]
  apply e_ref26_Valid
  unfold s_ref26_Valid
  have h := Hp.init [] w
  refine bxA h fun g1 w h => ?_
  refine faS (Eng.ld1 h 0 rfl rfl (cl1 h n_ref26_in (cc1 h.ext) fun w h => ?_))
  refine Gd_FT (Gd_FT (Gd_FT (Pick_F (Gd_FT (Gd_FT (Gd_FT (Pick_F (Gd_FT (Gd_FT (Gd_FT (Pick_F ?_)))))))))))
  exact Ret.mk ⟨h.ext, rfl⟩
 have cc1 := fun {W : World} (_ : Ext w W) => c_finT (w := W) a
 by_cases b : 0 ≤ c.gr ∧ c.gr ≤ 100
 rotate_left
 ·have e : (valC c).isSome = false := by unfold valC; rw [if_neg (fun h => b h.2.1)]; rfl
  have cc2 := fun {W : World} (_ : Ext w W) => c_finF (w := W) b
  rw [e]
  apply e_ref26_Valid
  unfold s_ref26_Valid
  have h := Hp.init [] w
  refine bxA h fun g1 w h => ?_
  refine faS (Eng.ld1 h 0 rfl rfl (cl1 h n_ref26_in (cc1 h.ext) fun w h => ?_))
  refine Gd_T (faS (Gd_T (Eng.ld1 h 0 rfl rfl (Gd_T (cl1 h n_ref26_in (cc2 h.ext) fun w h => ?_)))))
  refine Pick_T (Gd_FT (Gd_FT (Gd_FT (Pick_F (Gd_FT (Gd_FT (Gd_FT (Pick_F ?_))))))))
  exact Ret.mk ⟨h.ext, rfl⟩
 have cc2 := fun {W : World} (_ : Ext w W) => c_finT (w := W) b
 have hs := fun {W : World} (x : Ext w W) => c_fshort (w := W) (D := 9) hc.p1 hc.p2 (by decide)
 rcases hq : shR 9 c.p with _ | x
 ·have e : (valC c).isSome = false := by
   unfold valC
   split
   ·rw [hq]; rfl
   ·rfl
  have cc3 : ∀ {W : World}, Ext w W → Calls Tryz.prog 46 #[.agg #[str c.p.1, str c.p.2], .int .i64 9] W (Ret fun r w' => Ext W w' ∧ r = .bool false) := fun x => by
   have := hs x
   rw [hq] at this; exact this
  rw [e]
  apply e_ref26_Valid
  unfold s_ref26_Valid
  have h := Hp.init [] w
  refine bxA h fun g1 w h => ?_
  refine faS (Eng.ld1 h 0 rfl rfl (cl1 h n_ref26_in (cc1 h.ext) fun w h => ?_))
  refine Gd_T (faS (Gd_T (Eng.ld1 h 0 rfl rfl (Gd_T (cl1 h n_ref26_in (cc2 h.ext) fun w h => ?_)))))
  refine Pick_T (Gd_T (faS (Gd_T (ldA h 0 rfl rfl ?_))))
  refine Gd_T (cl1 h n_ref26_short (cc3 h.ext) fun w h => ?_)
  refine Pick_T (Gd_FT (Gd_FT (Gd_FT (Pick_F ?_))))
  exact Ret.mk ⟨h.ext, rfl⟩
 have cc3 : ∀ {W : World}, Ext w W → Calls Tryz.prog 46 #[.agg #[str c.p.1, str c.p.2], .int .i64 9] W (Ret fun r w' => Ext W w' ∧ r = .bool true) := fun x => by
  have := hs x
  rw [hq] at this; exact this
 by_cases d : 0 ≤ c.cap ∧ c.cap ≤ 1000000000
 ·have e : (valC c).isSome = true := by unfold valC; rw [if_pos ⟨a, b, d⟩, hq]; rfl
  have cc4 := fun {W : World} (_ : Ext w W) => c_finT (w := W) d
  rw [e]
  apply e_ref26_Valid
  unfold s_ref26_Valid
  have h := Hp.init [] w
  refine bxA h fun g1 w h => ?_
  refine faS (Eng.ld1 h 0 rfl rfl (cl1 h n_ref26_in (cc1 h.ext) fun w h => ?_))
  refine Gd_T (faS (Gd_T (Eng.ld1 h 0 rfl rfl (Gd_T (cl1 h n_ref26_in (cc2 h.ext) fun w h => ?_)))))
  refine Pick_T (Gd_T (faS (Gd_T (ldA h 0 rfl rfl ?_))))
  refine Gd_T (cl1 h n_ref26_short (cc3 h.ext) fun w h => ?_)
  refine Pick_T (Gd_T (faS (Gd_T (Eng.ld1 h 0 rfl rfl (Gd_T (cl1 h n_ref26_in (cc4 h.ext) fun w h => ?_))))))
  refine Pick_T ?_
  exact Ret.mk ⟨h.ext, rfl⟩
 ·have e : (valC c).isSome = false := by unfold valC; rw [if_neg (fun h => d h.2.2)]; rfl
  have cc4 := fun {W : World} (_ : Ext w W) => c_finF (w := W) d
  rw [e]
  apply e_ref26_Valid
  unfold s_ref26_Valid
  have h := Hp.init [] w
  refine bxA h fun g1 w h => ?_
  refine faS (Eng.ld1 h 0 rfl rfl (cl1 h n_ref26_in (cc1 h.ext) fun w h => ?_))
  refine Gd_T (faS (Gd_T (Eng.ld1 h 0 rfl rfl (Gd_T (cl1 h n_ref26_in (cc2 h.ext) fun w h => ?_)))))
  refine Pick_T (Gd_T (faS (Gd_T (ldA h 0 rfl rfl ?_))))
  refine Gd_T (cl1 h n_ref26_short (cc3 h.ext) fun w h => ?_)
  refine Pick_T (Gd_T (faS (Gd_T (Eng.ld1 h 0 rfl rfl (Gd_T (cl1 h n_ref26_in (cc4 h.ext) fun w h => ?_))))))
  refine Pick_T ?_
  exact Ret.mk ⟨h.ext, rfl⟩
end
theorem shR_some {D : Nat} {p : RS} {x : Rat} (h : shR D p = some x) : p = tx x ∧ RB x ∧ 0 ≤ x ∧ (Lib.itoa x.num).length ≤ D ∧ (Lib.itoa (x.den : Int)).length ≤ D := by
 unfold shR at h
 split at h
 ·next hl =>
  by_cases ho : okR p.1 p.2
  ·obtain ⟨y, rfl, hy, hq⟩ := qv_ex ho
   rw [hq] at h
   by_cases h0 : 0 ≤ y
   ·simp [h0] at h; subst h; exact ⟨rfl, hy, h0, hl.1, hl.2⟩
   ·simp [h0] at h
  ·rw [qv_none ho] at h; cases h
 ·cases h
abbrev fI (x : Int) : List Value := [.int .i64 x]
abbrev lateOk (x : Int) : Prop := 0 ≤ x ∧ x ≤ 4398046511104
theorem c_month1 {w : World} {x : Int} : Calls Tryz.prog 70 #[.int .i64 x] w (Ret fun r w' => Ext w w' ∧ r = .bool (!decide (lateOk x))) := by
 by_cases a : lateOk x
 ·have cc1 := fun {W : World} (_ : Ext w W) => c_inT (w := W) a
  rw [decide_eq_true a]
  apply e_contract_month_1
  unfold s_contract_month_1
  have h := Hp.init [] w
  refine cl1 h n_contract_in (cc1 h.ext) fun w h => ?_
  refine Un_T ?_
  exact Ret.mk ⟨h.ext, rfl⟩
 ·have cc1 := fun {W : World} (_ : Ext w W) => c_inF (w := W) a
  rw [decide_eq_false a]
  apply e_contract_month_1
  unfold s_contract_month_1
  have h := Hp.init [] w
  refine cl1 h n_contract_in (cc1 h.ext) fun w h => ?_
  refine Un_F ?_
  exact Ret.mk ⟨h.ext, rfl⟩
section
variable {w0 : World} {v : Value} {l : List Int} (hv : SlC w0 1 v l.length (l.flatMap fI)) (hl : l.length ≤ 9223372036854775807) (hI : ∀ x ∈ l, I64 x)
include hv hl hI
theorem c_IndexF : Calls Tryz.prog 100 #[v, .func (.func 70) #[] #[]] w0 (Ret fun r w' => Ext w0 w' ∧ ∃ z : Int, r = .int .i64 z ∧ (z < 0 ↔ ∀ x ∈ l, lateOk x) ∧ -1 ≤ z ∧ z ≤ 9223372036854775807) := by
 apply e_slices_IndexFunc_int_int
 unfold s_slices_IndexFunc_int_int
 have h := Hp.init [] w0
 refine leS (hv.hp h) ?_
 refine Lp1.mk (fun i W => ∃ j : Nat, j ≤ l.length ∧ i = .int .i64 j ∧ (∀ x ∈ l.take j, lateOk x) ∧ Hp [] w0 W [])
  (fun i _ => match i with | .int _ i' => l.length - i'.toNat | _ => 0) ⟨0, by omega, rfl, by simp, h⟩ ?_
 clear h
 rintro _ W ⟨j, hj, rfl, hall, h⟩
 by_cases hjl : j < l.length
 ·refine Exists.elim (p := fun x => l[j]? = some x) ⟨_, List.getElem?_eq_getElem hjl⟩ fun x hx => ?_
  have sx : Seg (l.flatMap fI) (j * 1) (fI x) := flat_seg (f := fI) (fun _ => rfl) hx
  by_cases a : lateOk x
  ·have cc1 : ∀ {W : World}, Ext w0 W → Calls Tryz.prog 70 #[.int .i64 x] W (Ret fun r w' => Ext W w' ∧ r = .bool false) := fun {W} _ => by
    have := c_month1 (w := W) (x := x)
    rw [decide_eq_true a] at this; exact this
   refine Bn_ltT (by omega) (If_T (iaH h ‹_› (by omega) fun zb zo zk zv zc => ?_))
   refine lh0 h ‹_› ‹_› (by rfl) ?_
   refine cw1 h n_contract_month_1 (cc1 h.ext) fun w h => ?_
   refine If_F (Bn_ad (by omega) (by omega) ?_)
   refine ⟨⟨j + 1, by omega, rfl, fun y hy => ?_, h⟩, by show l.length - ((j : Int) + 1).toNat < l.length - (j : Int).toNat; omega⟩
   rw [take_snoc hx] at hy
   rcases List.mem_append.1 hy with hy | hy
   ·exact hall y hy
   ·simp at hy; subst hy; exact a
  ·have cc1 : ∀ {W : World}, Ext w0 W → Calls Tryz.prog 70 #[.int .i64 x] W (Ret fun r w' => Ext W w' ∧ r = .bool true) := fun {W} _ => by
    have := c_month1 (w := W) (x := x)
    rw [decide_eq_false a] at this; exact this
   refine Bn_ltT (by omega) (If_T (iaH h ‹_› (by omega) fun zb zo zk zv zc => ?_))
   refine lh0 h ‹_› ‹_› (by rfl) ?_
   refine cw1 h n_contract_month_1 (cc1 h.ext) fun w h => ?_
   refine If_T ?_
   exact Ret.mk ⟨h.ext, j, rfl, ⟨fun h => by omega, fun h => absurd (h x (List.mem_of_getElem? hx)) a⟩, by omega, by omega⟩
 rw [List.take_of_length_le (by omega)] at hall
 refine Bn_ltF (by omega) (If_F ?_)
 exact Ret.mk ⟨h.ext, -1, rfl, ⟨fun _ => hall, fun _ => by decide⟩, by decide, by decide⟩
theorem c_month : Calls Tryz.prog 38 #[v] w0 (Ret fun r w' => Ext w0 w' ∧ ∃ b : Bool, r = .bool b ∧ (b = true ↔ l.length ≤ 100 ∧ ∀ x ∈ l, lateOk x)) := by
 by_cases h100 : l.length ≤ 100
 ·apply e_contract_month
  unfold s_contract_month
  have h := Hp.init [] w0
  refine leS (hv.hp h) ?_
  refine Bn_leT (by omega) (Gd_T (Gd_T ?_))
  refine Cl_i n_slices_ContainsFunc_int_int (e_slices_ContainsFunc_int_int (R := Ret fun r w' => Ext w0 w' ∧ ∃ b : Bool, r = .bool b ∧ (b = true ↔ ¬ ∀ x ∈ l, lateOk x)) ?_) ?_
  ·unfold s_slices_ContainsFunc_int_int
   refine Cl_i n_slices_IndexFunc_int_int (c_IndexF (hv.hp h) hl hI) ?_
   rintro _ w' ⟨x, z, rfl, hz, z1, z2⟩
   have h := h.x x
   by_cases h0 : z < 0
   ·refine Bn_geF (by omega) ?_
    exact Ret.mk ⟨h.ext, false, rfl, ⟨fun h => (by cases h), fun h => absurd (hz.1 h0) h⟩⟩
   ·refine Bn_geT (by omega) ?_
    exact Ret.mk ⟨h.ext, true, rfl, ⟨fun _ h => h0 (hz.2 h), fun _ => rfl⟩⟩
  ·rintro _ w' ⟨x, b, rfl, hb⟩
   have h := Hp.init [] w0
   have h := h.x x
   cases b
   ·have ha : ∀ x ∈ l, lateOk x := Classical.not_not.1 fun h => by have := hb.2 h; cases this
    refine Gd_T (Un_F (Pick_T ?_))
    exact Ret.mk ⟨h.ext, true, rfl, ⟨fun _ => ⟨h100, ha⟩, fun _ => rfl⟩⟩
   ·have ha := hb.1 rfl
    refine Gd_T (Un_T (Pick_T ?_))
    exact Ret.mk ⟨h.ext, false, rfl, ⟨fun h => (by cases h), fun h => absurd h.2 ha⟩⟩
 ·apply e_contract_month
  unfold s_contract_month
  have h := Hp.init [] w0
  refine leS (hv.hp h) ?_
  refine Bn_leF (by omega) (Gd_FT (Gd_FT (Gd_FT (Pick_F ?_))))
  exact Ret.mk ⟨h.ext, false, rfl, ⟨fun h => (by cases h), fun h => absurd h.1 h100⟩⟩
end
def nextZ (p : Rat) (g : Nat) (L : Int) (y : Int) : Int × Nat × Int :=
 if y = 0 then (0, g, L) else match g with
  | 0 => (min (costZ p y) L, 0, L - min (costZ p y) L)
  | g + 1 => (0, g, L)
theorem penL_cons (p : Rat) (g : Nat) (L y : Int) (l : List Int) : penL p g L (y :: l) = (nextZ p g L y).1 :: penL p (nextZ p g L y).2.1 (nextZ p g L y).2.2 l := by
 unfold nextZ
 conv => lhs; unfold penL
 split
 ·rfl
 ·cases g <;> rfl
def stZ (p : Rat) : Nat → Int → List Int → Nat × Int
 | g, L, [] => (g, L)
 | g, L, y :: l => stZ p (nextZ p g L y).2.1 (nextZ p g L y).2.2 l
theorem penL_snoc (p : Rat) (y : Int) : ∀ (l : List Int) (g : Nat) (L : Int), penL p g L (l ++ [y]) = penL p g L l ++ [(nextZ p (stZ p g L l).1 (stZ p g L l).2 y).1]
 | [], g, L => by
  show penL p g L [y] = [] ++ [(nextZ p g L y).1]
  rw [penL_cons]; rfl
 | x :: l, g, L => by
  show penL p g L (x :: (l ++ [y])) = _
  rw [penL_cons, penL_snoc p y l, penL_cons]; rfl
theorem stZ_snoc (p : Rat) (y : Int) : ∀ (l : List Int) (g : Nat) (L : Int), stZ p g L (l ++ [y]) = (nextZ p (stZ p g L l).1 (stZ p g L l).2 y).2
 | [], g, L => rfl
 | x :: l, g, L => by
  show stZ p _ _ (l ++ [y]) = _
  rw [stZ_snoc p y l]; rfl
theorem nextZ_bd {p : Rat} (hp : 0 ≤ p) {g : Nat} {L y : Int} (hg : g ≤ 100) (hL : 0 ≤ L ∧ L ≤ 1000000000) (hy : 0 ≤ y) : (nextZ p g L y).2.1 ≤ 100 ∧ 0 ≤ (nextZ p g L y).2.2 ∧ (nextZ p g L y).2.2 ≤ 1000000000 ∧ 0 ≤ (nextZ p g L y).1 ∧ (nextZ p g L y).1 ≤ 1000000000 := by
 have := costZ_nn hp hy
 unfold nextZ
 split
 ·simp only; omega
 ·cases g <;> simp only <;> omega
theorem stZ_bd {p : Rat} (hp : 0 ≤ p) : ∀ {l : List Int} {g : Nat} {L : Int}, g ≤ 100 → (0 ≤ L ∧ L ≤ 1000000000) → (∀ x ∈ l, 0 ≤ x) → (stZ p g L l).1 ≤ 100 ∧ 0 ≤ (stZ p g L l).2 ∧ (stZ p g L l).2 ≤ 1000000000
 | [], g, L, hg, hL, _ => ⟨hg, hL.1, hL.2⟩
 | x :: l, g, L, hg, hL, h => by
  have := nextZ_bd hp hg hL (h x (by simp))
  exact stZ_bd hp (l := l) this.1 ⟨this.2.1, this.2.2.1⟩ fun y hy => h y (by simp [hy])
structure Pri (x : Rat) : Prop where
 s : Sml x
 nn : 0 ≤ x
theorem itoa_sz {z : Int} {k : Nat} (hk : 1 ≤ k) (h0 : 0 ≤ z) (h : (Lib.itoa z).length ≤ k) : z.natAbs < 10 ^ k := by
 unfold Lib.itoa at h
 rw [if_neg (by omega)] at h
 have := (dec_len hk).1 h
 omega
theorem shR_sml {D : Nat} {p : RS} {x : Rat} (hD : 1 ≤ D) (hD9 : D ≤ 99) (h : shR D p = some x) : p = tx x ∧ Pri x := by
 obtain ⟨h1, h2, h3, h4, h5⟩ := shR_some h
 have a := itoa_sz hD (Rat.num_nonneg.2 h3) h4
 have b := itoa_sz hD (by omega : (0 : Int) ≤ ((x.den : Nat) : Int)) h5
 have hm : 10 ^ D ≤ 10 ^ 99 := Nat.pow_le_pow_right (by decide) hD9
 exact ⟨h1, ⟨⟨Nat.lt_of_lt_of_le a hm, Nat.lt_of_lt_of_le b hm⟩, h3⟩⟩
theorem sml_late {y : Int} (h : lateOk y) : Sml (qI y) := by
 have h1 := h.1
 have h2 := h.2
 have hb : (5000000000000 : Nat) ≤ 10 ^ 99 := by decide +kernel
 refine ⟨?_, ?_⟩
 ·unfold Sz; rw [Rat.num_intCast]; omega
 ·unfold Sz; rw [Rat.den_intCast]; show ((1 : Nat) : Int).natAbs < 10 ^ 99; decide +kernel
theorem mul_rb {x y : Rat} (hx : Sml x) (hy : Sml y) : RB (x * y) := (SR.mul hx hy).rb (by decide) (by decide)
abbrev tM : TypeId := 74
abbrev fM (x : Rat) (g : Nat) (L : Int) : List Value := [str (eN (some x)), str (eD (some x)), .int .i64 (g : Int), .int .i64 L]
section
variable {w0 w : World} {E : List Et} {b : Nat} {x : Rat} {g : Nat} {L y : Int} (he : En w0) (hp : Pri x) (hg : g ≤ 100) (hL : 0 ≤ L ∧ L ≤ 1000000000) (hy : lateOk y)
include he hp hg hL hy
set_option maxHeartbeats 4000000 in
theorem c_next (h : Hp [] w0 w (bx b tM (fM x g L) :: E)) : Calls Tryz.prog 40 #[pr b 0, .int .i64 y] w (Ret fun r w' => r = .int .i64 (nextZ x g L y).1 ∧ Hp [] w0 w' (bx b tM (fM x (nextZ x g L y).2.1 (nextZ x g L y).2.2) :: E)) := by
 have y1 := hy.1
 have y2 := hy.2
 have L1 := hL.1
 have L2 := hL.2
 by_cases h0 : y = 0
 ·have e : nextZ x g L y = (0, g, L) := by unfold nextZ; rw [if_pos h0]
  rw [e]
  apply e_contract_meter_next
  unfold s_contract_meter_next
  refine Bn_eqT (by omega) (If_T ?_)
  exact Ret.mk ⟨rfl, h⟩
 rcases g with _ | g
 rotate_left
 ·have e : nextZ x (g + 1) L y = (0, g, L) := by unfold nextZ; rw [if_neg h0]
  rw [e]
  have hgz : (((g + 1 : Nat) : Int)) - 1 = (g : Int) := by omega
  apply e_contract_meter_next
  unfold s_contract_meter_next
  refine Bn_eqF (by omega) (If_F (Nc_ok ?_))
  refine faS (Eng.ld1 h 0 rfl rfl (Bn_gtT (by omega) (If_T (Nc_ok ?_))))
  refine faS (Eng.ld1 h 0 rfl rfl (Bn_su (by omega) (by omega) (Nc_ok ?_)))
  refine faS (st1 h 0 rfl rfl rfl rfl fun w h => ?_)
  dsimp only [List.set] at h
  rw [hgz] at h
  exact Ret.mk ⟨rfl, h⟩
 have e : nextZ x 0 L y = (min (costZ x y) L, 0, L - min (costZ x y) L) := by unfold nextZ; rw [if_neg h0]
 have cost0 := costZ_nn hp.nn y1
 have hw : whZ (x * qI y) L = min (costZ x y) L := rfl
 have hxy : 0 ≤ x * qI y := Rat.mul_nonneg hp.nn (by show (0 : Rat) ≤ ((y : Int) : Rat); exact_mod_cast y1)
 have cc1 := fun {W : World} (x : Ext w0 W) => c_Of1 (w := W) (n := y) (he.hT.ext x) (by omega)
 have cc2 : ∀ {W : World}, Ext w0 W → Calls Tryz.prog 28 #[ov (some x), ov (some (qI y))] W (Ret fun r w' => Ext W w' ∧ r = .tuple #[ov (some (x * qI y)), .int .i64 0]) := fun {W} e => by
  have := o_mul (w := W) (o := some x) (p := some (qI y)) (.some hp.s.rb) (.some (sml_late hy).rb) (he.hT.ext e)
  rw [omul_ok hp.s (sml_late hy)] at this
  exact this
 have cc3 : ∀ {W : World}, Ext w0 W → Calls Tryz.prog 51 #[ov (some (x * qI y)), .int .i64 L] W (Ret fun r w' => Ext W w' ∧ r = .int .i64 (min (costZ x y) L)) := fun {W} e => by
  have := c_whole (w0 := W) (mul_rb hp.s (sml_late hy)) hxy hL (he.hT.ext e)
  rw [hw] at this
  exact this
 rw [e]
 apply e_contract_meter_next
 unfold s_contract_meter_next
 refine Bn_eqF (by omega) (If_F (Nc_ok ?_))
 refine faS (Eng.ld1 h 0 rfl rfl (Bn_gtF (by omega) (If_F (cl1 h n_rational_Of (cc1 h.ext) fun w h => ?_))))
 refine Ex2 (alS h fun g1 w h => ?_)
 refine stA h 0 rfl rfl rfl rfl fun w h => ?_
 dsimp only [List.set] at h
 refine Jn1.lfb tR (fO (some (x * qI y))) h (fun K lf1 => ?_) (fun gx w h => ?_)
 ·refine NcP_ok ?_
  replace h := h.dr
  refine dfS (dlA h 1 rfl rfl ?_)
  refine dlA h 0 rfl rfl ?_
  refine ⟨?_, ?_⟩
  refine cl1 h n_rational_Mul (cc2 h.ext) fun w h => ?_
  refine ExP2 (alS h fun g2 w h => ?_)
  refine klA h 2 rfl rfl ?_
  refine klA h 1 rfl rfl ?_
  refine stA h 0 rfl rfl rfl rfl fun w h => ?_
  exact lf1 _ _ h
  refine alS h fun g2 w h => ?_
  refine klA h 2 rfl rfl ?_
  refine klA h 1 rfl rfl ?_
  refine cl1 h n_rational_Mul (cc2 h.ext) fun w h => ?_
  refine ExP2 (stA h 0 rfl rfl rfl rfl fun w h => ?_)
  exact lf1 _ _ h
 replace h := h.dr
 refine dlA h 0 rfl rfl ?_
 refine NcP_ok ?_
 refine dfS (dl1 h 2 rfl rfl (cl1 h n_contract_whole (cc3 h.ext) fun w h => ?_))
 refine Nc_ok ?_
 refine faS (Eng.ld1 h 2 rfl rfl (Bn_su (by omega) (by omega) (Nc_ok ?_)))
 refine faS (st1 h 2 rfl rfl rfl rfl fun w h => ?_)
 dsimp only [List.set] at h
 exact Ret.mk ⟨rfl, h.drop 2⟩
end
section
variable {w0 w : World} {E : List Et} {b : Nat} {x : Rat} {g : Nat} {L : Int} {v : Value} {l : List Int} (he : En w0) (hp : Pri x) (hg : g ≤ 100) (hL : 0 ≤ L ∧ L ≤ 1000000000) (hv : SlC w0 1 v l.length (l.flatMap fI)) (hall : ∀ y ∈ l, lateOk y) (hll : l.length ≤ 100)
include he hp hg hL hv hall hll
set_option maxHeartbeats 4000000 in
theorem c_each (h : Hp [] w0 w (bx b tM (fM x g L) :: E)) : Calls Tryz.prog 39 #[v, .func (.func 40) #[pr b 0] #[]] w (Ret fun r w' => Hp [] w0 w' (ro tI 1 r l.length ((penL x g L l).flatMap fI) :: bx b tM (fM x (stZ x g L l).1 (stZ x g L l).2) :: E)) := by
 apply e_contract_each_int_int
 unfold s_contract_each_int_int
 refine leS (hv.hp h) ?_
 have h := h.nil tI 1
 refine Lp2.mk (fun u i W => ∃ j : Nat, j ≤ l.length ∧ i = .int .i64 j ∧ Hp [] w0 W (ro tI 1 u j ((penL x g L (l.take j)).flatMap fI) :: bx b tM (fM x (stZ x g L (l.take j)).1 (stZ x g L (l.take j)).2) :: E))
  (fun _ i _ => match i with | .int _ i' => l.length - i'.toNat | _ => 0) ⟨0, by omega, rfl, h⟩ ?_
 clear h
 rintro u _ W ⟨j, hj, rfl, h⟩
 by_cases hjl : j < l.length
 ·refine Exists.elim (p := fun x => l[j]? = some x) ⟨_, List.getElem?_eq_getElem hjl⟩ fun y hy => ?_
  have sx : Seg (l.flatMap fI) (j * 1) (fI y) := flat_seg (f := fI) (fun _ => rfl) hy
  have hlj : ∀ z ∈ l.take j, 0 ≤ z := fun z hz => (hall z (List.mem_of_mem_take hz)).1
  have hb := stZ_bd hp.nn hg hL hlj
  refine Bn_ltT (by omega) (If_T (iaH h ‹_› (by omega) fun zb zo zk zv zc => ?_))
  refine lh0 h ‹_› ‹_› (by rfl) ?_
  refine Cw_i n_contract_meter_next (c_next he hp hb.1 ⟨hb.2.1, hb.2.2⟩ (hall y (List.mem_of_getElem? hy)) h.up1) ?_
  rintro _ w' ⟨rfl, h⟩
  have h := h.up1
  refine bs1A h (by rfl) (by decide) (by rfl) (by decide) fun v1 w h => ?_
  refine apR (by rfl) (by decide) h 1 rfl (qZ 0 h rfl) (by first | rfl | assumption) (by omega) fun v2 w h => ?_
  refine Bn_ad (by omega) (by omega) ?_
  dsimp only [List.set] at h
  refine ⟨⟨j + 1, by omega, rfl, ?_⟩, by show l.length - ((j : Int) + 1).toNat < l.length - (j : Int).toNat; omega⟩
  rw [take_snoc hy, penL_snoc, stZ_snoc, List.flatMap_append]
  exact h.drop 1
 have hjl' : j = l.length := by omega
 subst hjl'
 rw [List.take_length] at h
 refine Bn_ltF (by omega) (If_F ?_)
 exact Ret.mk h
end
noncomputable def penO (c : CT) (l : List Int) : Option (List Int) := (valC c).bind fun x => if l.length ≤ 100 ∧ ∀ y ∈ l, lateOk y then some (penL x c.gr.toNat c.cap l) else none
theorem valC_some {c : CT} {x : Rat} (h : valC c = some x) : c.p = tx x ∧ Pri x ∧ (0 ≤ c.gr ∧ c.gr ≤ 100) ∧ (0 ≤ c.cap ∧ c.cap ≤ 1000000000) := by
 unfold valC at h
 split at h
 ·next hc =>
  have := shR_sml (by decide) (by decide) h
  exact ⟨this.1, this.2, hc.2.1, hc.2.2⟩
 ·cases h
def PenR (w0 : World) (o : Option (List Int)) (r : Value) (w' : World) : Prop := match o with
 | some m => ∃ v, r = .tuple #[v, .int .i64 0] ∧ Hp [] w0 w' [ro tI 1 v m.length (m.flatMap fI)]
 | none => r = .tuple #[.slice none 0 0, .int .i64 260] ∧ Ext w0 w'
section
variable {w0 : World} {c : CT} {v : Value} {l : List Int} (hc : CTk c) (hv : SlC w0 1 v l.length (l.flatMap fI)) (hI : ∀ y ∈ l, I64 y) (hll : l.length ≤ 9223372036854775807)
include hc hv hI hll
set_option maxHeartbeats 4000000 in
theorem c_Penalties (he : En w0) : Calls Tryz.prog 13 #[vC c, v] w0 (Ret (PenR w0 (penO c l))) := by
 have hV := fun {W : World} (x : Ext w0 W) => c_ValidC (w := W) hc (he.hT.ext x)
 rcases hq : valC c with _ | x
 ·have e : penO c l = none := by unfold penO; rw [hq]; rfl
  have cc1 : ∀ {W : World}, Ext w0 W → Calls Tryz.prog 15 #[vC c] W (Ret fun r w' => Ext W w' ∧ r = .bool false) := fun x => by
   have := hV x
   rw [hq] at this; exact this
  rw [e]
  apply e_contract_Penalties
  unfold s_contract_Penalties
  have h := Hp.init [] w0
  refine bxA h fun g1 w h => ?_
  refine ldA h 0 rfl rfl ?_
  refine cl1 h n_contract_Valid (cc1 h.ext) fun w h => ?_
  refine Un_F (Gd_TF (Gd_TF (Gd_TF (Pick_T (If_T ?_)))))
  exact Ret.mk ⟨rfl, h.ext⟩
 obtain ⟨hcp, hp, hg, hL⟩ := valC_some hq
 have cc1 : ∀ {W : World}, Ext w0 W → Calls Tryz.prog 15 #[vC c] W (Ret fun r w' => Ext W w' ∧ r = .bool true) := fun x => by
  have := hV x
  rw [hq] at this; exact this
 by_cases hm : l.length ≤ 100 ∧ ∀ y ∈ l, lateOk y
 ·have e : penO c l = some (penL x c.gr.toNat c.cap l) := by unfold penO; rw [hq]; simp only [Option.bind_some]; rw [if_pos hm]
  have cc2 : ∀ {W : World}, Ext w0 W → ∀ {u : Value}, SlC W 1 u l.length (l.flatMap fI) → Calls Tryz.prog 38 #[u] W (Ret fun r w' => Ext W w' ∧ r = .bool true) := fun {W} x {u} hu => by
   refine (c_month hu hll hI).mono ?_
   rintro r w' ⟨_, rfl, x2, b, rfl, hb⟩
   rw [hb.2 hm]
   exact Ret.mk ⟨x2, rfl⟩
  have hgn : ((c.gr.toNat : Nat) : Int) = c.gr := Int.toNat_of_nonneg hg.1
  have e1 : c.p.1 = eN (some x) := by rw [hcp]; rfl
  have e2 : c.p.2 = eD (some x) := by rw [hcp]; rfl
  rw [e]
  apply e_contract_Penalties
  unfold s_contract_Penalties
  have h := Hp.init [] w0
  refine bxA h fun g1 w h => ?_
  refine ldA h 0 rfl rfl ?_
  refine cl1 h n_contract_Valid (cc1 h.ext) fun w h => ?_
  refine Un_T (Gd_F (Gd_F (cl1 h n_contract_month (cc2 h.ext (by first | exact (hv.hp h) | assumption)) fun w h => ?_)))
  refine Gd_F (Un_T (Pick_F (If_F (faS (ldA h 0 rfl rfl ?_)))))
  refine faS (Eng.ld1 h 0 rfl rfl (faS (Eng.ld1 h 0 rfl rfl (bdS (PC.cons (by rfl) (PC.cons (by rfl) (PC.cons (by rfl) PC.nil))) (by rfl) ?_))))
  refine bxA h fun g2 w h => ?_
  rw [e1, e2, ← hgn] at h
  refine Cl_i n_contract_each_int_int (c_each (g := c.gr.toNat) he hp (by omega) hL hv hm.2 hm.1 h) ?_
  rintro r w' h
  skip
  exact Ret.mk ⟨r, rfl, by rw [penL_len]; exact h.pick [0] (by decide) rfl⟩
 ·have e : penO c l = none := by unfold penO; rw [hq]; simp only [Option.bind_some]; rw [if_neg hm]
  have cc2 : ∀ {W : World}, Ext w0 W → ∀ {u : Value}, SlC W 1 u l.length (l.flatMap fI) → Calls Tryz.prog 38 #[u] W (Ret fun r w' => Ext W w' ∧ r = .bool false) := fun {W} x {u} hu => by
   refine (c_month hu hll hI).mono ?_
   rintro r w' ⟨_, rfl, x2, b, rfl, hb⟩
   have hb' : b = false := by
    cases b
    ·rfl
    ·exact absurd (hb.1 rfl) hm
   rw [hb']
   exact Ret.mk ⟨x2, rfl⟩
  rw [e]
  apply e_contract_Penalties
  unfold s_contract_Penalties
  have h := Hp.init [] w0
  refine bxA h fun g1 w h => ?_
  refine ldA h 0 rfl rfl ?_
  refine cl1 h n_contract_Valid (cc1 h.ext) fun w h => ?_
  refine Un_T (Gd_F (Gd_F (cl1 h n_contract_month (cc2 h.ext (by first | exact (hv.hp h) | assumption)) fun w h => ?_)))
  refine Gd_F (Un_F (Pick_F (If_T ?_)))
  exact Ret.mk ⟨rfl, h.ext⟩
end
end Go.Proofs.YtjmdnjnjepinoaaGreatDoor
