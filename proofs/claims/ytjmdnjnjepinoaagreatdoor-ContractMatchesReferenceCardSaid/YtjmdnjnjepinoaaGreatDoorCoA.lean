/-
  Contracts and plain lemmas. By an AI agent.
-/
import Derived.Test.YtjmdnjnjepinoaaGreatDoorDwA
import Derived.Test.YtjmdnjnjepinoaaGreatDoorEsA
import Derived.Test.YtjmdnjnjepinoaaGreatDoorTyp
import Derived.Test.YtjmdnjnjepinoaaGreatDoorPlain
set_option linter.unusedSimpArgs false
set_option linter.unusedVariables false
set_option linter.unusedSectionVars false
namespace Go.Proofs.YtjmdnjnjepinoaaGreatDoor
open Go Go.Eng Go.Proofs Go.Num Go.RowKit
set_option maxRecDepth 100000
abbrev RS := List UInt8 × List UInt8
abbrev tx (x : Rat) : RS := (Lib.itoa x.num, Lib.itoa (x.den : Int))
abbrev fR (p : RS) : List Value := [str p.1, str p.2]
abbrev fO (o : Option Rat) : List Value := [str (eN o), str (eD o)]
open Classical in
noncomputable def qv (p : RS) : Option Rat := if h : okR p.1 p.2 then some (Classical.choose h) else none
theorem qv_none {p : RS} (h : ¬ okR p.1 p.2) : qv p = none := by unfold qv; rw [dif_neg h]
theorem tx_inj {x y : Rat} (h : tx x = tx y) : x = y := by
 unfold tx at h
 simp only [Prod.mk.injEq] at h
 have h1 := itoa_inj h.1
 have h2 := itoa_inj h.2
 exact Rat.ext h1 (by omega)
theorem qv_tx {x : Rat} (h : RB x) : qv (tx x) = some x := by
 have ho : okR (tx x).1 (tx x).2 := ⟨x, rfl, rfl, h⟩
 unfold qv
 rw [dif_pos ho]
 have hs := Classical.choose_spec ho
 have : tx (Classical.choose ho) = tx x := Prod.ext hs.1.symm hs.2.1.symm
 rw [tx_inj this]
theorem qv_ex {p : RS} (h : okR p.1 p.2) : ∃ x, p = tx x ∧ RB x ∧ qv p = some x := by
 obtain ⟨x, h1, h2, h3⟩ := h
 have hp : p = tx x := Prod.ext h1 h2
 exact ⟨x, hp, h3, by rw [hp]; exact qv_tx h3⟩
theorem take_snoc {α : Type} {l : List α} {j : Nat} {a : α} (h : l[j]? = some a) : l.take (j + 1) = l.take j ++ [a] := by
 rw [List.take_add_one, h]; rfl
theorem take_len {α : Type} {l : List α} {j : Nat} (h : j ≤ l.length) : (l.take j).length = j := by rw [List.length_take]; omega
def RSok (l : List RS) : Prop := ∀ p ∈ l, p.1.length ≤ 1000000 ∧ p.2.length ≤ 1000000
def SlR (w : World) (v : Value) (l : List RS) : Prop := SlC w 2 v l.length (l.flatMap fR)
theorem SlR.ext {w w' : World} {v : Value} {l : List RS} (h : SlR w v l) (x : Ext w w') : SlR w' v l := Eng.SlC.ext h x
theorem Sml.one : Sml (1 : Rat) := ⟨by unfold Sz; decide, by unfold Sz; decide⟩
theorem rb0 : RB (0 : Rat) := Sml.rb ⟨by unfold Sz; decide, by unfold Sz; decide⟩
abbrev I64 (z : Int) : Prop := -9223372036854775808 ≤ z ∧ z ≤ 9223372036854775807
abbrev qI (n : Int) : Rat := (n : Rat)
theorem o_cmp {x y : Rat} {w : World} (hx : RB x) (hy : RB y) (hT : Tab w) : Calls Tryz.prog 32 #[ov (some x), ov (some y)] w (Ret fun r w' => Ext w w' ∧ r = .int .i64 (cmpQ x y)) := by
 have := c_qCmp (w := w) (itoa_ok hx.n) (itoa_ok hx.d) (itoa_ok hy.n) (itoa_ok hy.d) hT
 rw [ans2_ok hx hy] at this; exact this
theorem o_fcmp {x y : Rat} {w : World} (hx : RB x) (hy : RB y) : Calls Tryz.prog 57 #[ov (some x), ov (some y)] w (Ret fun r w' => Ext w w' ∧ r = .int .i64 (cmpQ x y)) := fCmp_ok hx hy
structure En (w : World) : Prop where
 hT : Tab w
 hZ : Blk w 0 23 [str [48], str [49]]
theorem En.ext {w w' : World} (h : En w) (x : Ext w w') : En w' := ⟨h.hT.ext x, h.hZ.ext x⟩
def pickZ (c n : Int) : Int := if c < 0 then (-(c + 1)) % n else c % n
theorem pickZ_bd {c n : Int} (hn : 0 < n) : 0 ≤ pickZ c n ∧ pickZ c n < n := by
 unfold pickZ
 split
 ·exact ⟨Int.emod_nonneg _ (by omega), Int.emod_lt_of_pos _ hn⟩
 ·exact ⟨Int.emod_nonneg _ (by omega), Int.emod_lt_of_pos _ hn⟩
section
variable {w : World} {c n : Int} (hc : I64 c) (hn : 0 < n)
include hc hn
theorem c_pickR : Calls Tryz.prog 35 #[.int .i64 c, .int .i64 n] w (Ret fun r w' => Ext w w' ∧ r = .int .i64 (pickZ c n)) := by
 apply e_ref26_pick
 unfold s_ref26_pick
 have h := Hp.init [] w
 by_cases h0 : c < 0
 ·have e : pickZ c n = (-(c + 1)) % n := by unfold pickZ; rw [if_pos h0]
  rw [e]
  refine Bn_ltT (by omega) (If_T (Bn_ad (by omega) (by omega) (Eng.Un_ng (by omega) (by omega) (Bn_rm (by omega) (by omega) ?_))))
  exact Ret.mk ⟨h.ext, rfl⟩
 ·have e : pickZ c n = c % n := by unfold pickZ; rw [if_neg h0]
  rw [e]
  refine Bn_ltF (by omega) (If_F (Bn_rm (by omega) (by omega) ?_))
  exact Ret.mk ⟨h.ext, rfl⟩
theorem c_pickL : Calls Tryz.prog 23 #[.int .i64 c, .int .i64 n] w (Ret fun r w' => Ext w w' ∧ r = .int .i64 (pickZ c n)) := by
 apply e_law26_pick
 unfold s_law26_pick
 have h := Hp.init [] w
 by_cases h0 : c < 0
 ·have e : pickZ c n = (-(c + 1)) % n := by unfold pickZ; rw [if_pos h0]
  rw [e]
  refine Bn_ltT (by omega) (If_T (Bn_ad (by omega) (by omega) (Eng.Un_ng (by omega) (by omega) (Bn_rm (by omega) (by omega) ?_))))
  exact Ret.mk ⟨h.ext, rfl⟩
 ·have e : pickZ c n = c % n := by unfold pickZ; rw [if_neg h0]
  rw [e]
  refine Bn_ltF (by omega) (If_F (Bn_rm (by omega) (by omega) ?_))
  exact Ret.mk ⟨h.ext, rfl⟩
end
section
variable {w : World} {n lo hi : Int}
theorem c_inT (h : lo ≤ n ∧ n ≤ hi) : Calls Tryz.prog 44 #[.int .i64 n, .int .i64 lo, .int .i64 hi] w (Ret fun r w' => Ext w w' ∧ r = .bool true) := by
 have h1 := h.1
 have h2 := h.2
 apply e_contract_in
 unfold s_contract_in
 have h := Hp.init [] w
 refine Bn_geT (by omega) (Gd_T (Gd_T (Gd_T (Bn_leT (by omega) (Pick_T ?_)))))
 exact Ret.mk ⟨h.ext, rfl⟩
theorem c_inF (h : ¬ (lo ≤ n ∧ n ≤ hi)) : Calls Tryz.prog 44 #[.int .i64 n, .int .i64 lo, .int .i64 hi] w (Ret fun r w' => Ext w w' ∧ r = .bool false) := by
 apply e_contract_in
 unfold s_contract_in
 by_cases h1 : lo ≤ n
 ·have h2 : hi < n := by omega
  have h := Hp.init [] w
  refine Bn_geT (by omega) (Gd_T (Gd_T (Gd_T (Bn_leF (by omega) (Pick_T ?_)))))
  exact Ret.mk ⟨h.ext, rfl⟩
 ·have h := Hp.init [] w
  refine Bn_geF (by omega) (Gd_FT (Gd_FT (Gd_FT (Pick_F ?_))))
  exact Ret.mk ⟨h.ext, rfl⟩
theorem c_finT (h : lo ≤ n ∧ n ≤ hi) : Calls Tryz.prog 41 #[.int .i64 n, .int .i64 lo, .int .i64 hi] w (Ret fun r w' => Ext w w' ∧ r = .bool true) := by
 have h1 := h.1
 have h2 := h.2
 apply e_ref26_in
 unfold s_ref26_in
 have h := Hp.init [] w
 refine Bn_geT (by omega) (Gd_T (Gd_T (Gd_T (Bn_leT (by omega) (Pick_T ?_)))))
 exact Ret.mk ⟨h.ext, rfl⟩
theorem c_finF (h : ¬ (lo ≤ n ∧ n ≤ hi)) : Calls Tryz.prog 41 #[.int .i64 n, .int .i64 lo, .int .i64 hi] w (Ret fun r w' => Ext w w' ∧ r = .bool false) := by
 apply e_ref26_in
 unfold s_ref26_in
 by_cases h1 : lo ≤ n
 ·have h2 : hi < n := by omega
  have h := Hp.init [] w
  refine Bn_geT (by omega) (Gd_T (Gd_T (Gd_T (Bn_leF (by omega) (Pick_T ?_)))))
  exact Ret.mk ⟨h.ext, rfl⟩
 ·have h := Hp.init [] w
  refine Bn_geF (by omega) (Gd_FT (Gd_FT (Gd_FT (Pick_F ?_))))
  exact Ret.mk ⟨h.ext, rfl⟩
end
theorem ofQ {n d : Int} (hd : d ≠ 0) : rv (makeQ n d) = .tuple #[ov (some ((n : Rat) / d)), .int .i64 0] := by
 unfold makeQ; rw [if_neg hd]; rfl
theorem q_div1 (n : Int) : (n : Rat) / ((1 : Int) : Rat) = (n : Rat) := by grind
theorem c_Of1 {w : World} {n : Int} (hT : Tab w) (hn : I64 n) : Calls Tryz.prog 50 #[.int .i64 n, .int .i64 1] w (Ret fun r w' => Ext w w' ∧ r = .tuple #[ov (some (qI n)), .int .i64 0]) := by
 have := c_Of (w := w) (x := n) (y := 1) hT hn.1 hn.2 (by decide) (by decide)
 rw [ofQ (by decide), q_div1] at this
 exact this
theorem c_of {w : World} {n d : Int} (hT : Tab w) (hn : I64 n) (hd : I64 d) (h0 : d ≠ 0) : Calls Tryz.prog 29 #[.int .i64 n, .int .i64 d] w (Ret fun r w' => Ext w w' ∧ r = ov (some ((n : Rat) / d))) := by
 have cc1 : ∀ {W : World}, Ext w W → Calls Tryz.prog 50 #[.int .i64 n, .int .i64 d] W (Ret fun r w' => Ext W w' ∧ r = .tuple #[ov (some ((n : Rat) / d)), .int .i64 0]) := fun {W} x => by
  have := c_Of (w := W) (x := n) (y := d) (hT.ext x) hn.1 hn.2 hd.1 hd.2
  rw [ofQ h0] at this
  exact this
 apply e_law26_of
 unfold s_law26_of
 have h := Hp.init [] w
 refine alS h fun g1 w h => ?_
 refine cl1 h n_rational_Of (cc1 h.ext) fun w h => ?_
 refine Ex2 (alS h fun g2 w h => ?_)
 refine stA h 0 rfl rfl rfl rfl fun w h => ?_
 refine Bn_neF (by omega) (If_F (ldA h 0 rfl rfl ?_))
 refine stA h 1 rfl rfl rfl rfl fun w h => ?_
 refine rcA h 1 rfl rfl ?_
 dsimp only [List.set] at h
 exact Ret.mk ⟨h.ext, rfl⟩
theorem itoa1 : Lib.itoa ((1 : Nat) : Int) = [49] := by
 unfold Lib.itoa; rw [if_neg (by decide)]; exact dec_lt (u := 1) (by decide)
theorem ov_int (n : Int) : ov (some (qI n)) = .agg #[str (Lib.itoa n), str [49]] := by
 show Value.agg #[str (Lib.itoa (n : Rat).num), str (Lib.itoa (((n : Rat).den : Nat) : Int))] = _
 rw [Rat.num_intCast, Rat.den_intCast, itoa1]
theorem c_fOf1 {w : World} {n : Int} (hn : I64 n) : Calls Tryz.prog 37 #[.int .i64 n] w (Ret fun r w' => Ext w w' ∧ r = ov (some (qI n))) := by
 have cc1 := fun {W : World} (_ : Ext w W) => c_rFromInt (w := W) hn.1 hn.2
 rw [ov_int]
 apply e_ref26_Of
 unfold s_ref26_Of
 have h := Hp.init [] w
 refine alS h fun g1 w h => ?_
 refine cl1 h n_ref03_FromInt (cc1 h.ext) fun w h => ?_
 refine bdS (PC.cons (by rfl) (PC.cons (by rfl) PC.nil)) (by rfl) ?_
 refine stA h 0 rfl rfl rfl rfl fun w h => ?_
 refine rcA h 0 rfl rfl ?_
 dsimp only [List.set] at h
 exact Ret.mk ⟨h.ext, rfl⟩
noncomputable def shR (D : Nat) (p : RS) : Option Rat := if p.1.length ≤ D ∧ p.2.length ≤ D then (qv p).bind fun x => if 0 ≤ x then some x else none else none
theorem dec_head (n : Nat) : ∃ b l, Lib.decDigits n = b :: l ∧ b ≠ 45 := by
 rcases h : Lib.decDigits n with _ | ⟨b, l⟩
 ·exact absurd h (dec_ne n)
 ·refine ⟨b, l, rfl, fun e => ?_⟩
  have := dec_isD n b (by rw [h]; simp)
  subst e
  exact absurd this (by decide)
theorem itoa_pre (z : Int) : Lib.hasPrefix (Lib.itoa z) [45] = decide (z < 0) := by
 unfold Lib.hasPrefix Lib.itoa
 by_cases h : z < 0
 ·rw [if_pos h]; simp [h]
 ·rw [if_neg h]
  obtain ⟨b, l, e, hb⟩ := dec_head z.toNat
  rw [e]
  have hbb : ((45 : UInt8) == b) = false := beq_eq_false_iff_ne.2 (fun e => hb e.symm)
  rw [decide_eq_false h]
  show ((45 : UInt8) == b && [].isPrefixOf l) = false
  rw [hbb]; rfl
theorem num_neg {x : Rat} : x.num < 0 ↔ ¬ 0 ≤ x := by rw [← Rat.num_nonneg]; omega
theorem itoa_pos {z : Int} (h : 0 ≤ z) : ∃ b l, Lib.itoa z = b :: l ∧ b ≠ 45 := by
 unfold Lib.itoa; rw [if_neg (by omega)]; exact dec_head _
theorem u8n {b : UInt8} (h : b ≠ 45) : (b.toNat : Int) < 45 ∨ 45 < (b.toNat : Int) := by
 have : b.toNat ≠ 45 := fun e => h (UInt8.toNat_inj.1 e)
 omega
theorem itoa_neg {z : Int} (h : z < 0) : ∃ l, Lib.itoa z = 45 :: l := by
 unfold Lib.itoa; rw [if_pos h]; exact ⟨_, rfl⟩
section
variable {w : World} {p : RS} {D : Nat} (k1 : p.1.length ≤ 1000000) (k2 : p.2.length ≤ 1000000) (hD : D ≤ 1000)
include k1 k2 hD
theorem c_short (hT : Tab w) : Calls Tryz.prog 45 #[.agg #[str p.1, str p.2], .int .i64 (D : Int)] w (Ret fun r w' => Ext w w' ∧ r = .bool (shR D p).isSome) := by
 have hv : ∀ {W : World}, Ext w W → Calls Tryz.prog 64 #[.agg #[str p.1, str p.2]] W (Ret fun r w' => Ext W w' ∧ r = .bool (okB p.1 p.2)) := fun {W} x => c_qValid (w := W) k1 k2 (hT.ext x)
 by_cases h1 : p.1.length ≤ D
 rotate_left
 ·have e : (shR D p).isSome = false := by unfold shR; rw [if_neg (fun h => h1 h.1)]; rfl
  rw [e]
  apply e_contract_short
  unfold s_contract_short
  have h := Hp.init [] w
  refine bxA h fun g1 w h => ?_
  refine faS (Eng.ld1 h 0 rfl rfl (Bt_lenT ?_))
  refine Bn_leF (by omega) (Gd_FT (Gd_FT (Gd_FT (Gd_FT (Gd_FT (Pick_F (Gd_FT (Gd_FT (Pick_F (Gd_FT (Gd_FT (Gd_FT (Gd_FT (Pick_F ?_))))))))))))))
  exact Ret.mk ⟨h.ext, rfl⟩
 by_cases h2 : p.2.length ≤ D
 rotate_left
 ·have e : (shR D p).isSome = false := by unfold shR; rw [if_neg (fun h => h2 h.2)]; rfl
  rw [e]
  apply e_contract_short
  unfold s_contract_short
  have h := Hp.init [] w
  refine bxA h fun g1 w h => ?_
  refine faS (Eng.ld1 h 0 rfl rfl (Bt_lenT ?_))
  refine Bn_leT (by omega) (Gd_T (faS (Gd_T (Eng.ld1 h 0 rfl rfl (Gd_T (Bt_lenT ?_))))))
  refine Gd_T (Gd_T (Bn_leF (by omega) (Pick_T (Gd_FT (Gd_FT (Pick_F (Gd_FT (Gd_FT (Gd_FT (Gd_FT (Pick_F ?_)))))))))))
  exact Ret.mk ⟨h.ext, rfl⟩
 by_cases ho : okR p.1 p.2
 rotate_left
 ·have e : (shR D p).isSome = false := by unfold shR; rw [if_pos ⟨h1, h2⟩, qv_none ho]; rfl
  have cc1 : ∀ {W : World}, Ext w W → Calls Tryz.prog 64 #[.agg #[str p.1, str p.2]] W (Ret fun r w' => Ext W w' ∧ r = .bool false) := fun {W} x => by
   have := hv x
   rw [okB_f ho] at this; exact this
  rw [e]
  apply e_contract_short
  unfold s_contract_short
  have h := Hp.init [] w
  refine bxA h fun g1 w h => ?_
  refine faS (Eng.ld1 h 0 rfl rfl (Bt_lenT ?_))
  refine Bn_leT (by omega) (Gd_T (faS (Gd_T (Eng.ld1 h 0 rfl rfl (Gd_T (Bt_lenT ?_))))))
  refine Gd_T (Gd_T (Bn_leT (by omega) (Pick_T (Gd_T (ldA h 0 rfl rfl ?_)))))
  refine Gd_T (cl1 h n_rational_Valid (cc1 h.ext) fun w h => ?_)
  refine Pick_T (Gd_FT (Gd_FT (Gd_FT (Gd_FT (Pick_F ?_)))))
  exact Ret.mk ⟨h.ext, rfl⟩
 obtain ⟨x, rfl, hx, hq⟩ := qv_ex ho
 have cc1 : ∀ {W : World}, Ext w W → Calls Tryz.prog 64 #[.agg #[str (tx x).1, str (tx x).2]] W (Ret fun r w' => Ext W w' ∧ r = .bool true) := fun {W} x => by
  have := hv x
  rw [okB_t ho] at this; exact this
 have hp : ∀ {W : World}, Calls Tryz.prog 74 #[str (tx x).1, str [45]] W (Ret fun r w' => Ext W w' ∧ r = .bool (decide (x.num < 0))) := fun {W} => by
  refine (Tryz.strings_HasPrefix ⟨(tx x).1.toArray⟩ ⟨([45] : List UInt8).toArray⟩ W).mono ?_
  rintro e w' ⟨rfl, rfl⟩
  refine Ret.mk ⟨.refl _, ?_⟩
  have := itoa_pre x.num
  simp only [this]
 by_cases h0 : 0 ≤ x
 ·have e : (shR D (tx x)).isSome = true := by unfold shR; rw [if_pos ⟨h1, h2⟩, hq]; simp [h0]
  have hn : ¬ x.num < 0 := by rw [num_neg]; exact fun h => h h0
  have cc2 : ∀ {W : World}, Ext w W → Calls Tryz.prog 74 #[str (tx x).1, str [45]] W (Ret fun r w' => Ext W w' ∧ r = .bool false) := fun {W} _ => by
   have := hp (W := W)
   rw [decide_eq_false hn] at this; exact this
  rw [e]
  apply e_contract_short
  unfold s_contract_short
  have h := Hp.init [] w
  refine bxA h fun g1 w h => ?_
  refine faS (Eng.ld1 h 0 rfl rfl (Bt_lenT ?_))
  refine Bn_leT (by omega) (Gd_T (faS (Gd_T (Eng.ld1 h 0 rfl rfl (Gd_T (Bt_lenT ?_))))))
  refine Gd_T (Gd_T (Bn_leT (by omega) (Pick_T (Gd_T (ldA h 0 rfl rfl ?_)))))
  refine Gd_T (cl1 h n_rational_Valid (cc1 h.ext) fun w h => ?_)
  refine Pick_T (Gd_T (faS (Gd_T (Eng.ld1 h 0 rfl rfl (Gd_T (cl1 h n_strings_HasPrefix (cc2 h.ext) fun w h => ?_))))))
  refine Gd_T (Un_F (Pick_T ?_))
  exact Ret.mk ⟨h.ext, rfl⟩
 ·have e : (shR D (tx x)).isSome = false := by unfold shR; rw [if_pos ⟨h1, h2⟩, hq]; simp [h0]
  have hn : x.num < 0 := num_neg.2 h0
  have cc2 : ∀ {W : World}, Ext w W → Calls Tryz.prog 74 #[str (tx x).1, str [45]] W (Ret fun r w' => Ext W w' ∧ r = .bool true) := fun {W} _ => by
   have := hp (W := W)
   rw [decide_eq_true hn] at this; exact this
  rw [e]
  apply e_contract_short
  unfold s_contract_short
  have h := Hp.init [] w
  refine bxA h fun g1 w h => ?_
  refine faS (Eng.ld1 h 0 rfl rfl (Bt_lenT ?_))
  refine Bn_leT (by omega) (Gd_T (faS (Gd_T (Eng.ld1 h 0 rfl rfl (Gd_T (Bt_lenT ?_))))))
  refine Gd_T (Gd_T (Bn_leT (by omega) (Pick_T (Gd_T (ldA h 0 rfl rfl ?_)))))
  refine Gd_T (cl1 h n_rational_Valid (cc1 h.ext) fun w h => ?_)
  refine Pick_T (Gd_T (faS (Gd_T (Eng.ld1 h 0 rfl rfl (Gd_T (cl1 h n_strings_HasPrefix (cc2 h.ext) fun w h => ?_))))))
  refine Gd_T (Un_T (Pick_T ?_))
  exact Ret.mk ⟨h.ext, rfl⟩
theorem c_fshort : Calls Tryz.prog 46 #[.agg #[str p.1, str p.2], .int .i64 (D : Int)] w (Ret fun r w' => Ext w w' ∧ r = .bool (shR D p).isSome) := by
 have hv : ∀ {W : World}, Ext w W → Calls Tryz.prog 71 #[.agg #[str p.1, str p.2]] W (Ret fun r w' => Ext W w' ∧ r = .bool (okB p.1 p.2)) := fun {W} x => c_fValid (w := W) k1 k2
 by_cases h1 : p.1.length ≤ D
 rotate_left
 ·have e : (shR D p).isSome = false := by unfold shR; rw [if_neg (fun h => h1 h.1)]; rfl
  rw [e]
  apply e_ref26_short
  unfold s_ref26_short
  have h := Hp.init [] w
  refine bxA h fun g1 w h => ?_
  refine faS (Eng.ld1 h 0 rfl rfl (Bt_lenT ?_))
  refine Bn_leF (by omega) (Gd_FT (Gd_FT (Gd_FT (Gd_FT (Gd_FT (Pick_F (Gd_FT (Gd_FT (Pick_F (Gd_FT (Gd_FT (Gd_FT (Gd_FT (Pick_F ?_))))))))))))))
  exact Ret.mk ⟨h.ext, rfl⟩
 by_cases h2 : p.2.length ≤ D
 rotate_left
 ·have e : (shR D p).isSome = false := by unfold shR; rw [if_neg (fun h => h2 h.2)]; rfl
  rw [e]
  apply e_ref26_short
  unfold s_ref26_short
  have h := Hp.init [] w
  refine bxA h fun g1 w h => ?_
  refine faS (Eng.ld1 h 0 rfl rfl (Bt_lenT ?_))
  refine Bn_leT (by omega) (Gd_T (faS (Gd_T (Eng.ld1 h 0 rfl rfl (Gd_T (Bt_lenT ?_))))))
  refine Gd_T (Gd_T (Bn_leF (by omega) (Pick_T (Gd_FT (Gd_FT (Pick_F (Gd_FT (Gd_FT (Gd_FT (Gd_FT (Pick_F ?_)))))))))))
  exact Ret.mk ⟨h.ext, rfl⟩
 by_cases ho : okR p.1 p.2
 rotate_left
 ·have e : (shR D p).isSome = false := by unfold shR; rw [if_pos ⟨h1, h2⟩, qv_none ho]; rfl
  have cc1 : ∀ {W : World}, Ext w W → Calls Tryz.prog 71 #[.agg #[str p.1, str p.2]] W (Ret fun r w' => Ext W w' ∧ r = .bool false) := fun {W} x => by
   have := hv x
   rw [okB_f ho] at this; exact this
  rw [e]
  apply e_ref26_short
  unfold s_ref26_short
  have h := Hp.init [] w
  refine bxA h fun g1 w h => ?_
  refine faS (Eng.ld1 h 0 rfl rfl (Bt_lenT ?_))
  refine Bn_leT (by omega) (Gd_T (faS (Gd_T (Eng.ld1 h 0 rfl rfl (Gd_T (Bt_lenT ?_))))))
  refine Gd_T (Gd_T (Bn_leT (by omega) (Pick_T (Gd_T (ldA h 0 rfl rfl ?_)))))
  refine Gd_T (cl1 h n_ref04_Valid (cc1 h.ext) fun w h => ?_)
  refine Pick_T (Gd_FT (Gd_FT (Gd_FT (Gd_FT (Pick_F ?_)))))
  exact Ret.mk ⟨h.ext, rfl⟩
 obtain ⟨x, rfl, hx, hq⟩ := qv_ex ho
 have cc1 : ∀ {W : World}, Ext w W → Calls Tryz.prog 71 #[.agg #[str (tx x).1, str (tx x).2]] W (Ret fun r w' => Ext W w' ∧ r = .bool true) := fun {W} x => by
  have := hv x
  rw [okB_t ho] at this; exact this
 by_cases h0 : 0 ≤ x
 ·have e : (shR D (tx x)).isSome = true := by unfold shR; rw [if_pos ⟨h1, h2⟩, hq]; simp [h0]
  obtain ⟨b, l, hb, hb45⟩ := itoa_pos (z := x.num) (Rat.num_nonneg.2 h0)
  rw [e]
  apply e_ref26_short
  unfold s_ref26_short
  have h := Hp.init [] w
  have hb3 := u8n hb45
  refine bxA h fun g1 w h => ?_
  refine faS (Eng.ld1 h 0 rfl rfl (Bt_lenT ?_))
  refine Bn_leT (by omega) (Gd_T (faS (Gd_T (Eng.ld1 h 0 rfl rfl (Gd_T (Bt_lenT ?_))))))
  refine Gd_T (Gd_T (Bn_leT (by omega) (Pick_T (Gd_T (ldA h 0 rfl rfl ?_)))))
  refine Gd_T (cl1 h n_ref04_Valid (cc1 h.ext) fun w h => ?_)
  refine Pick_T (Gd_T (faS (Gd_T (Eng.ld1 h 0 rfl rfl (Gd_T (Ix_s (j := 0) rfl (by show (Lib.itoa x.num)[0]? = some b; rw [hb]; rfl) k1 ?_))))))
  refine Gd_T (Bn_neT (by omega) (Pick_T ?_))
  exact Ret.mk ⟨h.ext, rfl⟩
 ·have e : (shR D (tx x)).isSome = false := by unfold shR; rw [if_pos ⟨h1, h2⟩, hq]; simp [h0]
  obtain ⟨l, hl⟩ := itoa_neg (num_neg.2 h0)
  rw [e]
  apply e_ref26_short
  unfold s_ref26_short
  have h := Hp.init [] w
  have h45 : ((45 : UInt8).toNat : Int) = 45 := rfl
  refine bxA h fun g1 w h => ?_
  refine faS (Eng.ld1 h 0 rfl rfl (Bt_lenT ?_))
  refine Bn_leT (by omega) (Gd_T (faS (Gd_T (Eng.ld1 h 0 rfl rfl (Gd_T (Bt_lenT ?_))))))
  refine Gd_T (Gd_T (Bn_leT (by omega) (Pick_T (Gd_T (ldA h 0 rfl rfl ?_)))))
  refine Gd_T (cl1 h n_ref04_Valid (cc1 h.ext) fun w h => ?_)
  refine Pick_T (Gd_T (faS (Gd_T (Eng.ld1 h 0 rfl rfl (Gd_T (Ix_s (j := 0) (b := 45) rfl (by show (Lib.itoa x.num)[0]? = some 45; rw [hl]; rfl) k1 ?_))))))
  refine Gd_T (Bn_neF (by omega) (Pick_T ?_))
  exact Ret.mk ⟨h.ext, rfl⟩
end
theorem cmp_le (x y : Rat) : cmpQ x y ≤ 0 ↔ x ≤ y := by
 rcases cmpQ_cases x y with ⟨h, e⟩ | ⟨h, e⟩ | ⟨h, e⟩ <;> rw [e]
 ·exact ⟨fun _ => Rat.le_of_lt h, fun _ => by decide⟩
 ·exact ⟨fun _ => by rw [h]; exact Rat.le_refl, fun _ => by decide⟩
 ·exact ⟨fun h1 => absurd h1 (by decide), fun h1 => absurd h (Rat.not_lt.2 h1)⟩
theorem cmp_lt (x y : Rat) : cmpQ x y < 0 ↔ x < y := by
 rcases cmpQ_cases x y with ⟨h, e⟩ | ⟨h, e⟩ | ⟨h, e⟩ <;> rw [e]
 ·exact ⟨fun _ => h, fun _ => by decide⟩
 ·exact ⟨fun h1 => absurd h1 (by decide), fun h1 => absurd h1 (by rw [h]; exact Rat.lt_irrefl)⟩
 ·exact ⟨fun h1 => absurd h1 (by decide), fun h1 => absurd h (Rat.not_lt.2 (Rat.le_of_lt h1))⟩
theorem cmp_bd (x y : Rat) : -1 ≤ cmpQ x y ∧ cmpQ x y ≤ 1 := by
 rcases cmpQ_cases x y with ⟨h, e⟩ | ⟨h, e⟩ | ⟨h, e⟩ <;> rw [e] <;> decide
theorem rb_int {n : Int} (h : I64 n) : RB (qI n) := ⟨by rw [Rat.num_intCast]; exact i64M h.1 h.2, by rw [Rat.den_intCast]; exact i64M (n := ((1 : Nat) : Int)) (by decide) (by decide)⟩
def whZ (x : Rat) (most : Int) : Int := min x.floor most
theorem floor_ge {x : Rat} {n : Int} : n ≤ x.floor ↔ qI n ≤ x := Rat.le_floor_iff
theorem floor_nn {x : Rat} (h : 0 ≤ x) : 0 ≤ x.floor := floor_ge.2 h
theorem grid0 {x : Rat} (hx : RB x) : gridQ false 0 x = rQ (qI x.floor) := by
 have e0 : ten 0 = 1 := rfl
 have eN : gridN false x 0 = x.floor := by
  unfold gridN
  rw [if_neg (by simp), e0, Int.mul_one, Rat.floor_def]
 unfold gridQ
 rw [if_pos ⟨⟨by decide, by decide⟩, by rw [e0, Int.mul_one]; exact hx.n, by rw [eN, Rat.floor_def]; exact ediv_max hx.n⟩, eN, e0, q_div1]
theorem c_down0 {w : World} {x : Rat} (hx : RB x) (hT : Tab w) : Calls Tryz.prog 77 #[ov (some x), .int .i64 0] w (Ret fun r w' => Ext w w' ∧ r = .tuple #[ov (some (qI x.floor)), .int .i64 0]) := by
 have := c_qDown (k := 0) (itoa_ok hx.n) (itoa_ok hx.d) hT
 rw [ans1_ok hx, grid0 hx] at this
 exact this
theorem dv_take {l : List UInt8} {j : Nat} {b : UInt8} (h : l[j]? = some b) : dv (l.take (j + 1)) = dv (l.take j) * 10 + (b.toNat - 48) := by rw [take_snoc h, dv_snoc]
theorem dv_mono {l : List UInt8} (j : Nat) : dv (l.take j) ≤ dv l := by
 conv => rhs; rw [← List.take_append_drop j l, dv_append]
 have : 1 ≤ 10 ^ (l.drop j).length := Nat.pow_pos (by decide)
 have := Nat.le_mul_of_pos_right (dv (l.take j)) this
 omega
section
variable {w0 : World} {x : Rat} {m : Int} (hx : RB x) (h0 : 0 ≤ x) (hm : 0 ≤ m ∧ m ≤ 1000000000)
include hx h0 hm
set_option maxHeartbeats 2000000 in
theorem c_whole (hT : Tab w0) : Calls Tryz.prog 51 #[ov (some x), .int .i64 m] w0 (Ret fun r w' => Ext w0 w' ∧ r = .int .i64 (whZ x m)) := by
 have hm0 := hm.1
 have hm1 := hm.2
 have hb := cmp_bd x (qI m)
 have cc1 := fun {W : World} (x : Ext w0 W) => c_Of1 (w := W) (n := m) (hT.ext x) (by omega)
 have cc2 := fun {W : World} (e : Ext w0 W) => o_cmp (w := W) (x := x) (y := qI m) hx (rb_int (by omega)) (hT.ext e)
 by_cases hc : 0 ≤ cmpQ x (qI m)
 ·have e : whZ x m = m := by
   have h1 : ¬ x < qI m := fun h => by have := (cmp_lt _ _).2 h; omega
   have h2 := floor_ge.2 (Rat.not_lt.1 h1)
   unfold whZ; omega
  rw [e]
  apply e_contract_whole
  unfold s_contract_whole
  have h := Hp.init [] w0
  refine bxA h fun g1 w h => ?_
  refine cl1 h n_rational_Of (cc1 h.ext) fun w h => ?_
  refine Ex2 (alS h fun g2 w h => ?_)
  refine stA h 0 rfl rfl rfl rfl fun w h => ?_
  refine ldA h 1 rfl rfl ?_
  refine ldA h 0 rfl rfl ?_
  refine cl1 h n_rational_Compare (cc2 h.ext) fun w h => ?_
  refine Bn_geT (by omega) (If_T ?_)
  dsimp only [List.set] at h
  exact Ret.mk ⟨h.ext, rfl⟩
 have hlt : x < qI m := (cmp_lt _ _).1 (by omega)
 have hfl : x.floor < m := by
  refine Int.not_le.1 fun h => ?_
  exact absurd hlt (Rat.not_lt.2 (floor_ge.1 h))
 have hf0 := floor_nn h0
 have e : whZ x m = x.floor := by unfold whZ; omega
 rw [e]
 obtain ⟨l, hl⟩ : ∃ l, Lib.itoa x.floor = l := ⟨_, rfl⟩
 have hd : dv l = x.floor.toNat := by rw [← hl]; unfold Lib.itoa; rw [if_neg (by omega), dv_dec]
 have hD : ∀ b ∈ l, isD b := by rw [← hl]; unfold Lib.itoa; rw [if_neg (by omega)]; exact dec_isD _
 have hll : l.length ≤ 1000000 := by rw [← hl]; exact itoa_ok (i64M (by omega) (by omega))
 have cc3 : ∀ {W : World}, Ext w0 W → Calls Tryz.prog 77 #[ov (some x), .int .i64 0] W (Ret fun r w' => Ext W w' ∧ r = .tuple #[.agg #[str l, str [49]], .int .i64 0]) := fun {W} e => by
  have := c_down0 (w := W) hx (hT.ext e)
  rw [ov_int, hl] at this
  exact this
 apply e_contract_whole
 unfold s_contract_whole
 have h := Hp.init [] w0
 refine bxA h fun g1 w h => ?_
 refine cl1 h n_rational_Of (cc1 h.ext) fun w h => ?_
 refine Ex2 (alS h fun g2 w h => ?_)
 refine stA h 0 rfl rfl rfl rfl fun w h => ?_
 refine ldA h 1 rfl rfl ?_
 refine ldA h 0 rfl rfl ?_
 refine cl1 h n_rational_Compare (cc2 h.ext) fun w h => ?_
 refine Bn_geF (by omega) (If_F (ldA h 1 rfl rfl ?_))
 refine cl1 h n_rational_Down (cc3 h.ext) fun w h => ?_
 refine Ex2 (alS h fun g3 w h => ?_)
 refine stA h 0 rfl rfl rfl rfl fun w h => ?_
 refine faS (Eng.ld1 h 0 rfl rfl (Bt_lenT ?_))
 dsimp only [List.set] at h
 refine Lp2.mk (fun n i W => ∃ j z : Nat, j ≤ l.length ∧ z = dv (l.take j) ∧ i = .int .i64 j ∧ n = .int .i64 (z : Int) ∧ Hp [] w0 W [bx g3 23 [str l, str [49]]])
  (fun _ i _ => match i with | .int _ i' => l.length - i'.toNat | _ => 0) ⟨0, 0, by omega, rfl, rfl, rfl, h.pick [0] (by decide) rfl⟩ ?_
 clear h
 rintro _ _ W ⟨j, z, hj, hz, rfl, rfl, h⟩
 have hzm := dv_mono (l := l) j
 by_cases hjl : j < l.length
 ·refine Exists.elim (p := fun b => l[j]? = some b) ⟨_, List.getElem?_eq_getElem hjl⟩ fun b hb => ?_
  have hbD := hD b (List.mem_of_getElem? hb)
  have hs := dv_take hb
  have hzm' := dv_mono (l := l) (j + 1)
  have hbl : 48 ≤ b.toNat ∧ b.toNat ≤ 57 := hbD
  refine Bn_ltT (by omega) (If_T (Bn_mu (by omega) (by omega) (faS (Eng.ld1 h 0 rfl rfl (Ix_s (by rfl) ‹_› (by first | assumption | omega) ?_)))))
  refine Bn_su8 (by omega) (by omega) (Cv_8 (by omega) (by omega) ?_)
  refine Bn_ad (by omega) (by omega) (Bn_ad (by omega) (by omega) ?_)
  exact ⟨⟨j + 1, dv (l.take (j + 1)), by omega, rfl, rfl, by rw [hs, ← hz]; congr 1; omega, h⟩, by show l.length - ((j : Int) + 1).toNat < l.length - (j : Int).toNat; omega⟩
 have hjl' : j = l.length := by omega
 subst hjl'
 rw [List.take_length, hd] at hz
 refine Bn_ltF (by omega) (If_F ?_)
 have : (z : Int) = x.floor := by omega
 exact Ret.mk ⟨h.ext, by rw [this]⟩
set_option maxHeartbeats 2000000 in
theorem c_Floor : Calls Tryz.prog 43 #[ov (some x), .int .i64 m] w0 (Ret fun r w' => Ext w0 w' ∧ r = .int .i64 (whZ x m)) := by
 have hm0 := hm.1
 have hm1 := hm.2
 apply e_ref26_Floor
 unfold s_ref26_Floor
 have h := Hp.init [] w0
 refine bxA h fun g1 w h => ?_
 refine Bn_ad (by omega) (by omega) ?_
 refine Lp2.mk (fun a b W => ∃ lo hi : Int, a = .int .i64 lo ∧ b = .int .i64 hi ∧ 0 ≤ lo ∧ lo < hi ∧ hi ≤ m + 1 ∧ qI lo ≤ x ∧ (x < qI hi ∨ hi = m + 1) ∧ Hp [] w0 W [bx g1 23 (fO (some x))])
  (fun a b _ => match a, b with | .int _ a', .int _ b' => (b' - a').toNat | _, _ => 0) ⟨0, m + 1, rfl, rfl, by omega, by omega, by omega, h0, .inr rfl, h⟩ ?_
 clear h
 rintro _ _ W ⟨lo, hi, rfl, rfl, a1, a2, a3, a4, a5, h⟩
 by_cases hd : 1 < hi - lo
 ·have cc1 := fun {W : World} (_ : Ext w0 W) => c_fOf1 (w := W) (n := lo + (hi - lo) / 2) (by omega)
  have cc2 := fun {W : World} (_ : Ext w0 W) => o_fcmp (w := W) (x := qI (lo + (hi - lo) / 2)) (y := x) (rb_int (by omega)) hx
  by_cases hc : cmpQ (qI (lo + (hi - lo) / 2)) x ≤ 0
  ·refine Bn_su (by omega) (by omega) (Bn_gtT (by omega) (If_T (Bn_su (by omega) (by omega) (Bn_qu (by omega) (by omega) (by omega) (Bn_ad (by omega) (by omega) ?_)))))
   replace h := h.dr
   refine dlA h 0 rfl rfl ?_
   refine cl1 h n_ref26_Of (cc1 h.ext) fun w h => ?_
   refine klA h 0 rfl rfl ?_
   refine cl1 h n_ref04_Compare (cc2 h.ext) fun w h => ?_
   refine Dv_leT (by omega) (If_T ?_)
   exact ⟨⟨_, _, rfl, rfl, by omega, by omega, by omega, (cmp_le _ _).1 hc, a5, h⟩, by show (hi - (lo + (hi - lo) / 2)).toNat < (hi - lo).toNat; omega⟩
  ·refine Bn_su (by omega) (by omega) (Bn_gtT (by omega) (If_T (Bn_su (by omega) (by omega) (Bn_qu (by omega) (by omega) (by omega) (Bn_ad (by omega) (by omega) ?_)))))
   replace h := h.dr
   refine dlA h 0 rfl rfl ?_
   refine cl1 h n_ref26_Of (cc1 h.ext) fun w h => ?_
   refine klA h 0 rfl rfl ?_
   refine cl1 h n_ref04_Compare (cc2 h.ext) fun w h => ?_
   refine Dv_leF (by omega) (If_F ?_)
   exact ⟨⟨_, _, rfl, rfl, by omega, by omega, by omega, a4, .inl (Rat.not_le.1 fun h => hc ((cmp_le _ _).2 h)), h⟩, by show (lo + (hi - lo) / 2 - lo).toNat < (hi - lo).toNat; omega⟩
 refine Bn_su (by omega) (by omega) (Bn_gtF (by omega) (If_F ?_))
 have : whZ x m = lo := by
  have h1 := floor_ge.2 a4
  unfold whZ
  rcases a5 with h2 | h2
  ·have h3 : x.floor < hi := Int.not_le.1 fun h => absurd h2 (Rat.not_lt.2 (floor_ge.1 h))
   omega
  ·omega
 exact Ret.mk ⟨h.ext, by rw [this]⟩
end
end Go.Proofs.YtjmdnjnjepinoaaGreatDoor
